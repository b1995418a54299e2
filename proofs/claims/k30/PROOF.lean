import PyProof.Rows.All
import Wide.All
import OpenK.AllK
import Wide.FinOn
import PyProof.EqAt
import PyProof.EqKinds
import PyProof.TupleCall
import KE.SortData
import HandS.ForMost
import HandS.Exc
import HandS.ExcOwn
import HandS.TryOnly
import HandS.WordsExc
import HandS.Defaults
import HandS.Walk
import HandS.IsInst
import HandS.TupAny
import HandS.TupLe
import HandS.Deep
import HandS.Zip
import HandS.Conv
import HandS.Flow
import HandS.Style
import HandS.Wide
import HandS.Codes
import HandS.HeadHook2
import HandS.TupSets
import HandS.TupLen
import KE.GoesMore
import HandS.SetFor
import HandS.Small
import KE.KStateDown
import HandS.Base
import HandS.Call
import HandS.Ends
import HandS.More
import HandS.Words
import HandS.Head0
import HandS.Head1
import HandS.Head2
import HandS.HeadEnd
import HandS.HeadHook1
import PySem.Challenge.RW_layfaces_k30_told_numbers_and_counts
set_option Elab.async false
set_option linter.all false
set_option maxRecDepth 100000
set_option maxHeartbeats 2000000
/-! Lay1: values as data, a memory of what may change, answers; how they stand in the abstract heap. -/
namespace Lf
open PySem PySem.Spec PyProof.Rows L2

/-- what may change: each a list or a dict, as data -/
abbrev Mem := List PyData
/-- a value in a slot: data (never changed any more), a thing of the memory, a def or class, a list that is read alone -/
inductive Wv where
  | d (x : PyData)
  | r (l : Nat)
  | f (a : Addr)
  | k (xs : List PyData)
/-- what an expression gives: a value, or a new thing that nobody else has -/
inductive Rv where
  | w (x : Wv)
  | own (x : PyData)
/-- an own error: its class by name, its fields -/
structure Xn where
  cls : Str
  fs : List (Str × PyData)
inductive Ans (A : Type) where
  | val (a : A) (M : Mem)
  | exc (x : Xn) (M : Mem)
  | bad
@[simp] def Ans.bind {A B : Type} (a : Ans A) (f : A → Mem → Ans B) : Ans B :=
  match a with
  | .val a M => f a M
  | .exc x M => .exc x M
  | .bad => .bad
abbrev En := List (Option Wv)
abbrev Den := En → Mem → Ans Rv
abbrev DenT := En → Mem → Ans Bool
abbrev DenA := En → Mem → Ans (List Rv)
/-- a statement's answer -/
inductive SAns where
  | next (e : En) (M : Mem)
  | ret (r : Rv) (M : Mem)
  | brk (e : En) (M : Mem)
  | cont (e : En) (M : Mem)
  | exc (x : Xn) (e : En) (M : Mem)
  | bad
abbrev DenS := En → Mem → SAns

/-! ### data in the abstract heap -/
def kD : Key → PyData
  | .inl i => .int i
  | .inr x => .str x
/-- a tuple that stands in the heap -/
def TupAt (K : PySem.W.Frag) (G : Hp) (a : Addr) (xs : List V) : Prop := G a = some (.tup xs)
theorem TupAt.of {K : PySem.W.Frag} {G : Hp} {a : Addr} {xs : List V} (h : G a = some (.tup xs)) : TupAt K G a xs := h
mutual
inductive Rp (K : PySem.W.Frag) (G : Hp) : V → PyData → Prop
  | non : Rp K G .non .none
  | bl (b : Bool) : Rp K G (.bl b) (.bool b)
  | int (i : Int) : Rp K G (.int i) (.int i)
  | str (x : Str) : Rp K G (.str x) (.str x)
  | lst {a : Addr} {xs : List V} {ds : List PyData} : G a = some (.lst xs) → RpAll K G xs ds → Rp K G (.ref a) (.list ds)
  | tup {a : Addr} {xs : List V} {ds : List PyData} : TupAt K G a xs → RpAll K G xs ds → Rp K G (.ref a) (.tuple ds)
  | dT {a : Addr} {kvs : List (List Key × V)} {ds : List (PyData × PyData)} : G a = some (.dT kvs) → RpT K G kvs ds → Rp K G (.ref a) (.dict ds)
  | dK {a : Addr} {kvs : List (Key × V)} {ds : List (PyData × PyData)} : G a = some (.dK kvs) → RpK K G kvs ds → Rp K G (.ref a) (.dict ds)
inductive RpAll (K : PySem.W.Frag) (G : Hp) : List V → List PyData → Prop
  | nil : RpAll K G [] []
  | cons {v : V} {vs : List V} {d : PyData} {ds : List PyData} : Rp K G v d → RpAll K G vs ds → RpAll K G (v :: vs) (d :: ds)
inductive RpT (K : PySem.W.Frag) (G : Hp) : List (List Key × V) → List (PyData × PyData) → Prop
  | nil : RpT K G [] []
  | cons {k : List Key} {v : V} {vs : List (List Key × V)} {d : PyData} {ds : List (PyData × PyData)} : Rp K G v d → RpT K G vs ds → RpT K G ((k, v) :: vs) ((.tuple (k.map kD), d) :: ds)
inductive RpK (K : PySem.W.Frag) (G : Hp) : List (Key × V) → List (PyData × PyData) → Prop
  | nil : RpK K G [] []
  | cons {k : Key} {v : V} {vs : List (Key × V)} {d : PyData} {ds : List (PyData × PyData)} : Rp K G v d → RpK K G vs ds → RpK K G ((k, v) :: vs) ((kD k, d) :: ds)
end

def Sub (G H : Hp) : Prop := ∀ a o, G a = some o → H a = some o
theorem Sub.refl (H : Hp) : Sub H H := fun _ _ h => h
theorem Sub.trans {H H1 H2 : Hp} (a : Sub H H1) (b : Sub H1 H2) : Sub H H2 := fun x o h => b x o (a x o h)
theorem Sub.new {H : Hp} {p : Addr} {o : HO} (h : H p = none) : Sub H (upd H p o) := fun a u e => by
  rw [upd_ne (ne_of_none e h)]
  exact e
theorem Sub.mut {H H' : Hp} {p : Addr} {o : HO} (e : Sub H H') (h : H p = none) : Sub H (upd H' p o) := fun a u ha => by
  rw [upd_ne (ne_of_none ha h)]
  exact e a u ha
theorem Sub.rd {H H' : Hp} {a : Addr} {u : HO} (e : Sub H H') (h : Rd H a u) : Rd H' a u := by
  rcases h with h | ⟨o, h⟩
  · exact Or.inl (e a _ h)
  · exact Or.inr ⟨o, e a _ h⟩
theorem Sub.l {K : PySem.W.Frag} {H H' : Hp} {a : Addr} {xs : List V} (e : Sub H H') (h : SqL K H a xs) : SqL K H' a xs := by
  rcases h with h | h
  · exact Or.inl (e.rd h)
  · exact Or.inr h
theorem Sub.t2 {K : PySem.W.Frag} {H H' : Hp} {a : Addr} {xs : List V} (e : Sub H H') (h : SqT K H a xs) : SqT K H' a xs := by
  rcases h with h | h
  · exact Or.inl (e.rd h)
  · exact Or.inr h
theorem Sub.t {K : PySem.W.Frag} {H H' : Hp} {a : Addr} {xs : List V} (e : Sub H H') (h : TupAt K H a xs) : SqT K H' a xs := .of (e _ _ h)
theorem Sub.free {H H' : Hp} {p : Addr} (e : Sub H H') (h : H' p = none) : H p = none := by
  cases h1 : H p with
  | none => rfl
  | some o =>
    rw [e p o h1] at h
    cases h

section
variable {K : PySem.W.Frag} {G G' : Hp}
mutual
theorem Rp.mono (e : Sub G G') : ∀ {v : V} {d : PyData}, Rp K G v d → Rp K G' v d
  | _, _, .non => .non
  | _, _, .bl b => .bl b
  | _, _, .int i => .int i
  | _, _, .str x => .str x
  | _, _, .lst h t => .lst (e _ _ h) (RpAll.mono e t)
  | _, _, .tup h t => .tup (e _ _ h) (RpAll.mono e t)
  | _, _, .dT h t => .dT (e _ _ h) (RpT.mono e t)
  | _, _, .dK h t => .dK (e _ _ h) (RpK.mono e t)
theorem RpAll.mono (e : Sub G G') : ∀ {v : List V} {d : List PyData}, RpAll K G v d → RpAll K G' v d
  | _, _, .nil => .nil
  | _, _, .cons h t => .cons (Rp.mono e h) (RpAll.mono e t)
theorem RpT.mono (e : Sub G G') : ∀ {v : List (List Key × V)} {d : List (PyData × PyData)}, RpT K G v d → RpT K G' v d
  | _, _, .nil => .nil
  | _, _, .cons h t => .cons (Rp.mono e h) (RpT.mono e t)
theorem RpK.mono (e : Sub G G') : ∀ {v : List (Key × V)} {d : List (PyData × PyData)}, RpK K G v d → RpK K G' v d
  | _, _, .nil => .nil
  | _, _, .cons h t => .cons (Rp.mono e h) (RpK.mono e t)
end
theorem RpAll.length : ∀ {v : List V} {d : List PyData}, RpAll K G v d → v.length = d.length
  | _, _, .nil => rfl
  | _, _, .cons _ t => congrArg Nat.succ t.length
theorem RpAll.get : ∀ {v : List V} {d : List PyData} {i : Nat} {x : PyData}, RpAll K G v d → d[i]? = some x → ∃ y, v[i]? = some y ∧ Rp K G y x
  | _, _, 0, _, .cons h _, e => by cases e; exact ⟨_, rfl, h⟩
  | _, _, i + 1, x, .cons _ t, e => RpAll.get (i := i) (x := x) t e
  | _, _, _, _, .nil, e => by simp at e
theorem RpAll.getV : ∀ {v : List V} {d : List PyData} {i : Nat} {y : V}, RpAll K G v d → v[i]? = some y → ∃ x, d[i]? = some x ∧ Rp K G y x
  | _, _, 0, _, .cons h _, e => by cases e; exact ⟨_, rfl, h⟩
  | _, _, i + 1, x, .cons _ t, e => RpAll.getV (i := i) (y := x) t e
  | _, _, _, _, .nil, e => by simp at e
theorem RpAll.append : ∀ {v w : List V} {d e : List PyData}, RpAll K G v d → RpAll K G w e → RpAll K G (v ++ w) (d ++ e)
  | _, _, _, _, .nil, s => s
  | _, _, _, _, .cons h t, s => .cons h (RpAll.append t s)
theorem RpAll.take : ∀ {v : List V} {d : List PyData} (n : Nat), RpAll K G v d → RpAll K G (v.take n) (d.take n)
  | _, _, 0, _ => .nil
  | _, _, _ + 1, .nil => .nil
  | _, _, n + 1, .cons r t => .cons r (RpAll.take n t)
theorem RpAll.drop : ∀ {v : List V} {d : List PyData} (n : Nat), RpAll K G v d → RpAll K G (v.drop n) (d.drop n)
  | _, _, 0, r => r
  | _, _, _ + 1, .nil => .nil
  | _, _, n + 1, .cons _ t => RpAll.drop n t
theorem RpAll.set {x : V} {y : PyData} (r : Rp K G x y) : ∀ {v : List V} {d : List PyData} (i : Nat), RpAll K G v d → RpAll K G (v.set i x) (d.set i y)
  | _, _, _, .nil => .nil
  | _, _, 0, .cons _ t => .cons r t
  | _, _, i + 1, .cons q t => .cons q (RpAll.set r i t)
theorem RpAll.ofGet : ∀ {v : List V} {d : List PyData}, v.length = d.length → (∀ (i : Nat) y x, v[i]? = some y → d[i]? = some x → Rp K G y x) → RpAll K G v d
  | [], [], _, _ => .nil
  | [], _ :: _, h, _ => by simp at h
  | _ :: _, [], h, _ => by simp at h
  | v :: vs, d :: ds, h, g => .cons (g 0 v d rfl rfl) (RpAll.ofGet (by simpa using h) fun i y x a b => g (i + 1) y x a b)
end

/-- an object of the heap holds the data c -/
inductive ObR (K : PySem.W.Frag) (G : Hp) : HO → PyData → Prop
  | lst {xs : List V} {ds : List PyData} : RpAll K G xs ds → ObR K G (.lst xs) (.list ds)
  | dT {kvs : List (List Key × V)} {ds : List (PyData × PyData)} : RpT K G kvs ds → ObR K G (.dT kvs) (.dict ds)
  | dK {kvs : List (Key × V)} {ds : List (PyData × PyData)} : RpK K G kvs ds → ObR K G (.dK kvs) (.dict ds)
theorem ObR.mono {K : PySem.W.Frag} {G G' : Hp} (e : Sub G G') {o : HO} {c : PyData} : ObR K G o c → ObR K G' o c
  | .lst h => .lst (h.mono e)
  | .dT h => .dT (h.mono e)
  | .dK h => .dK (h.mono e)
theorem ObR.rp {K : PySem.W.Frag} {G : Hp} {o : HO} {c : PyData} {a : Addr} (h : G a = some o) : ObR K G o c → Rp K G (.ref a) c
  | .lst t => .lst h t
  | .dT t => .dT h t
  | .dK t => .dK h t

/-- the memory in the heap: G what never changes any more, i the addresses of the memory's things -/
structure MemR (K : PySem.W.Frag) (G H : Hp) (i : List Addr) (M : Mem) : Prop where
  sub : Sub G H
  nd : i.Nodup
  len : i.length = M.length
  fr : ∀ a ∈ i, G a = none
  at_ : ∀ (l : Nat) (a : Addr) (c : PyData), i[l]? = some a → M[l]? = some c → ∃ o, H a = some o ∧ ObR K G o c

def RpW (K : PySem.W.Frag) (G : Hp) (i : List Addr) (v : V) : Wv → Prop
  | .d x => Rp K G v x
  | .r l => ∃ a, i[l]? = some a ∧ v = .ref a
  | .f a => v = .ref a
  | .k xs => ∃ a vs, v = .ref a ∧ SqL K G a vs ∧ RpAll K G vs xs
def ResR (K : PySem.W.Frag) (G H : Hp) (i : List Addr) (v : V) : Rv → Prop
  | .w x => RpW K G i v x
  | .own c => ∃ a o, v = .ref a ∧ G a = none ∧ a ∉ i ∧ H a = some o ∧ ObR K G o c

def EnvR (K : PySem.W.Frag) (G : Hp) (i : List Addr) (e : En) (s : L2.St) : Prop :=
  e.length = s.length ∧ ∀ (j : Nat) (w : Wv), e[j]? = some (some w) → ∃ v, s[j]? = some (some v) ∧ RpW K G i v w

section
variable {K : PySem.W.Frag} {G G' H H' : Hp} {i i' : List Addr} {M : Mem} {v : V}
theorem get_pre {l : Nat} {a : Addr} (p : i <+: i') (h : i[l]? = some a) : i'[l]? = some a := by
  obtain ⟨t, rfl⟩ := p
  rw [List.getElem?_append_left (List.getElem?_eq_some_iff.mp h).1]
  exact h
theorem RpW.mono (e : Sub G G') (p : i <+: i') {w : Wv} (h : RpW K G i v w) : RpW K G' i' v w := by
  cases w with
  | d x => exact Rp.mono e h
  | r l => obtain ⟨a, h1, h2⟩ := h; exact ⟨a, get_pre p h1, h2⟩
  | f a => exact h
  | k xs => obtain ⟨a, vs, h1, h2, h3⟩ := h; exact ⟨a, vs, h1, e.l h2, h3.mono e⟩
theorem EnvR.mono (e : Sub G G') (p : i <+: i') {r : En} {s : L2.St} (h : EnvR K G i r s) : EnvR K G' i' r s :=
  ⟨h.1, fun j w q => let ⟨v, a, b⟩ := h.2 j w q; ⟨v, a, b.mono e p⟩⟩
theorem EnvR.set {r : En} {s : L2.St} (h : EnvR K G i r s) (j : Nat) {w : Wv} (hv : RpW K G i v w) : EnvR K G i (r.set j (some w)) (s.set j (some v)) := by
  refine ⟨by rw [List.length_set, List.length_set]; exact h.1, fun m w' q => ?_⟩
  by_cases hm : j = m
  · subst hm
    have hl : j < r.length := by
      have := (List.getElem?_eq_some_iff.mp q).1
      rwa [List.length_set] at this
    rw [List.getElem?_set_self hl] at q
    cases q
    rw [List.getElem?_set_self (h.1 ▸ hl)]
    exact ⟨v, rfl, hv⟩
  · rw [List.getElem?_set_ne hm] at q
    rw [List.getElem?_set_ne hm]
    exact h.2 m w' q
/-- a new thing is never changed any more -/
theorem MemR.freeze {a : Addr} {o : HO} (m : MemR K G H i M) (h1 : G a = none) (h2 : a ∉ i) (h3 : H a = some o) : MemR K (upd G a o) H i M := by
  refine ⟨fun b u e => ?_, m.nd, m.len, fun b hb => ?_, fun l b c e1 e2 => ?_⟩
  · by_cases hb : b = a
    · subst hb; rw [upd_same] at e; cases e; exact h3
    · rw [upd_ne hb] at e; exact m.sub b u e
  · rw [upd_ne (fun (z : b = a) => h2 (z ▸ hb))]
    exact m.fr b hb
  · obtain ⟨u, g1, g2⟩ := m.at_ l b c e1 e2
    exact ⟨u, g1, g2.mono (Sub.new h1)⟩
/-- the heap has grown by a new thing -/
theorem MemR.grow {p : Addr} {o : HO} (m : MemR K G H i M) (hp : H p = none) : MemR K G (upd H p o) i M :=
  ⟨m.sub.trans (Sub.new hp), m.nd, m.len, m.fr, fun l a c e1 e2 => let ⟨u, g1, g2⟩ := m.at_ l a c e1 e2; ⟨u, Sub.new hp a u g1, g2⟩⟩
theorem MemR.notin {p : Addr} (m : MemR K G H i M) (hp : H p = none) : p ∉ i := fun hm => by
  obtain ⟨l, hl, e⟩ := List.getElem_of_mem hm
  have e1 : i[l]? = some p := by rw [List.getElem?_eq_getElem hl, e]
  have hl2 : l < M.length := m.len ▸ hl
  obtain ⟨o, g, _⟩ := m.at_ l p M[l] e1 (List.getElem?_eq_getElem hl2)
  rw [hp] at g
  cases g
theorem MemR.gfree {p : Addr} (m : MemR K G H i M) (hp : H p = none) : G p = none := m.sub.free hp
/-- a new tuple is data at once -/
theorem MemR.newTup {p : Addr} {xs : List V} (m : MemR K G H i M) (hp : H p = none) : MemR K (upd G p (.tup xs)) (upd H p (.tup xs)) i M :=
  (m.grow hp).freeze (m.gfree hp) (m.notin hp) upd_same
/-- a new thing is put into the memory -/
theorem MemR.push {a : Addr} {o : HO} {c : PyData} (m : MemR K G H i M) (h1 : G a = none) (h2 : a ∉ i) (h3 : H a = some o) (hc : ObR K G o c) : MemR K G H (i ++ [a]) (M ++ [c]) := by
  refine ⟨m.sub, ?_, by simp [m.len], fun b hb => ?_, fun l b d e1 e2 => ?_⟩
  · rw [List.nodup_append]
    refine ⟨m.nd, by simp, fun x hx y hy => ?_⟩
    have : y = a := by simpa using hy
    subst this
    exact fun z => h2 (z ▸ hx)
  · rcases List.mem_append.mp hb with hb | hb
    · exact m.fr b hb
    · have : b = a := by simpa using hb
      subst this; exact h1
  · by_cases hl : l < i.length
    · rw [List.getElem?_append_left hl] at e1
      rw [List.getElem?_append_left (m.len ▸ hl)] at e2
      exact m.at_ l b d e1 e2
    · have hlen : l < (i ++ [a]).length := (List.getElem?_eq_some_iff.mp e1).1
      have : l = i.length := by rw [List.length_append] at hlen; simp at hlen; omega
      subst this
      rw [List.getElem?_append_right (Nat.le_refl _)] at e1
      rw [m.len, List.getElem?_append_right (Nat.le_refl _)] at e2
      simp at e1 e2
      subst e1; subst e2
      exact ⟨o, h3, hc⟩
/-- a thing of the memory is changed -/
theorem MemR.write {l : Nat} {a : Addr} {o : HO} {c : PyData} (m : MemR K G H i M) (h1 : i[l]? = some a) (hc : ObR K G o c) : MemR K G (upd H a o) i (M.set l c) := by
  have ha : a ∈ i := List.mem_of_getElem? h1
  refine ⟨m.sub.mut (m.fr a ha), m.nd, by rw [List.length_set]; exact m.len, m.fr, fun l' b d e1 e2 => ?_⟩
  by_cases hl : l = l'
  · subst hl
    rw [h1] at e1; cases e1
    have hlt : l < M.length := by rw [← m.len]; exact (List.getElem?_eq_some_iff.mp h1).1
    rw [List.getElem?_set_self hlt] at e2
    cases e2
    exact ⟨o, upd_same, hc⟩
  · rw [List.getElem?_set_ne hl] at e2
    have hb : b ≠ a := fun z => hl (by
      subst z
      obtain ⟨q1, e3⟩ := List.getElem?_eq_some_iff.mp h1
      obtain ⟨q2, e4⟩ := List.getElem?_eq_some_iff.mp e1
      exact (List.getElem_inj m.nd).mp (e3.trans e4.symm))
    rw [upd_ne hb]
    exact m.at_ l' b d e1 e2
theorem take_get {A : Type} {l : List A} {n j : Nat} {x : A} (h : (l.take n)[j]? = some x) : l[j]? = some x := by
  have hj : j < (l.take n).length := (List.getElem?_eq_some_iff.mp h).1
  have hn : j < n := by rw [List.length_take] at hj; omega
  rw [List.getElem?_take_of_lt hn] at h
  exact h
/-- the things behind the first n are forgotten -/
theorem MemR.cut {n : Nat} (m : MemR K G H i M) : MemR K G H (i.take n) (M.take n) :=
  ⟨m.sub, m.nd.sublist (List.take_sublist ..), by simp [m.len], fun a ha => m.fr a (List.mem_of_mem_take ha), fun l a c e1 e2 => m.at_ l a c (take_get e1) (take_get e2)⟩
end

/-! ### what a reading asks -/
/-- the denotation f, told as a reading: W what is wanted of an error -/
def XR (K : PySem.W.Frag) (G : Hp) (x : Xn) (cls : Value) (d : Option Addr) (H : Hp) : Prop :=
  cls = .ref (He.ga K x.cls) ∧ ((x.fs = [] ∧ d = none) ∨ ∃ a vs, d = some a ∧ x.fs ≠ [] ∧ H a = some (.xd vs) ∧ vs.map (·.1) = x.fs.map (·.1) ∧ RpAll K G (vs.map (·.2)) (x.fs.map (·.2)))
/-- what is asked of an answer: Rel tells how the value stands for it, Q what is wanted of the value, W of an error -/
def Ask {A B : Type} (K : PySem.W.Frag) (W : WX) (Rel : Hp → Hp → List Addr → B → A → Prop) (G : Hp) (i : List Addr) (s : L2.St) (Q : B → Hp → Prop) : Ans A → Prop
  | .val r M' => ∀ v G' H', Sub G G' → MemR K G' H' i M' → Rel G' H' i v r → Q v H'
  | .exc x M' => ∀ cls d G' H', Sub G G' → MemR K G' H' i M' → XR K G' x cls d H' → W cls d s H'
  | .bad => False
def tG {A B : Type} (K : PySem.W.Frag) (W : WX) (Rel : Hp → Hp → List Addr → B → A → Prop) (f : En → Mem → Ans A) : L2.St → Hp → (B → Hp → Prop) → Prop := fun s H Q =>
  ∃ (G : Hp) (i : List Addr) (e : En) (M : Mem), EnvR K G i e s ∧ MemR K G H i M ∧ Ask K W Rel G i s Q (f e M)
inductive RpWs (K : PySem.W.Frag) (G : Hp) (i : List Addr) : List V → List Wv → Prop
  | nil : RpWs K G i [] []
  | cons {v vs w ws} : RpW K G i v w → RpWs K G i vs ws → RpWs K G i (v :: vs) (w :: ws)
theorem RpWs.mono {K : PySem.W.Frag} {G G' : Hp} {i i' : List Addr} (e : Sub G G') (p : i <+: i') : ∀ {vs ws}, RpWs K G i vs ws → RpWs K G' i' vs ws
  | _, _, .nil => .nil
  | _, _, .cons h t => .cons (h.mono e p) (RpWs.mono e p t)
theorem RpWs.length {K : PySem.W.Frag} {G : Hp} {i : List Addr} : ∀ {vs ws}, RpWs K G i vs ws → vs.length = ws.length
  | _, _, .nil => rfl
  | _, _, .cons _ t => congrArg Nat.succ t.length
/-- an expression, arguments, a test -/
abbrev tD (K : PySem.W.Frag) (W : WX) (f : Den) : TE := tG K W (ResR K) f
abbrev tDA (K : PySem.W.Frag) (W : WX) (f : En → Mem → Ans (List Wv)) : TA := tG K W (fun G _ i => RpWs K G i) f
abbrev tDT (K : PySem.W.Frag) (W : WX) (f : DenT) : TT := tG K W (fun _ _ _ (b : Bool) a => b = a) f
/-- a statement -/
def AskS (K : PySem.W.Frag) (W : WX) (G : Hp) (i : List Addr) (D : Ends) : SAns → Prop
  | .next e' M' => ∀ s' G' i' H', Sub G G' → i <+: i' → EnvR K G' i' e' s' → MemR K G' H' i' M' → D.nx s' H'
  | .ret r M' => ∀ v G' i' H', Sub G G' → i <+: i' → MemR K G' H' i' M' → ResR K G' H' i' v r → D.rt v H'
  | .brk e' M' => ∀ s' G' i' H', Sub G G' → i <+: i' → EnvR K G' i' e' s' → MemR K G' H' i' M' → D.bk s' H'
  | .cont e' M' => ∀ s' G' i' H', Sub G G' → i <+: i' → EnvR K G' i' e' s' → MemR K G' H' i' M' → D.ct s' H'
  | .exc x e' M' => ∀ cls d s' G' i' H', Sub G G' → i <+: i' → EnvR K G' i' e' s' → MemR K G' H' i' M' → XR K G' x cls d H' → W cls d s' H'
  | .bad => False
def tDS (K : PySem.W.Frag) (W : WX) (f : DenS) : TS := fun D s H => ∃ (G : Hp) (i : List Addr) (e : En) (M : Mem), EnvR K G i e s ∧ MemR K G H i M ∧ AskS K W G i D (f e M)

section
variable {K : PySem.W.Frag} {W : WX} {G G' H H' : Hp} {i i' : List Addr} {M M' : Mem} {e : En} {s : L2.St}
theorem Ask.mono {A B : Type} {Rel : Hp → Hp → List Addr → B → A → Prop} {a : Ans A} {Q : B → Hp → Prop} (e : Sub G G') (h : Ask K W Rel G i s Q a) : Ask K W Rel G' i s Q a := by
  cases a with
  | bad => exact h
  | exc x M' => exact fun cls d G2 H2 h1 h2 h3 => h cls d G2 H2 (e.trans h1) h2 h3
  | val r M1 => exact fun v G2 H2 h1 h2 h3 => h v G2 H2 (e.trans h1) h2 h3
theorem AskS.mono {a : SAns} {D : Ends} (e : Sub G G') (p : i <+: i') (h : AskS K W G i D a) : AskS K W G' i' D a := by
  cases a with
  | bad => exact h
  | next e' M' => exact fun s G2 i2 H2 h1 h2 h3 h4 => h s G2 i2 H2 (e.trans h1) (p.trans h2) h3 h4
  | ret r M' => exact fun s G2 i2 H2 h1 h2 h3 h4 => h s G2 i2 H2 (e.trans h1) (p.trans h2) h3 h4
  | brk e' M' => exact fun s G2 i2 H2 h1 h2 h3 h4 => h s G2 i2 H2 (e.trans h1) (p.trans h2) h3 h4
  | cont e' M' => exact fun s G2 i2 H2 h1 h2 h3 h4 => h s G2 i2 H2 (e.trans h1) (p.trans h2) h3 h4
  | exc x e' M' => exact fun cls d s G2 i2 H2 h1 h2 h3 h4 h5 => h cls d s G2 i2 H2 (e.trans h1) (p.trans h2) h3 h4 h5
/-- an answer is used by what comes next -/
theorem tG.go {A B A2 B2 : Type} {Rel : Hp → Hp → List Addr → B → A → Prop} {Rel2 : Hp → Hp → List Addr → B2 → A2 → Prop} {f : En → Mem → Ans A} {g : A → Mem → Ans A2} {P : B → Hp → Prop} {Q : B2 → Hp → Prop}
    (he : EnvR K G i e s) (hm : MemR K G H i M) (h : Ask K W Rel2 G i s Q ((f e M).bind g))
    (k : ∀ v r M1 G1 H1, Sub G G1 → MemR K G1 H1 i M1 → Rel G1 H1 i v r → Ask K W Rel2 G1 i s Q (g r M1) → P v H1) : tG K W Rel f s H P := by
  refine ⟨G, i, e, M, he, hm, ?_⟩
  cases q : f e M with
  | bad => rw [q] at h; exact h
  | exc x M' => rw [q] at h; exact h
  | val r M1 =>
    rw [q] at h
    exact fun v G' H' h1 h2 h3 => k v r M1 G' H' h1 h2 h3 (Ask.mono h1 h)
end
end Lf

set_option Elab.async false
set_option linter.all false
set_option maxRecDepth 100000
set_option maxHeartbeats 2000000
/-! Lay2: expressions. -/
namespace Lf
open PySem PySem.Spec PyProof.Rows L2

theorem PE.weak {X : Cx} {e : Expr} {t t' : TE} (h : PE X e t) (w : ∀ s H Q, t' s H Q → t s H Q) : PE X e t' := ⟨fun pins s σ H Q I q => h.run pins s σ H Q I (w _ _ _ q)⟩
theorem PT.weak {X : Cx} {e : Expr} {t t' : TT} (h : PT X e t) (w : ∀ s H Q, t' s H Q → t s H Q) : PT X e t' := ⟨fun pins s σ H Q I q => h.run pins s σ H Q I (w _ _ _ q)⟩
theorem PA.weak {X : Cx} {e : List Expr} {t t' : TA} (h : PA X e t) (w : ∀ s H Q, t' s H Q → t s H Q) : PA X e t' := ⟨fun pos pins s σ H Q I q => h.run pos pins s σ H Q I (w _ _ _ q)⟩
theorem PS.weak {X : Cx} {e : Stmt} {t t' : TS} (h : PS X e t) (w : ∀ D s H, t' D s H → t D s H) : PS X e t' := ⟨fun pins s σ H Q I q => h.run pins s σ H Q I (w _ _ _ q)⟩
theorem PSs.weak {X : Cx} {e : List Stmt} {t t' : TS} (h : PSs X e t) (w : ∀ D s H, t' D s H → t D s H) : PSs X e t' := ⟨fun pins s σ H Q I q => h.run pins s σ H Q I (w _ _ _ q)⟩

/-- a value that nobody changes any more, or a thing of the memory -/
@[simp] def Rv.fz : Rv → Wv
  | .w x => x
  | .own c => .d c
section
variable {K : PySem.W.Frag} {W : WX} {G G' H H' : Hp} {i : List Addr} {M M' : Mem} {e : En} {s : L2.St}
/-- freezing -/
theorem ResR.fz {v : V} {r : Rv} (m : MemR K G H i M) (h : ResR K G H i v r) : ∃ G', Sub G G' ∧ MemR K G' H i M ∧ RpW K G' i v r.fz := by
  cases r with
  | w x => exact ⟨G, Sub.refl G, m, h⟩
  | own c =>
    obtain ⟨a, o, rfl, h1, h2, h3, h4⟩ := h
    exact ⟨upd G a o, Sub.new h1, m.freeze h1 h2 h3, (h4.mono (Sub.new h1)).rp upd_same⟩
theorem tD.goW {B2 A2 : Type} {Rel2 : Hp → Hp → List Addr → B2 → A2 → Prop} {f : Den} {g : Rv → Mem → Ans A2} {P : V → Hp → Prop} {Q : B2 → Hp → Prop}
    (he : EnvR K G i e s) (hm : MemR K G H i M) (h : Ask K W Rel2 G i s Q ((f e M).bind g))
    (k : ∀ v r M1 G1 H1, Sub G G1 → MemR K G1 H1 i M1 → RpW K G1 i v r.fz → Ask K W Rel2 G1 i s Q (g r M1) → P v H1) : tD K W f s H P :=
  tG.go he hm h fun v r M1 G1 H1 h1 h2 h3 h4 => by
    obtain ⟨G2, a, b, c⟩ := h3.fz h2
    exact k v r M1 G2 H1 (h1.trans a) b c (h4.mono a)

/-! ### names, constants -/
@[simp] def dVar (j : Nat) : Den := fun e M => match e[j]? with
  | some (some w) => .val (.w w) M
  | _ => .bad
@[simp] def dC (x : PyData) : Den := fun _ M => .val (.w (.d x)) M
@[simp] def dF (a : Addr) : Den := fun _ M => .val (.w (.f a)) M
end
section
variable {X : Cx} {W : WX}
theorem d_var {j : Nat} {x : Str} {pos : Pos} (hN : X.N[j]? = some x) (hv : Vis X.env.scope x) (hd : (x == ("__debug__" : Str)) = false := by decide) (hcd : (x == ("__classdict__" : Str)) = false := by decide) : PE X (.Name x pos) (tD X.K W (dVar j)) :=
  PE.weak (pe_var hN hv hd hcd) fun s H Q h => by
    obtain ⟨G, i, e, M, he, hm, h⟩ := h
    cases q : e[j]? with
    | none => simp [q] at h; exact h.elim
    | some o =>
      cases o with
      | none => simp [q] at h; exact h.elim
      | some w =>
        simp only [dVar, q] at h
        obtain ⟨v, h1, h2⟩ := he.2 j w q
        exact ⟨v, h1, h v G H (Sub.refl G) hm h2⟩
theorem d_int {n : Int} {j pos} : PE X (.Constant (.int n) j pos) (tD X.K W (dC (.int n))) := PE.weak pe_int fun s H Q h => by
  obtain ⟨G, i, e, M, he, hm, h⟩ := h
  exact h _ G H (Sub.refl G) hm (.int n)
theorem d_bl {n : Bool} {j pos} : PE X (.Constant (.bool n) j pos) (tD X.K W (dC (.bool n))) := PE.weak pe_bl fun s H Q h => by
  obtain ⟨G, i, e, M, he, hm, h⟩ := h
  exact h _ G H (Sub.refl G) hm (.bl n)
theorem d_non {j pos} : PE X (.Constant .none j pos) (tD X.K W (dC .none)) := PE.weak pe_non fun s H Q h => by
  obtain ⟨G, i, e, M, he, hm, h⟩ := h
  exact h _ G H (Sub.refl G) hm .non
theorem d_str {x : Str} {j pos} : PE X (.Constant (.str x) j pos) (tD X.K W (dC (.str x))) := PE.weak pe_str fun s H Q h => by
  obtain ⟨G, i, e, M, he, hm, h⟩ := h
  exact h _ G H (Sub.refl G) hm (.str x)
/-- a constant of the module -/
theorem d_gint {n : Int} {x : Str} {pos : Pos} (hg : Gl X x) (hm : ∃ t, X.mg x = some (.int n t)) (hd : (x == ("__debug__" : Str)) = false := by decide) : PE X (.Name x pos) (tD X.K W (dC (.int n))) := by
  obtain ⟨t, hm⟩ := hm
  exact PE.weak (pe_glob (v := .int n) hg hm ⟨t, rfl⟩ hd) fun s H Q h => by
    obtain ⟨G, i, e, M, he, hm, h⟩ := h
    exact h _ G H (Sub.refl G) hm (.int n)
theorem d_gstr {n : Str} {x : Str} {pos : Pos} (hg : Gl X x) (hm : ∃ t, X.mg x = some (.str n t)) (hd : (x == ("__debug__" : Str)) = false := by decide) : PE X (.Name x pos) (tD X.K W (dC (.str n))) := by
  obtain ⟨t, hm⟩ := hm
  exact PE.weak (pe_glob (v := .str n) hg hm ⟨t, rfl⟩ hd) fun s H Q h => by
    obtain ⟨G, i, e, M, he, hm, h⟩ := h
    exact h _ G H (Sub.refl G) hm (.str n)
theorem d_gref {a : Addr} {x : Str} {pos : Pos} (hg : Gl X x) (hm : X.mg x = some (.ref a)) (hd : (x == ("__debug__" : Str)) = false := by decide) : PE X (.Name x pos) (tD X.K W (dF a)) :=
  PE.weak (pe_glob (v := .ref a) hg hm rfl hd) fun s H Q h => by
    obtain ⟨G, i, e, M, he, hm, h⟩ := h
    exact h _ G H (Sub.refl G) hm rfl

/-! ### arguments -/
@[simp] def aNil : En → Mem → Ans (List Wv) := fun _ M => .val [] M
@[simp] def aCons (f : Den) (g : En → Mem → Ans (List Wv)) : En → Mem → Ans (List Wv) := fun e M => (f e M).bind fun r M1 => (g e M1).bind fun rs M2 => .val (r.fz :: rs) M2
theorem a_nil : PA X [] (tDA X.K W aNil) := PA.weak pa_nil fun s H Q h => by
  obtain ⟨G, i, e, M, he, hm, h⟩ := h
  exact h [] G H (Sub.refl G) hm .nil
theorem a_cons {e : Expr} {es : List Expr} {f : Den} {g : En → Mem → Ans (List Wv)} (h1 : PE X e (tD X.K W f)) (h2 : PA X es (tDA X.K W g)) (hs : starEach (e :: es) X.env = (false, eval e X.env) :: starEach es X.env := by rfl) :
    PA X (e :: es) (tDA X.K W (aCons f g)) := PA.weak (pa_cons h1 h2 hs) fun s H Q h => by
  obtain ⟨G, i, e, M, he, hm, h⟩ := h
  refine tD.goW he hm h fun v r M1 G1 H1 s1 m1 r1 h => ?_
  refine tG.go (he.mono s1 (List.prefix_refl i)) m1 h fun vs rs M2 G2 H2 s2 m2 r2 h => ?_
  exact h _ G2 H2 (Sub.refl _) m2 (.cons (r1.mono s2 (List.prefix_refl i)) r2)
end
end Lf

set_option Elab.async false
set_option linter.all false
set_option maxRecDepth 100000
set_option maxHeartbeats 2000000
/-! Lay3: contents, displays, operators. -/
namespace Lf
open PySem PySem.Spec PyProof.Rows L2

/-- the data that a value stands for now -/
@[simp] def Wv.rd (M : Mem) : Wv → Option PyData
  | .d x => some x
  | .r l => M[l]?
  | .f _ => none
  | .k _ => none
/-- .. a list that is read alone, too -/
@[simp] def Wv.rdK (M : Mem) : Wv → Option PyData
  | .d x => some x
  | .r l => M[l]?
  | .f _ => none
  | .k xs => some (.list xs)
inductive Cn (K : PySem.W.Frag) (G H : Hp) : V → PyData → Prop
  | non : Cn K G H .non .none
  | bl (b : Bool) : Cn K G H (.bl b) (.bool b)
  | int (i : Int) : Cn K G H (.int i) (.int i)
  | str (x : Str) : Cn K G H (.str x) (.str x)
  | lst {a : Addr} {xs : List V} {ds : List PyData} : H a = some (.lst xs) → RpAll K G xs ds → Cn K G H (.ref a) (.list ds)
  | tup {a : Addr} {xs : List V} {ds : List PyData} : TupAt K G a xs → RpAll K G xs ds → Cn K G H (.ref a) (.tuple ds)
  | dT {a : Addr} {kvs : List (List Key × V)} {ds : List (PyData × PyData)} : H a = some (.dT kvs) → RpT K G kvs ds → Cn K G H (.ref a) (.dict ds)
  | dK {a : Addr} {kvs : List (Key × V)} {ds : List (PyData × PyData)} : H a = some (.dK kvs) → RpK K G kvs ds → Cn K G H (.ref a) (.dict ds)
inductive CnK (K : PySem.W.Frag) (G H : Hp) : V → PyData → Prop
  | of {v : V} {d : PyData} : Cn K G H v d → CnK K G H v d
  | lst {a : Addr} {xs : List V} {ds : List PyData} : SqL K H a xs → RpAll K G xs ds → CnK K G H (.ref a) (.list ds)
section
variable {K : PySem.W.Frag} {W : WX} {G G' H H' : Hp} {i : List Addr} {M M' : Mem} {e : En} {s : L2.St}
theorem Rp.cn (e : Sub G H) {v : V} {d : PyData} (h : Rp K G v d) : Cn K G H v d := by
  cases h with
  | non => exact .non
  | bl b => exact .bl b
  | int i => exact .int i
  | str x => exact .str x
  | lst h t => exact .lst (e _ _ h) t
  | tup h t => exact .tup h t
  | dT h t => exact .dT (e _ _ h) t
  | dK h t => exact .dK (e _ _ h) t
theorem ObR.cn {o : HO} {c : PyData} {a : Addr} (h : H a = some o) : ObR K G o c → Cn K G H (.ref a) c
  | .lst t => .lst h t
  | .dT t => .dT h t
  | .dK t => .dK h t
theorem RpW.cn (m : MemR K G H i M) {v : V} {w : Wv} {d : PyData} (h : RpW K G i v w) (q : w.rd M = some d) : Cn K G H v d := by
  cases w with
  | d x => cases q; exact Rp.cn m.sub h
  | r l =>
    obtain ⟨a, h1, rfl⟩ := h
    obtain ⟨o, h2, h3⟩ := m.at_ l a d h1 q
    exact h3.cn h2
  | f a => cases q
  | k xs => cases q
theorem RpW.cnK (m : MemR K G H i M) {v : V} {w : Wv} {d : PyData} (h : RpW K G i v w) (q : w.rdK M = some d) : CnK K G H v d := by
  cases w with
  | d x => cases q; exact .of (Rp.cn m.sub h)
  | r l => exact .of (RpW.cn (w := .r l) m h q)
  | f a => cases q
  | k xs =>
    cases q
    obtain ⟨a, vs, rfl, h1, h2⟩ := h
    exact .lst (m.sub.l h1) h2
mutual
theorem Rp.dp : ∀ {v : V} {d : PyData}, Rp K G v d → Sub G H → SeqAt.shaped d = true ∨ PyData.canLay0 d = true → Dp K H v d
  | _, _, .non, _, _ => .non
  | _, _, .bl b, _, _ => .bl b
  | _, _, .int i, _, _ => .int i
  | _, _, .str x, _, _ => .str x
  | _, _, .lst h t, e, q => .lst (.of (e _ _ h)) (RpAll.dp t e (by rcases q with q | q; exact SeqAt.canLay_of_shaped q; exact q))
  | _, _, .tup h t, e, q => .tup (e.t h) (RpAll.dp t e (by rcases q with q | q; exact SeqAt.canLay_of_shaped q; exact q))
  | _, _, .dT h t, e, q => by rcases q with q | q; (have := SeqAt.canLay_of_shaped q; simp [PyData.canLay0] at this); simp [PyData.canLay0] at q
  | _, _, .dK h t, e, q => by rcases q with q | q; (have := SeqAt.canLay_of_shaped q; simp [PyData.canLay0] at this); simp [PyData.canLay0] at q
theorem RpAll.dp : ∀ {v : List V} {d : List PyData}, RpAll K G v d → Sub G H → PyData.canLayAll0 d = true → DpAll K H v d
  | _, _, .nil, _, _ => .nil
  | _, _, .cons h t, e, q => by
    simp only [PyData.canLayAll0, Bool.and_eq_true] at q
    exact .cons (Rp.dp h e (.inr q.1)) (RpAll.dp t e q.2)
end
theorem Cn.dp {v : V} {d : PyData} (h : Cn K G H v d) (e : Sub G H) (q : SeqAt.shaped d = true) : Dp K H v d := by
  have q' := SeqAt.canLay_of_shaped q
  cases h with
  | non => exact .non
  | bl b => exact .bl b
  | int i => exact .int i
  | str x => exact .str x
  | lst h t => exact .lst (.of h) (t.dp e q')
  | tup h t => exact .tup (e.t h) (t.dp e q')
  | dT h t => simp [PyData.canLay0] at q'
  | dK h t => simp [PyData.canLay0] at q'

/-! ### displays -/
/-- data alone -/
@[simp] def Wv.dat : Wv → Option PyData
  | .d x => some x
  | _ => none
@[simp] def dats : List Wv → Option (List PyData)
  | [] => some []
  | w :: ws => match w.dat, dats ws with
    | some x, some xs => some (x :: xs)
    | _, _ => none
theorem RpWs.all {vs : List V} : ∀ {ws : List Wv} {ds : List PyData}, RpWs K G i vs ws → dats ws = some ds → RpAll K G vs ds := by
  intro ws
  induction ws generalizing vs with
  | nil => intro ds h q; cases h; cases q; exact .nil
  | cons w ws ih =>
    intro ds h q
    cases h with
    | cons h t =>
      unfold dats at q
      cases w with
      | d x =>
        cases z : dats ws with
        | none => simp [z] at q
        | some xs => simp [z] at q; subst q; exact .cons h (ih t z)
      | r l => simp at q
      | f a => simp at q
      | k xs => simp at q
def tupR (ws : List Wv) (M : Mem) : Ans Rv := match dats ws with
  | some ds => if ds.length ≤ sizeLine then .val (.w (.d (.tuple ds))) M else .bad
  | none => .bad
def lstR (ws : List Wv) (M : Mem) : Ans Rv := match dats ws with
  | some ds => if ds.length ≤ sizeLine then .val (.own (.list ds)) M else .bad
  | none => .bad
@[simp] def dTup (f : En → Mem → Ans (List Wv)) : Den := fun e M => (f e M).bind tupR
@[simp] def dLst (f : En → Mem → Ans (List Wv)) : Den := fun e M => (f e M).bind lstR
end
section
variable {X : Cx} {W : WX}
theorem d_tup {es : List Expr} {f : En → Mem → Ans (List Wv)} {n : Nat} {pos : Pos} (h : PA X es (tDA X.K W f)) : PE X (.Tuple es n pos) (tD X.K W (dTup f)) := by
  refine PE.weak (pe_tup h) fun s H Q q => ?_
  obtain ⟨G, i, e, M, he, hm, q⟩ := q
  refine tG.go he hm q fun vs ws M1 G1 H1 s1 m1 r1 q => ?_
  unfold tupR at q
  cases z : dats ws with
  | none => rw [z] at q; exact q.elim
  | some ds =>
    rw [z] at q
    simp only at q
    split at q
    · rename_i hl
      have ra := r1.all z
      refine ⟨ra.length ▸ hl, fun p hp => ?_⟩
      exact q (.ref p) (upd G1 p (.tup vs)) _ (Sub.new (m1.gfree hp)) (m1.newTup hp) (.tup (.of upd_same) (ra.mono (Sub.new (m1.gfree hp))))
    · exact q.elim
theorem d_lst {es : List Expr} {f : En → Mem → Ans (List Wv)} {pos : Pos} (h : PA X es (tDA X.K W f)) : PE X (.List es pos) (tD X.K W (dLst f)) := by
  refine PE.weak (pe_lst h) fun s H Q q => ?_
  obtain ⟨G, i, e, M, he, hm, q⟩ := q
  refine tG.go he hm q fun vs ws M1 G1 H1 s1 m1 r1 q => ?_
  unfold lstR at q
  cases z : dats ws with
  | none => rw [z] at q; exact q.elim
  | some ds =>
    rw [z] at q
    simp only at q
    split at q
    · rename_i hl
      have ra := r1.all z
      refine ⟨ra.length ▸ hl, fun p hp => ?_⟩
      exact q (.ref p) G1 _ (Sub.refl _) (m1.grow hp) ⟨p, _, rfl, m1.gfree hp, m1.notin hp, upd_same, .lst ra⟩
    · exact q.elim
end
end Lf

set_option Elab.async false
set_option linter.all false
set_option maxRecDepth 100000
set_option maxHeartbeats 2000000
/-! Lay4: operators, comparisons. -/
namespace Lf
open PySem PySem.Spec PyProof.Rows L2

def OpD (X : Cx) (r : R2) (F : PyData → PyData → Option Rv) : Prop :=
  ∀ (G H : Hp) (i : List Addr) (M : Mem) (v u : V) (d1 d2 : PyData) (res : Rv) (Q : VK), MemR X.K G H i M → Cn X.K G H v d1 → Cn X.K G H u d2 → F d1 d2 = some res →
    (∀ v' G' H', Sub G G' → MemR X.K G' H' i M → ResR X.K G' H' i v' res → Q v' H') → r v u H Q
@[simp] def opR (F : PyData → PyData → Option Rv) (x y : Wv) (M : Mem) : Ans Rv := match x.rd M, y.rd M with
  | some a, some b => (match F a b with
    | some r => .val r M
    | none => .bad)
  | _, _ => .bad
@[simp] def dBin (F : PyData → PyData → Option Rv) (f g : Den) : Den := fun e M => (f e M).bind fun x M1 => (g e M1).bind fun y M2 => opR F x.fz y.fz M2
section
variable {X : Cx} {W : WX} {f g : Den} {F : PyData → PyData → Option Rv} {a b : Expr} {pos : Pos}
theorem opR_use {K : PySem.W.Frag} {G : Hp} {i : List Addr} {M : Mem} {s : L2.St} {x y : Wv} {Q : VK} (q : Ask K W (ResR K) G i s Q (opR F x y M)) :
    ∃ d1 d2 r, x.rd M = some d1 ∧ y.rd M = some d2 ∧ F d1 d2 = some r ∧ ∀ v' G' H', Sub G G' → MemR K G' H' i M → ResR K G' H' i v' r → Q v' H' := by
  unfold opR at q
  cases h1 : x.rd M with
  | none => rw [h1] at q; exact q.elim
  | some d1 =>
    cases h2 : y.rd M with
    | none => rw [h1, h2] at q; exact q.elim
    | some d2 =>
      rw [h1, h2] at q
      simp only at q
      cases h3 : F d1 d2 with
      | none => rw [h3] at q; exact q.elim
      | some r => rw [h3] at q; exact ⟨d1, d2, r, rfl, rfl, h3, q⟩
theorem bin_use {r : R2} (od : OpD X r F) (s : L2.St) (H : Hp) (Q : VK) (q : tD X.K W (dBin F f g) s H Q) : tOp r (tD X.K W f) (tD X.K W g) s H Q := by
  obtain ⟨G, i, e, M, he, hm, q⟩ := q
  refine tD.goW he hm q fun v x M1 G1 H1 s1 m1 r1 q => ?_
  refine tD.goW (he.mono s1 (List.prefix_refl i)) m1 q fun u y M2 G2 H2 s2 m2 r2 q => ?_
  obtain ⟨d1, d2, z, h1, h2, h3, h4⟩ := opR_use q
  exact od G2 H2 i M2 v u d1 d2 z Q m2 ((r1.mono s2 (List.prefix_refl i)).cn m2 h1) (r2.cn m2 h2) h3 h4
theorem d_op {op : Operator} {r : R2} (ho : OpR X (binaryOp op) r) (od : OpD X r F) (ha : PE X a (tD X.K W f)) (hb : PE X b (tD X.K W g)) : PE X (.BinOp a op b pos) (tD X.K W (dBin F f g)) :=
  PE.weak (pe_op ho ha hb) (bin_use od)
theorem d_cmpR {op : CmpOp} {r : R2} (ho : OpR X (compareOp op) r) (od : OpD X r F) (ha : PE X a (tD X.K W f)) (hb : PE X b (tD X.K W g)) (hm : behindInMarks op b = false) : PE X (.Compare a [op] [b] pos) (tD X.K W (dBin F f g)) :=
  PE.weak (pe_cmpR ho ha hb hm) (bin_use od)
theorem OpD.or {r r' : R2} {F F' : PyData → PyData → Option Rv} (h : OpD X r F) (h' : OpD X r' F') : OpD X (fun x y H Q => r x y H Q ∨ r' x y H Q) (fun a b => (F a b).or (F' a b)) := by
  intro G H i M v u d1 d2 res Q m c1 c2 e q
  replace e : (F d1 d2).or (F' d1 d2) = some res := e
  cases z : F d1 d2 with
  | some y => rw [z] at e; cases e; exact .inl (h G H i M v u d1 d2 _ Q m c1 c2 z q)
  | none => rw [z] at e; exact .inr (h' G H i M v u d1 d2 _ Q m c1 c2 e q)

/-! ### numbers -/
@[simp] def vI (n : Int) : Rv := .w (.d (.int n))
@[simp] def vB (b : Bool) : Rv := .w (.d (.bool b))
theorem odI {C : Int → Int → Prop} {g : Int → Int → Int} {F : PyData → PyData → Option Rv} (hF : ∀ d1 d2 r, F d1 d2 = some r → ∃ a b, d1 = .int a ∧ d2 = .int b ∧ C a b ∧ r = vI (g a b)) : OpD X (rI C fun a b => .int (g a b)) F := by
  intro G H i M v u d1 d2 res Q m c1 c2 e q
  obtain ⟨a, b, rfl, rfl, hc, rfl⟩ := hF _ _ _ e
  cases c1; cases c2
  exact ⟨a, b, rfl, rfl, hc, q _ G H (Sub.refl G) m (.int _)⟩
theorem odI0 {g : Int → Int → Int} {F : PyData → PyData → Option Rv} (hF : ∀ d1 d2 r, F d1 d2 = some r → ∃ a b, d1 = .int a ∧ d2 = .int b ∧ r = vI (g a b)) : OpD X (rI0 fun a b => .int (g a b)) F := by
  intro G H i M v u d1 d2 res Q m c1 c2 e q
  obtain ⟨a, b, rfl, rfl, rfl⟩ := hF _ _ _ e
  cases c1; cases c2
  exact ⟨a, b, rfl, rfl, q _ G H (Sub.refl G) m (.int _)⟩
theorem odB0 {g : Int → Int → Bool} {F : PyData → PyData → Option Rv} (hF : ∀ d1 d2 r, F d1 d2 = some r → ∃ a b, d1 = .int a ∧ d2 = .int b ∧ r = vB (g a b)) : OpD X (rI0 fun a b => .bl (g a b)) F := by
  intro G H i M v u d1 d2 res Q m c1 c2 e q
  obtain ⟨a, b, rfl, rfl, rfl⟩ := hF _ _ _ e
  cases c1; cases c2
  exact ⟨a, b, rfl, rfl, q _ G H (Sub.refl G) m (.bl _)⟩
@[simp] def int2 (g : Int → Int → Option Rv) : PyData → PyData → Option Rv
  | .int a, .int b => g a b
  | _, _ => none
theorem int2_ok {g : Int → Int → Option Rv} {d1 d2 : PyData} {r : Rv} (h : int2 g d1 d2 = some r) : ∃ a b, d1 = .int a ∧ d2 = .int b ∧ g a b = some r := by
  cases d1 <;> cases d2 <;> first | exact ⟨_, _, rfl, rfl, h⟩ | cases h
@[simp] def subF (x y : PyData) : Option Rv := int2 (fun a b => some (vI (a - b))) x y
@[simp] def fdivF (x y : PyData) : Option Rv := int2 (fun a b => if 0 < b ∧ b.natAbs.log2 < 9000 then some (vI (a / b)) else none) x y
@[simp] def modF (x y : PyData) : Option Rv := int2 (fun a b => if 0 < b then some (vI (a % b)) else none) x y
@[simp] def powF (x y : PyData) : Option Rv := int2 (fun a b => if 0 ≤ b ∧ b ≤ 1000000 ∧ a.natAbs < 2 ^ 64 then some (vI (a ^ b.toNat)) else none) x y
@[simp] def shlF (x y : PyData) : Option Rv := int2 (fun a b => if 0 ≤ b ∧ b ≤ 1000000 ∧ a.natAbs < 2 ^ 64 then some (vI (a * 2 ^ b.toNat)) else none) x y
@[simp] def shrF (x y : PyData) : Option Rv := int2 (fun a b => if 0 ≤ b then some (vI (a / 2 ^ b.toNat)) else none) x y
@[simp] def xorF (x y : PyData) : Option Rv := int2 (fun a b => some (vI (Builtin.bitXor a b))) x y
theorem if_some {A : Type} {p : Prop} [Decidable p] {a b : A} (h : (if p then some a else none) = some b) : p ∧ a = b := by
  split at h
  · exact ⟨by assumption, Option.some.inj h⟩
  · cases h
theorem d_sub (ha : PE X a (tD X.K W f)) (hb : PE X b (tD X.K W g)) : PE X (.BinOp a .Sub b pos) (tD X.K W (dBin subF f g)) :=
  d_op op_sub (odI0 fun _ _ _ h => by obtain ⟨x, y, h1, h2, h3⟩ := int2_ok h; exact ⟨x, y, h1, h2, (Option.some.inj h3).symm⟩) ha hb
theorem d_fdiv (ha : PE X a (tD X.K W f)) (hb : PE X b (tD X.K W g)) : PE X (.BinOp a .FloorDiv b pos) (tD X.K W (dBin fdivF f g)) :=
  d_op op_fdivW (odI fun _ _ _ h => by obtain ⟨x, y, h1, h2, h3⟩ := int2_ok h; obtain ⟨c, h4⟩ := if_some h3; exact ⟨x, y, h1, h2, c, h4.symm⟩) ha hb
theorem d_mod (ha : PE X a (tD X.K W f)) (hb : PE X b (tD X.K W g)) : PE X (.BinOp a .Mod b pos) (tD X.K W (dBin modF f g)) :=
  d_op op_mod (odI fun _ _ _ h => by obtain ⟨x, y, h1, h2, h3⟩ := int2_ok h; obtain ⟨c, h4⟩ := if_some h3; exact ⟨x, y, h1, h2, c, h4.symm⟩) ha hb
theorem d_pow (ha : PE X a (tD X.K W f)) (hb : PE X b (tD X.K W g)) : PE X (.BinOp a .Pow b pos) (tD X.K W (dBin powF f g)) :=
  d_op op_pow (odI fun _ _ _ h => by obtain ⟨x, y, h1, h2, h3⟩ := int2_ok h; obtain ⟨c, h4⟩ := if_some h3; exact ⟨x, y, h1, h2, c, h4.symm⟩) ha hb
theorem d_shl (ha : PE X a (tD X.K W f)) (hb : PE X b (tD X.K W g)) : PE X (.BinOp a .LShift b pos) (tD X.K W (dBin shlF f g)) :=
  d_op op_shl (odI fun _ _ _ h => by obtain ⟨x, y, h1, h2, h3⟩ := int2_ok h; obtain ⟨c, h4⟩ := if_some h3; exact ⟨x, y, h1, h2, c, h4.symm⟩) ha hb
theorem d_shr (ha : PE X a (tD X.K W f)) (hb : PE X b (tD X.K W g)) : PE X (.BinOp a .RShift b pos) (tD X.K W (dBin shrF f g)) :=
  d_op op_shr (odI fun _ _ _ h => by obtain ⟨x, y, h1, h2, h3⟩ := int2_ok h; obtain ⟨c, h4⟩ := if_some h3; exact ⟨x, y, h1, h2, c, h4.symm⟩) ha hb
theorem d_xor (ha : PE X a (tD X.K W f)) (hb : PE X b (tD X.K W g)) : PE X (.BinOp a .BitXor b pos) (tD X.K W (dBin xorF f g)) :=
  d_op op_xor (odI0 fun _ _ _ h => by obtain ⟨x, y, h1, h2, h3⟩ := int2_ok h; exact ⟨x, y, h1, h2, (Option.some.inj h3).symm⟩) ha hb

/-! ### + and * -/
@[simp] def addF : PyData → PyData → Option Rv
  | .int a, .int b => some (vI (a + b))
  | .str a, .str b => if a.length + b.length ≤ sizeLine then some (.w (.d (.str (a ++ b)))) else none
  | .tuple a, .tuple b => if a.length + b.length ≤ sizeLine then some (.w (.d (.tuple (a ++ b)))) else none
  | .list a, .list b => if a.length + b.length ≤ sizeLine then some (.own (.list (a ++ b))) else none
  | _, _ => none
def rAddAll (X : Cx) : R2 := fun x y H Q => (rI0 (fun a b => V.int (a + b)) x y H Q ∨ ((∃ i j, x = .str i ∧ y = .str j ∧ i.length + j.length ≤ sizeLine ∧ Q (.str (i ++ j)) H) ∨ (rCatA X.K x y H Q ∨ rCat x y H Q)))
theorem od_add : OpD X (rAddAll X) addF := by
  intro G H i M v u d1 d2 res Q m c1 c2 e q
  cases c1 with
  | int a =>
    cases c2 <;> first | cases e | skip
    exact .inl ⟨_, _, rfl, rfl, q _ G H (Sub.refl G) m (.int _)⟩
  | str a =>
    cases c2 <;> first | (simp [addF] at e; done) | skip
    obtain ⟨c, h4⟩ := if_some e
    subst h4
    exact .inr (.inl ⟨_, _, rfl, rfl, c, q _ G H (Sub.refl G) m (.str _)⟩)
  | tup h t =>
    cases c2 <;> first | (simp [addF] at e; done) | skip
    rename_i h2 t2
    obtain ⟨c, h4⟩ := if_some e
    subst h4
    refine .inr (.inr (.inl ⟨_, _, _, _, rfl, rfl, m.sub.t h, m.sub.t h2, by rw [t.length, t2.length]; exact c, fun e0 => ?_, fun e0 e1 => ?_, fun e0 e1 p hp => ?_⟩))
    · subst e0
      cases t
      exact q _ G H (Sub.refl G) m (.tup h2 t2)
    · subst e1
      cases t2
      rw [List.append_nil] at q
      exact q _ G H (Sub.refl G) m (.tup h t)
    · exact q (.ref p) (upd G p _) _ (Sub.new (m.gfree hp)) (m.newTup hp) (.tup (.of upd_same) ((t.append t2).mono (Sub.new (m.gfree hp))))
  | lst h t =>
    cases c2 <;> first | (simp [addF] at e; done) | skip
    rename_i h2 t2
    obtain ⟨c, h4⟩ := if_some e
    subst h4
    refine .inr (.inr (.inr ⟨_, _, _, _, rfl, rfl, h, h2, by rw [t.length, t2.length]; exact c, fun p hp => ?_⟩))
    exact q (.ref p) G _ (Sub.refl G) (m.grow hp) ⟨p, _, rfl, m.gfree hp, m.notin hp, upd_same, .lst (t.append t2)⟩
  | _ => cases c2 <;> simp [addF] at e
theorem d_add (ha : PE X a (tD X.K W f)) (hb : PE X b (tD X.K W g)) : PE X (.BinOp a .Add b pos) (tD X.K W (dBin addF f g)) :=
  d_op (OpR.or op_add (OpR.or op_add_str (OpR.or op_catA op_cat))) od_add ha hb
@[simp] def mulF : PyData → PyData → Option Rv
  | .int a, .int b => if a.natAbs < 2 ^ 64 ∨ b.natAbs < 2 ^ 64 then some (vI (a * b)) else none
  | .list a, .int b => if b.natAbs < 2 ^ 63 ∧ a.length * b.toNat ≤ sizeLine then some (.own (.list (List.replicate b.toNat a).flatten)) else none
  | _, _ => none
theorem RpAll.rep {K : PySem.W.Frag} {G : Hp} {vs : List V} {ds : List PyData} (h : RpAll K G vs ds) : ∀ n : Nat, RpAll K G (List.replicate n vs).flatten (List.replicate n ds).flatten
  | 0 => .nil
  | n + 1 => by
    rw [List.replicate_succ, List.replicate_succ, List.flatten_cons, List.flatten_cons]
    exact h.append (RpAll.rep h n)
theorem od_mul : OpD X (fun x y H Q => rI CMul (fun a b => V.int (a * b)) x y H Q ∨ rRep x y H Q) mulF := by
  intro G H i M v u d1 d2 res Q m c1 c2 e q
  cases c1 with
  | int a =>
    cases c2 <;> first | (simp [mulF] at e; done) | skip
    obtain ⟨c, h4⟩ := if_some e
    subst h4
    exact .inl ⟨_, _, rfl, rfl, (by show (-(2 ^ 64) < _ ∧ _) ∨ (-(2 ^ 64) < _ ∧ _); omega), q _ G H (Sub.refl G) m (.int _)⟩
  | lst h t =>
    cases c2 <;> first | (simp [mulF] at e; done) | skip
    obtain ⟨⟨c1, c3⟩, h4⟩ := if_some e
    subst h4
    refine .inr ⟨_, _, _, rfl, rfl, h, by omega, by omega, by rw [t.length]; exact c3, fun p hp => ?_⟩
    exact q (.ref p) G _ (Sub.refl G) (m.grow hp) ⟨p, _, rfl, m.gfree hp, m.notin hp, upd_same, .lst (t.rep _)⟩
  | _ => cases c2 <;> simp [mulF] at e
theorem d_mul (ha : PE X a (tD X.K W f)) (hb : PE X b (tD X.K W g)) : PE X (.BinOp a .Mult b pos) (tD X.K W (dBin mulF f g)) :=
  d_op (OpR.or op_mul op_rep) od_mul ha hb
/-- - -/
@[simp] def dNeg (f : Den) : Den := fun e M => (f e M).bind fun x M1 => match x.fz with
  | .d (.int n) => .val (vI (-n)) M1
  | _ => .bad
theorem d_neg (ha : PE X a (tD X.K W f)) : PE X (.UnaryOp .USub a pos) (tD X.K W (dNeg f)) := PE.weak (pe_un un_neg ha) fun s H Q q => by
  obtain ⟨G, i, e, M, he, hm, q⟩ := q
  refine tD.goW he hm q fun v x M1 G1 H1 s1 m1 r1 q => ?_
  cases hx : x.fz with
  | d y =>
    rw [hx] at q r1
    cases y with
    | int n =>
      cases r1
      exact ⟨n, rfl, q _ G1 H1 (Sub.refl _) m1 (.int _)⟩
    | _ => exact q.elim
  | _ => rw [hx] at q; exact q.elim

/-! ### comparisons -/
@[simp] def eqF (a b : PyData) : Option Rv := if SeqAt.shaped a = true ∧ SeqAt.shaped b = true then some (vB (PyData.eqv a b)) else none
@[simp] def neF (a b : PyData) : Option Rv := if SeqAt.shaped a = true ∧ SeqAt.shaped b = true then some (vB (!PyData.eqv a b)) else none
theorem od_eq : OpD X (rEqD X.K) eqF := by
  intro G H i M v u d1 d2 res Q m c1 c2 e q
  obtain ⟨⟨h1, h2⟩, h4⟩ := if_some e
  subst h4
  exact ⟨d1, d2, c1.dp m.sub h1, c2.dp m.sub h2, h1, h2, q _ G H (Sub.refl G) m (.bl _)⟩
theorem od_ne : OpD X (rNeD X.K) neF := by
  intro G H i M v u d1 d2 res Q m c1 c2 e q
  obtain ⟨⟨h1, h2⟩, h4⟩ := if_some e
  subst h4
  exact ⟨d1, d2, c1.dp m.sub h1, c2.dp m.sub h2, h1, h2, q _ G H (Sub.refl G) m (.bl _)⟩
theorem d_eq {k : Nat} (hr : Room k X.A) (ha : PE X a (tD X.K W f)) (hb : PE X b (tD X.K W g)) : PE X (.Compare a [.Eq] [b] pos) (tD X.K W (dBin eqF f g)) := d_cmpR (op_eqD hr.units) od_eq ha hb (nobehind _ (by decide) (by decide))
theorem d_ne {k : Nat} (hr : Room k X.A) (ha : PE X a (tD X.K W f)) (hb : PE X b (tD X.K W g)) : PE X (.Compare a [.NotEq] [b] pos) (tD X.K W (dBin neF f g)) := d_cmpR (op_neD hr.units) od_ne ha hb (nobehind _ (by decide) (by decide))
/-- numbers of data -/
@[simp] def intsD : List PyData → Option (List Int)
  | [] => some []
  | .int n :: r => (match intsD r with
    | some ns => some (n :: ns)
    | none => none)
  | _ :: _ => none
theorem ints_eq : ∀ {ds : List PyData} {ns : List Int}, intsD ds = some ns → ds = ns.map .int
  | [], _, h => by cases h; rfl
  | d :: r, ns, h => by
    cases d with
    | int n =>
      cases z : intsD r with
      | none => simp [intsD, z] at h
      | some ms =>
        simp [intsD, z] at h
        subst h
        rw [ints_eq z]; rfl
    | _ => simp [intsD] at h
theorem ints_map : ∀ ns : List Int, intsD (ns.map .int) = some ns
  | [] => rfl
  | n :: r => by show (match intsD (r.map .int) with | some ns => some (n :: ns) | none => none) = some (n :: r); rw [ints_map r]
theorem RpAll.ints_eq {K : PySem.W.Frag} {G : Hp} : ∀ {vs : List V} {ns : List Int}, RpAll K G vs (ns.map .int) → vs = ns.map V.int
  | _, [], h => by cases h; rfl
  | _, n :: r, h => by
    cases h with
    | cons h1 h2 => cases h1; rw [RpAll.ints_eq h2]; rfl
@[simp] def ltF : PyData → PyData → Option Rv
  | .int a, .int b => some (vB (decide (a < b)))
  | .tuple a, .tuple b => (match intsD a, intsD b with
    | some x, some y => some (vB (HT.lexLt x y))
    | _, _ => none)
  | _, _ => none
theorem od_lt : OpD X (fun x y H Q => rI0 (fun a b => V.bl (decide (a < b))) x y H Q ∨ rLtT X.K x y H Q) ltF := by
  intro G H i M v u d1 d2 res Q m c1 c2 e q
  cases c1 with
  | int a =>
    cases c2 <;> first | (simp [ltF] at e; done) | skip
    simp only [ltF, Option.some.injEq] at e
    subst e
    exact .inl ⟨_, _, rfl, rfl, q _ G H (Sub.refl G) m (.bl _)⟩
  | tup h t =>
    cases c2 <;> first | (simp [ltF] at e; done) | skip
    rename_i ds1 _ _ ds2 h2 t2
    cases z1 : intsD ds1 with
    | none => simp [ltF, z1] at e
    | some x =>
      cases z2 : intsD ds2 with
      | none => simp [ltF, z1, z2] at e
      | some y =>
        simp only [ltF, z1, z2, Option.some.injEq] at e
        subst e
        rw [ints_eq z1] at t
        rw [ints_eq z2] at t2
        have e1 := t.ints_eq
        have e2 := t2.ints_eq
        subst e1 e2
        exact .inr ⟨_, _, x, y, rfl, rfl, m.sub.t h, m.sub.t h2, q _ G H (Sub.refl G) m (.bl _)⟩
  | _ => cases c2 <;> simp [ltF] at e
theorem d_lt {k : Nat} (hr : Room k X.A) (ha : PE X a (tD X.K W f)) (hb : PE X b (tD X.K W g)) : PE X (.Compare a [.Lt] [b] pos) (tD X.K W (dBin ltF f g)) := d_cmpR (OpR.or op_lt (op_ltT hr.units0)) od_lt ha hb (nobehind _ (by decide) (by decide))
@[simp] def leF (x y : PyData) : Option Rv := int2 (fun a b => some (vB (decide (a ≤ b)))) x y
@[simp] def gtF (x y : PyData) : Option Rv := int2 (fun a b => some (vB (decide (b < a)))) x y
@[simp] def geF (x y : PyData) : Option Rv := int2 (fun a b => some (vB (decide (b ≤ a)))) x y
@[simp] def lt0F (x y : PyData) : Option Rv := int2 (fun a b => some (vB (decide (a < b)))) x y
theorem od_le : OpD X (rI0 fun a b => .bl (decide (a ≤ b))) leF := odB0 fun _ _ _ h => by obtain ⟨x, y, h1, h2, h3⟩ := int2_ok h; exact ⟨x, y, h1, h2, (Option.some.inj h3).symm⟩
theorem od_gt : OpD X (rI0 fun a b => .bl (decide (b < a))) gtF := odB0 fun _ _ _ h => by obtain ⟨x, y, h1, h2, h3⟩ := int2_ok h; exact ⟨x, y, h1, h2, (Option.some.inj h3).symm⟩
theorem od_ge : OpD X (rI0 fun a b => .bl (decide (b ≤ a))) geF := odB0 fun _ _ _ h => by obtain ⟨x, y, h1, h2, h3⟩ := int2_ok h; exact ⟨x, y, h1, h2, (Option.some.inj h3).symm⟩
theorem od_lt0 : OpD X (rI0 fun a b => .bl (decide (a < b))) lt0F := odB0 fun _ _ _ h => by obtain ⟨x, y, h1, h2, h3⟩ := int2_ok h; exact ⟨x, y, h1, h2, (Option.some.inj h3).symm⟩
theorem d_le (ha : PE X a (tD X.K W f)) (hb : PE X b (tD X.K W g)) : PE X (.Compare a [.LtE] [b] pos) (tD X.K W (dBin leF f g)) := d_cmpR op_le od_le ha hb (nobehind _ (by decide) (by decide))
theorem d_gt (ha : PE X a (tD X.K W f)) (hb : PE X b (tD X.K W g)) : PE X (.Compare a [.Gt] [b] pos) (tD X.K W (dBin gtF f g)) := d_cmpR op_gt od_gt ha hb (nobehind _ (by decide) (by decide))
theorem d_ge (ha : PE X a (tD X.K W f)) (hb : PE X b (tD X.K W g)) : PE X (.Compare a [.GtE] [b] pos) (tD X.K W (dBin geF f g)) := d_cmpR op_ge od_ge ha hb (nobehind _ (by decide) (by decide))
/-- a < b < c of numbers -/
@[simp] def dChain (F F' : PyData → PyData → Option Rv) (f g h : Den) : Den := fun e M => (f e M).bind fun x M1 => (g e M1).bind fun y M2 => (opR F x.fz y.fz M2).bind fun z M3 => match z with
  | .w (.d (.bool true)) => (h e M3).bind fun w M4 => opR F' y.fz w.fz M4
  | .w (.d (.bool false)) => .val (vB false) M3
  | _ => .bad
theorem opR_bind {K : PySem.W.Frag} {G : Hp} {i : List Addr} {M : Mem} {s : L2.St} {x y : Wv} {A B : Type} {Rel : Hp → Hp → List Addr → B → A → Prop} {Q : B → Hp → Prop} {k : Rv → Mem → Ans A} (q : Ask K W Rel G i s Q ((opR F x y M).bind k)) :
    ∃ d1 d2 r, x.rd M = some d1 ∧ y.rd M = some d2 ∧ F d1 d2 = some r ∧ Ask K W Rel G i s Q (k r M) := by
  unfold opR at q
  cases h1 : x.rd M with
  | none => rw [h1] at q; exact q.elim
  | some d1 =>
    cases h2 : y.rd M with
    | none => rw [h1, h2] at q; exact q.elim
    | some d2 =>
      rw [h1, h2] at q
      simp only at q
      cases h3 : F d1 d2 with
      | none => rw [h3] at q; exact q.elim
      | some r => rw [h3] at q; exact ⟨d1, d2, r, rfl, rfl, h3, q⟩
theorem d_chain {op op' : CmpOp} {r r' : R2} {F F' : PyData → PyData → Option Rv} {c : Expr} {h : Den} (ho : OpR X (compareOp op) r) (ho' : OpR X (compareOp op') r') (od : OpD X r F) (od' : OpD X r' F') (ha : PE X a (tD X.K W f)) (hb : PE X b (tD X.K W g)) (hc : PE X c (tD X.K W h))
    (hm : lastMarks [op, op'] [b, c] = false := by with_unfolding_all rfl) : PE X (.Compare a [op, op'] [b, c] pos) (tD X.K W (dChain F F' f g h)) := PE.weak (pe_chain ho ho' ha hb hc hm) fun s H Q q => by
  obtain ⟨G, i, e, M, he, hm, q⟩ := q
  refine tD.goW he hm q fun v x M1 G1 H1 s1 m1 r1 q => ?_
  refine tD.goW (he.mono s1 (List.prefix_refl i)) m1 q fun u y M2 G2 H2 s2 m2 r2 q => ?_
  obtain ⟨d1, d2, z, h1, h2, h3, q⟩ := opR_bind q
  refine od G2 H2 i M2 v u d1 d2 z _ m2 ((r1.mono s2 (List.prefix_refl i)).cn m2 h1) (r2.cn m2 h2) h3 fun v' G3 H3 s3 m3 r3 => ?_
  have q := Ask.mono s3 q
  cases z with
  | own _ => exact q.elim
  | w z =>
    cases z with
    | d z =>
      cases z with
      | bool k =>
        cases r3
        refine ⟨k, rfl, ?_⟩
        cases k with
        | true =>
          show tD X.K W h s H3 _
          refine tD.goW ((he.mono s1 (List.prefix_refl i)).mono (s2.trans s3) (List.prefix_refl i)) m3 q fun w x M4 G4 H4 s4 m4 r4 q => ?_
          obtain ⟨d1, d2, z, h1, h2, h3, h4⟩ := opR_use q
          exact od' G4 H4 i M4 u w d1 d2 z Q m4 ((r2.mono (s3.trans s4) (List.prefix_refl i)).cn m4 h1) (r4.cn m4 h2) h3 h4
        | false =>
          show Q (.bl false) H3
          exact q _ G3 H3 (Sub.refl _) m3 (.bl false)
      | _ => exact q.elim
    | _ => exact q.elim
/-- is None -/
@[simp] def Wv.isN : Wv → Bool
  | .d .none => true
  | _ => false
theorem RpW.isN {K : PySem.W.Frag} {G : Hp} {i : List Addr} {v : V} {w : Wv} (h : RpW K G i v w) : decide (v = .non) = w.isN := by
  cases w with
  | d x =>
    have h : Rp K G v x := h
    cases h <;> rfl
  | r l => obtain ⟨a, _, rfl⟩ := h; rfl
  | f a => obtain rfl : v = .ref a := h; rfl
  | k xs => obtain ⟨a, _, rfl, _⟩ := h; rfl
@[simp] def dIsN (f : Den) : Den := fun e M => (f e M).bind fun x M1 => .val (vB x.fz.isN) M1
@[simp] def dNotN (f : Den) : Den := fun e M => (f e M).bind fun x M1 => .val (vB (!x.fz.isN)) M1
theorem d_isN {j pos'} (ha : PE X a (tD X.K W f)) : PE X (.Compare a [.Is] [.Constant .none j pos'] pos) (tD X.K W (dIsN f)) := PE.weak (pe_cmp (pc_isN ha)) fun s H Q q => by
  obtain ⟨G, i, e, M, he, hm, q⟩ := q
  refine tD.goW he hm q fun v x M1 G1 H1 s1 m1 r1 q => ?_
  show Q (.bl (decide (v = .non))) H1
  rw [r1.isN]
  exact q _ G1 H1 (Sub.refl _) m1 (.bl _)
theorem d_notN {j pos'} (ha : PE X a (tD X.K W f)) : PE X (.Compare a [.IsNot] [.Constant .none j pos'] pos) (tD X.K W (dNotN f)) := PE.weak (pe_cmp (pc_notN ha)) fun s H Q q => by
  obtain ⟨G, i, e, M, he, hm, q⟩ := q
  refine tD.goW he hm q fun v x M1 G1 H1 s1 m1 r1 q => ?_
  show Q (.bl (!decide (v = .non))) H1
  rw [r1.isN]
  exact q _ G1 H1 (Sub.refl _) m1 (.bl _)
end
end Lf

set_option Elab.async false
set_option linter.all false
set_option maxRecDepth 100000
set_option maxHeartbeats 2000000
/-! Lay5: in, tests, subscripts, slices. -/
namespace Lf
open PySem PySem.Spec PyProof.Rows L2
section
variable {X : Cx} {W : WX} {f g h : Den} {F : PyData → PyData → Option Rv} {a b c : Expr} {pos : Pos}
/-! ### in -/
def rInAll (X : Cx) (neg : Bool) : R2 := fun x y H Q => ∃ d ds, Dp X.K H x d ∧ (Dp X.K H y (.list ds) ∨ Dp X.K H y (.tuple ds)) ∧ SeqAt.shaped d = true ∧ PyData.canLayAll0 ds = true ∧ Q (.bl (if neg then !ds.any (fun z => PyData.eqv z d) else ds.any fun z => PyData.eqv z d)) H
theorem op_inAll (hu : X.A.units + 65 < cLine) : OpR X (compareOp .In) (rInAll X false) := by
  intro pins s σ H x y v u Q I rx ry q
  obtain ⟨d, ds, hd, he, sd, se, q⟩ := q
  obtain ⟨as, r1⟩ := Dp.reads I d x v hd rx
  rcases he with he | he
  · obtain ⟨bs, r2⟩ := Dp.reads I (.list ds) y u he ry
    exact SeqAt.in_list_reads r2 r1 se (SeqAt.canLay_of_shaped sd) (room_in_shaped sd hu) ⟨.bl _, H, I, rfl, q⟩
  · obtain ⟨bs, r2⟩ := Dp.reads I (.tuple ds) y u he ry
    exact SeqAt.in_tuple_reads r2 r1 se (SeqAt.canLay_of_shaped sd) (room_in_shaped sd hu) ⟨.bl _, H, I, rfl, q⟩
theorem op_notInAll (hu : X.A.units + 65 < cLine) : OpR X (compareOp .NotIn) (rInAll X true) := by
  intro pins s σ H x y v u Q I rx ry q
  obtain ⟨d, ds, hd, he, sd, se, q⟩ := q
  obtain ⟨as, r1⟩ := Dp.reads I d x v hd rx
  rcases he with he | he
  · obtain ⟨bs, r2⟩ := Dp.reads I (.list ds) y u he ry
    exact SeqAt.notIn_list_reads r2 r1 se (SeqAt.canLay_of_shaped sd) (room_in_shaped sd hu) ⟨.bl _, H, I, rfl, q⟩
  · obtain ⟨bs, r2⟩ := Dp.reads I (.tuple ds) y u he ry
    exact SeqAt.notIn_tuple_reads r2 r1 se (SeqAt.canLay_of_shaped sd) (room_in_shaped sd hu) ⟨.bl _, H, I, rfl, q⟩
@[simp] def inF (neg : Bool) (x y : PyData) : Option Rv := match y with
  | .list ds => if SeqAt.shaped x = true ∧ PyData.canLayAll0 ds = true then some (vB (if neg then !ds.any (fun z => PyData.eqv z x) else ds.any fun z => PyData.eqv z x)) else none
  | .tuple ds => if SeqAt.shaped x = true ∧ PyData.canLayAll0 ds = true then some (vB (if neg then !ds.any (fun z => PyData.eqv z x) else ds.any fun z => PyData.eqv z x)) else none
  | _ => none
theorem od_in {neg : Bool} : OpD X (rInAll X neg) (inF neg) := by
  intro G H i M v u d1 d2 res Q m c1 c2 e q
  cases c2 with
  | lst h t =>
    obtain ⟨⟨h1, h2⟩, h4⟩ := if_some e
    subst h4
    exact ⟨d1, _, c1.dp m.sub h1, .inl (.lst (.of h) (t.dp m.sub h2)), h1, h2, q _ G H (Sub.refl G) m (.bl _)⟩
  | tup h t =>
    obtain ⟨⟨h1, h2⟩, h4⟩ := if_some e
    subst h4
    exact ⟨d1, _, c1.dp m.sub h1, .inr (.tup (m.sub.t h) (t.dp m.sub h2)), h1, h2, q _ G H (Sub.refl G) m (.bl _)⟩
  | _ => simp [inF] at e
theorem units65 {k : Nat} {A : Around} (hr : Room k A) : A.units + 65 < cLine := by have := hr.un; omega
theorem d_in {k : Nat} (hr : Room k X.A) (ha : PE X a (tD X.K W f)) (hb : PE X b (tD X.K W g)) (hm : behindInMarks .In b = false := by rfl) : PE X (.Compare a [.In] [b] pos) (tD X.K W (dBin (inF false) f g)) := d_cmpR (op_inAll (units65 hr)) od_in ha hb hm
theorem d_notIn {k : Nat} (hr : Room k X.A) (ha : PE X a (tD X.K W f)) (hb : PE X b (tD X.K W g)) (hm : behindInMarks .NotIn b = false := by rfl) : PE X (.Compare a [.NotIn] [b] pos) (tD X.K W (dBin (inF true) f g)) := d_cmpR (op_notInAll (units65 hr)) od_in ha hb hm

/-! ### and, or, not, if as values (of truths) -/
@[simp] def asB (r : Rv) (M : Mem) : Ans Bool := match r with
  | .w (.d (.bool b)) => .val b M
  | _ => .bad
@[simp] def tst (f : Den) : DenT := fun e M => (f e M).bind asB
theorem asB_use {K : PySem.W.Frag} {G : Hp} {i : List Addr} {M : Mem} {s : L2.St} {r : Rv} {A B : Type} {Rel : Hp → Hp → List Addr → B → A → Prop} {Q : B → Hp → Prop} {k : Bool → Mem → Ans A} (q : Ask K W Rel G i s Q ((asB r M).bind k)) :
    ∃ b, r = vB b ∧ Ask K W Rel G i s Q (k b M) := by
  cases r with
  | own c => exact q.elim
  | w x =>
    cases x with
    | d y =>
      cases y with
      | bool b => exact ⟨b, rfl, q⟩
      | _ => exact q.elim
    | _ => exact q.elim
theorem asB_last {K : PySem.W.Frag} {G : Hp} {i : List Addr} {M : Mem} {s : L2.St} {r : Rv} {B : Type} {Rel : Hp → Hp → List Addr → B → Bool → Prop} {Q : B → Hp → Prop} (q : Ask K W Rel G i s Q (asB r M)) :
    ∃ b, r = vB b ∧ Ask K W Rel G i s Q (.val b M) := by
  refine asB_use (k := fun b M => .val b M) ?_
  have e0 : ((asB r M).bind fun b M => Ans.val b M) = asB r M := by cases asB r M <;> rfl
  rw [e0]; exact q
theorem bl_of {K : PySem.W.Frag} {G H : Hp} {i : List Addr} {v : V} {b : Bool} (h : ResR K G H i v (vB b)) : v = .bl b := by
  have h : Rp K G v (.bool b) := h
  cases h
  rfl
@[simp] def dAnd (f g : Den) : Den := fun e M => (f e M).bind fun x M1 => (asB x M1).bind fun b M2 => if b = true then g e M2 else .val (vB false) M2
@[simp] def dOr (f g : Den) : Den := fun e M => (f e M).bind fun x M1 => (asB x M1).bind fun b M2 => if b = true then .val (vB true) M2 else g e M2
@[simp] def dNot (f : Den) : Den := fun e M => (f e M).bind fun x M1 => (asB x M1).bind fun b M2 => .val (vB (!b)) M2
theorem d_one {op} (ha : PE X a (tD X.K W f)) : PE X (.BoolOp op [a] pos) (tD X.K W f) := pe_one ha
theorem d_and {rest : List Expr} (ha : PE X a (tD X.K W f)) (hb : PE X (.BoolOp .And (b :: rest) pos) (tD X.K W g)) : PE X (.BoolOp .And (a :: b :: rest) pos) (tD X.K W (dAnd f g)) := PE.weak (pe_and ha hb) fun s H Q q => by
  obtain ⟨G, i, e, M, he, hm, q⟩ := q
  refine tG.go he hm q fun v x M1 G1 H1 s1 m1 r1 q => ?_
  obtain ⟨b, rfl, q⟩ := asB_use q
  refine ⟨b, bl_of r1, ?_⟩
  cases b with
  | true => exact ⟨G1, i, e, M1, he.mono s1 (List.prefix_refl i), m1, q⟩
  | false => exact q _ G1 H1 (Sub.refl _) m1 (.bl _)
theorem d_or {rest : List Expr} (ha : PE X a (tD X.K W f)) (hb : PE X (.BoolOp .Or (b :: rest) pos) (tD X.K W g)) : PE X (.BoolOp .Or (a :: b :: rest) pos) (tD X.K W (dOr f g)) := PE.weak (pe_or ha hb) fun s H Q q => by
  obtain ⟨G, i, e, M, he, hm, q⟩ := q
  refine tG.go he hm q fun v x M1 G1 H1 s1 m1 r1 q => ?_
  obtain ⟨b, rfl, q⟩ := asB_use q
  refine ⟨b, bl_of r1, ?_⟩
  cases b with
  | false => exact ⟨G1, i, e, M1, he.mono s1 (List.prefix_refl i), m1, q⟩
  | true => exact q _ G1 H1 (Sub.refl _) m1 (.bl _)
theorem d_not (ha : PE X a (tD X.K W f)) : PE X (.UnaryOp .Not a pos) (tD X.K W (dNot f)) := PE.weak (pe_not ha) fun s H Q q => by
  obtain ⟨G, i, e, M, he, hm, q⟩ := q
  refine tG.go he hm q fun v x M1 G1 H1 s1 m1 r1 q => ?_
  obtain ⟨b, rfl, q⟩ := asB_use q
  exact ⟨b, bl_of r1, q _ G1 H1 (Sub.refl _) m1 (.bl _)⟩

/-! ### tests -/
variable {tf tg : DenT}
theorem t_val (ha : PE X a (tD X.K W f)) (hw : ∀ whole, isTrue a X.env whole = (do let v ← whole; standAt a.pos; holding [v] (truthy v)) := by intro _; rfl) : PT X a (tDT X.K W (tst f)) := PT.weak (pt_val ha hw) fun s H Q q => by
  obtain ⟨G, i, e, M, he, hm, q⟩ := q
  refine tG.go he hm q fun v x M1 G1 H1 s1 m1 r1 q => ?_
  obtain ⟨b, rfl, q⟩ := asB_last q
  exact ⟨b, bl_of r1, q _ G1 H1 (Sub.refl _) m1 rfl⟩
/-- a comparison is a test -/
theorem t_cmpR {op : CmpOp} {r : R2} (ho : OpR X (compareOp op) r) (od : OpD X r F) (ha : PE X a (tD X.K W f)) (hb : PE X b (tD X.K W g)) (hm : behindInMarks op b = false) : PT X (.Compare a [op] [b] pos) (tDT X.K W (tst (dBin F f g))) :=
  PT.weak (pt_cmpR ho ha hb hm) fun s H Q q => by
    refine bin_use od s H _ ?_
    obtain ⟨G, i, e, M, he, hm, q⟩ := q
    refine tG.go he hm q fun v x M1 G1 H1 s1 m1 r1 q => ?_
    obtain ⟨b, rfl, q⟩ := asB_last q
    exact ⟨b, bl_of r1, q _ G1 H1 (Sub.refl _) m1 rfl⟩
theorem t_eq {k : Nat} (hr : Room k X.A) (ha : PE X a (tD X.K W f)) (hb : PE X b (tD X.K W g)) : PT X (.Compare a [.Eq] [b] pos) (tDT X.K W (tst (dBin eqF f g))) := t_cmpR (op_eqD hr.units) od_eq ha hb (nobehind _ (by decide) (by decide))
theorem t_ne {k : Nat} (hr : Room k X.A) (ha : PE X a (tD X.K W f)) (hb : PE X b (tD X.K W g)) : PT X (.Compare a [.NotEq] [b] pos) (tDT X.K W (tst (dBin neF f g))) := t_cmpR (op_neD hr.units) od_ne ha hb (nobehind _ (by decide) (by decide))
theorem t_lt {k : Nat} (hr : Room k X.A) (ha : PE X a (tD X.K W f)) (hb : PE X b (tD X.K W g)) : PT X (.Compare a [.Lt] [b] pos) (tDT X.K W (tst (dBin ltF f g))) := t_cmpR (OpR.or op_lt (op_ltT hr.units0)) od_lt ha hb (nobehind _ (by decide) (by decide))
theorem t_le (ha : PE X a (tD X.K W f)) (hb : PE X b (tD X.K W g)) : PT X (.Compare a [.LtE] [b] pos) (tDT X.K W (tst (dBin leF f g))) := t_cmpR op_le od_le ha hb (nobehind _ (by decide) (by decide))
theorem t_gt (ha : PE X a (tD X.K W f)) (hb : PE X b (tD X.K W g)) : PT X (.Compare a [.Gt] [b] pos) (tDT X.K W (tst (dBin gtF f g))) := t_cmpR op_gt od_gt ha hb (nobehind _ (by decide) (by decide))
theorem t_ge (ha : PE X a (tD X.K W f)) (hb : PE X b (tD X.K W g)) : PT X (.Compare a [.GtE] [b] pos) (tDT X.K W (tst (dBin geF f g))) := t_cmpR op_ge od_ge ha hb (nobehind _ (by decide) (by decide))
theorem t_in {k : Nat} (hr : Room k X.A) (ha : PE X a (tD X.K W f)) (hb : PE X b (tD X.K W g)) (hm : behindInMarks .In b = false := by rfl) : PT X (.Compare a [.In] [b] pos) (tDT X.K W (tst (dBin (inF false) f g))) := t_cmpR (op_inAll (units65 hr)) od_in ha hb hm
theorem t_notIn {k : Nat} (hr : Room k X.A) (ha : PE X a (tD X.K W f)) (hb : PE X b (tD X.K W g)) (hm : behindInMarks .NotIn b = false := by rfl) : PT X (.Compare a [.NotIn] [b] pos) (tDT X.K W (tst (dBin (inF true) f g))) := t_cmpR (op_notInAll (units65 hr)) od_in ha hb hm
theorem t_isN {j pos'} (ha : PE X a (tD X.K W f)) : PT X (.Compare a [.Is] [.Constant .none j pos'] pos) (tDT X.K W (tst (dIsN f))) := PT.weak (pt_cmp (pc_isN ha)) fun s H Q q => by
  obtain ⟨G, i, e, M, he, hm, q⟩ := q
  have e0 : ∀ e M, tst (dIsN f) e M = (f e M).bind fun x M1 => .val x.fz.isN M1 := fun e M => by
    simp only [tst, dIsN]
    cases f e M <;> rfl
  rw [e0] at q
  refine tD.goW he hm q fun v x M1 G1 H1 s1 m1 r1 q => ?_
  exact ⟨_, rfl, by rw [r1.isN]; exact q _ G1 H1 (Sub.refl _) m1 rfl⟩
theorem t_notN {j pos'} (ha : PE X a (tD X.K W f)) : PT X (.Compare a [.IsNot] [.Constant .none j pos'] pos) (tDT X.K W (tst (dNotN f))) := PT.weak (pt_cmp (pc_notN ha)) fun s H Q q => by
  obtain ⟨G, i, e, M, he, hm, q⟩ := q
  have e0 : ∀ e M, tst (dNotN f) e M = (f e M).bind fun x M1 => .val (!x.fz.isN) M1 := fun e M => by
    simp only [tst, dNotN]
    cases f e M <;> rfl
  rw [e0] at q
  refine tD.goW he hm q fun v x M1 G1 H1 s1 m1 r1 q => ?_
  exact ⟨_, rfl, by rw [r1.isN]; exact q _ G1 H1 (Sub.refl _) m1 rfl⟩
theorem t_chain {op op' : CmpOp} {r r' : R2} {F F' : PyData → PyData → Option Rv} (ho : OpR X (compareOp op) r) (ho' : OpR X (compareOp op') r') (od : OpD X r F) (od' : OpD X r' F') (ha : PE X a (tD X.K W f)) (hb : PE X b (tD X.K W g)) (hc : PE X c (tD X.K W h))
    (hm : lastMarks [op, op'] [b, c] = false := by with_unfolding_all rfl) : PT X (.Compare a [op, op'] [b, c] pos) (tDT X.K W (tst (dChain F F' f g h))) := PT.weak (pt_chain ho ho' ha hb hc hm) fun s H Q q => by
  obtain ⟨G, i, e, M, he, hm, q⟩ := q
  simp only [tst] at q
  have key : tD X.K W (dChain F F' f g h) s H (fun x H' => ∃ k, x = .bl k ∧ Q k H') := by
    refine tG.go he hm q fun v x M1 G1 H1 s1 m1 r1 q => ?_
    obtain ⟨b, rfl, q⟩ := asB_last q
    exact ⟨b, bl_of r1, q _ G1 H1 (Sub.refl _) m1 rfl⟩
  obtain ⟨G, i, e, M, he, hm, q⟩ := key
  refine tD.goW he hm q fun v x M1 G1 H1 s1 m1 r1 q => ?_
  refine tD.goW (he.mono s1 (List.prefix_refl i)) m1 q fun u y M2 G2 H2 s2 m2 r2 q => ?_
  obtain ⟨d1, d2, z, h1, h2, h3, q⟩ := opR_bind q
  refine od G2 H2 i M2 v u d1 d2 z _ m2 ((r1.mono s2 (List.prefix_refl i)).cn m2 h1) (r2.cn m2 h2) h3 fun v' G3 H3 s3 m3 r3 => ?_
  have q := Ask.mono s3 q
  cases z with
  | own _ => exact q.elim
  | w z =>
    cases z with
    | d z =>
      cases z with
      | bool k =>
        cases r3
        refine ⟨k, rfl, ?_⟩
        cases k with
        | true =>
          show tD X.K W h s H3 _
          refine tD.goW ((he.mono s1 (List.prefix_refl i)).mono (s2.trans s3) (List.prefix_refl i)) m3 q fun w x M4 G4 H4 s4 m4 r4 q => ?_
          obtain ⟨d1, d2, z, h1, h2, h3, h4⟩ := opR_use q
          exact od' G4 H4 i M4 u w d1 d2 z _ m4 ((r2.mono (s3.trans s4) (List.prefix_refl i)).cn m4 h1) (r4.cn m4 h2) h3 h4
        | false => exact q _ G3 H3 (Sub.refl _) m3 (.bl false)
      | _ => exact q.elim
    | _ => exact q.elim
@[simp] def tAndD (f g : DenT) : DenT := fun e M => (f e M).bind fun b M1 => if b = true then g e M1 else .val false M1
@[simp] def tOrD (f g : DenT) : DenT := fun e M => (f e M).bind fun b M1 => if b = true then .val true M1 else g e M1
@[simp] def tNotD (f : DenT) : DenT := fun e M => (f e M).bind fun b M1 => .val (!b) M1
theorem w_and1 (ha : PT X a (tDT X.K W tf)) : PW X (.BoolOp .And [a] pos) (tDT X.K W tf) := pw_and1 ha
theorem w_or1 (ha : PT X a (tDT X.K W tf)) : PW X (.BoolOp .Or [a] pos) (tDT X.K W tf) := pw_or1 ha
theorem PW.weak {e : Expr} {t t' : TT} (h : PW X e t) (w : ∀ s H Q, t' s H Q → t s H Q) : PW X e t' := ⟨fun wh pins s σ H Q I q => h.run wh pins s σ H Q I (w _ _ _ q)⟩
theorem w_and {rest : List Expr} (ha : PT X a (tDT X.K W tf)) (hb : PW X (.BoolOp .And (b :: rest) pos) (tDT X.K W tg)) : PW X (.BoolOp .And (a :: b :: rest) pos) (tDT X.K W (tAndD tf tg)) := PW.weak (pw_and ha hb) fun s H Q q => by
  obtain ⟨G, i, e, M, he, hm, q⟩ := q
  refine tG.go he hm q fun v x M1 G1 H1 s1 m1 r1 q => ?_
  subst r1
  cases v with
  | true => exact ⟨G1, i, e, M1, he.mono s1 (List.prefix_refl i), m1, q⟩
  | false => exact q _ G1 H1 (Sub.refl _) m1 rfl
theorem w_or {rest : List Expr} (ha : PT X a (tDT X.K W tf)) (hb : PW X (.BoolOp .Or (b :: rest) pos) (tDT X.K W tg)) : PW X (.BoolOp .Or (a :: b :: rest) pos) (tDT X.K W (tOrD tf tg)) := PW.weak (pw_or ha hb) fun s H Q q => by
  obtain ⟨G, i, e, M, he, hm, q⟩ := q
  refine tG.go he hm q fun v x M1 G1 H1 s1 m1 r1 q => ?_
  subst r1
  cases v with
  | false => exact ⟨G1, i, e, M1, he.mono s1 (List.prefix_refl i), m1, q⟩
  | true => exact q _ G1 H1 (Sub.refl _) m1 rfl
theorem t_not (ha : PT X a (tDT X.K W tf)) : PT X (.UnaryOp .Not a pos) (tDT X.K W (tNotD tf)) := PT.weak (pt_not ha) fun s H Q q => by
  obtain ⟨G, i, e, M, he, hm, q⟩ := q
  refine tG.go he hm q fun v x M1 G1 H1 s1 m1 r1 q => ?_
  subst r1
  exact q _ G1 H1 (Sub.refl _) m1 rfl
@[simp] def dIf (t : DenT) (f g : Den) : Den := fun e M => (t e M).bind fun b M1 => if b = true then f e M1 else g e M1
theorem d_if (hc : PT X c (tDT X.K W tf)) (ha : PE X a (tD X.K W f)) (hb : PE X b (tD X.K W g)) : PE X (.IfExp c a b pos) (tD X.K W (dIf tf f g)) := PE.weak (pe_ifExp hc ha hb) fun s H Q q => by
  obtain ⟨G, i, e, M, he, hm, q⟩ := q
  refine tG.go he hm q fun v x M1 G1 H1 s1 m1 r1 q => ?_
  subst r1
  cases v with
  | true => exact ⟨G1, i, e, M1, he.mono s1 (List.prefix_refl i), m1, q⟩
  | false => exact ⟨G1, i, e, M1, he.mono s1 (List.prefix_refl i), m1, q⟩

/-! ### subscripts, slices -/
theorem atI_all {K : PySem.W.Frag} {G : Hp} {vs : List V} {ds : List PyData} {n : Int} {d : PyData} (t : RpAll K G vs ds) (e : atI ds n = some d) : ∃ v, atI vs n = some v ∧ Rp K G v d := by
  unfold atI at e ⊢
  rw [t.length]
  cases z : ixN ds.length n with
  | none => rw [z] at e; cases e
  | some j =>
    rw [z] at e
    obtain ⟨v, h1, h2⟩ := t.get (show ds[j]? = some d from e)
    exact ⟨v, h1, h2⟩
@[simp] def ixR (x y : Wv) (M : Mem) : Ans Rv := match x.rdK M, y with
  | some (.list ds), .d (.int n) => (match atI ds n with
    | some d => .val (.w (.d d)) M
    | none => .bad)
  | some (.tuple ds), .d (.int n) => (match atI ds n with
    | some d => .val (.w (.d d)) M
    | none => .bad)
  | some (.str z), .d (.int n) => if z.length ≤ sizeLine then (match atI z.cps.toList n with
    | some c => .val (.w (.d (.str ⟨#[c]⟩))) M
    | none => .bad) else .bad
  | _, _ => .bad
@[simp] def dIx (f g : Den) : Den := fun e M => (f e M).bind fun x M1 => (g e M1).bind fun y M2 => ixR x.fz y.fz M2
theorem d_ix (ha : PE X a (tD X.K W f)) (hb : PE X b (tD X.K W g)) (hs : PlainIx b := by exact fun _ _ => rfl) : PE X (.Subscript a b pos) (tD X.K W (dIx f g)) := PE.weak (pe_ix ix_seq ha hb hs) fun s H Q q => by
  obtain ⟨G, i, e, M, he, hm, q⟩ := q
  refine tD.goW he hm q fun v x M1 G1 H1 s1 m1 r1 q => ?_
  refine tD.goW (he.mono s1 (List.prefix_refl i)) m1 q fun u y M2 G2 H2 s2 m2 r2 q => ?_
  unfold ixR at q
  cases h1 : x.fz.rdK M2 with
  | none => rw [h1] at q; exact q.elim
  | some d1 =>
    rw [h1] at q
    have c1 := (r1.mono s2 (List.prefix_refl i)).cnK m2 h1
    cases hy : y.fz with
    | d d2 =>
      rw [hy] at q r2
      cases d2 with
      | int n =>
        cases r2
        cases d1 with
        | list ds =>
          simp only at q
          have : ∃ p xs, v = .ref p ∧ SqL X.K H2 p xs ∧ RpAll X.K G2 xs ds := by
            cases c1 with
            | of c => cases c with
              | lst h t => exact ⟨_, _, rfl, .of h, t⟩
            | lst h t => exact ⟨_, _, rfl, h, t⟩
          obtain ⟨p, xs, rfl, hq, t⟩ := this
          cases z : atI ds n with
          | none => rw [z] at q; exact q.elim
          | some d =>
            rw [z] at q
            obtain ⟨w, e1, e2⟩ := atI_all t z
            exact .inl ⟨p, xs, n, w, rfl, rfl, hq, e1, q w G2 H2 (Sub.refl _) m2 e2⟩
        | tuple ds =>
          simp only at q
          have : ∃ p xs, v = .ref p ∧ SqT X.K H2 p xs ∧ RpAll X.K G2 xs ds := by
            cases c1 with
            | of c => cases c with
              | tup h t => exact ⟨_, _, rfl, m2.sub.t h, t⟩
          obtain ⟨p, xs, rfl, hq, t⟩ := this
          cases z : atI ds n with
          | none => rw [z] at q; exact q.elim
          | some d =>
            rw [z] at q
            obtain ⟨w, e1, e2⟩ := atI_all t z
            exact .inr (.inl ⟨p, xs, n, w, rfl, rfl, hq, e1, q w G2 H2 (Sub.refl _) m2 e2⟩)
        | str zz =>
          simp only at q
          have : v = .str zz := by
            cases c1 with
            | of c => cases c with
              | str => rfl
          subst this
          split at q
          · rename_i hz
            cases z : atI zz.cps.toList n with
            | none => rw [z] at q; exact q.elim
            | some d =>
              rw [z] at q
              exact .inr (.inr ⟨zz, n, d, rfl, rfl, hz, z, q _ G2 H2 (Sub.refl _) m2 (.str _)⟩)
          · exact q.elim
        | _ => exact q.elim
      | _ => cases d1 <;> exact q.elim
    | _ => rw [hy] at q; cases d1 <;> exact q.elim
end
end Lf

set_option Elab.async false
set_option linter.all false
set_option maxRecDepth 100000
set_option maxHeartbeats 4000000
/-! Lay6: sorted. -/
namespace PySem.W
open PySem PySem.Calls PyProof.Rows
theorem SortsAt.small {prog : Program} {w : World} {A : Around} {s : Shared} {vs : List Value} {ds : List PyData} (e : EachIs (fun v d => ∃ as, Reads s.heap v d as) vs ds) (hal : AllAlike ds) (hn : ∀ d, d ∈ ds → d ≠ .none) (h1 : vs.length ≤ 1)
    (hu : ∀ d, d ∈ ds → A.units + d.depth < cLine) : SortsAt prog w A s (dataKind s.heap ds) vs := by
  have room : ∀ {d d' : PyData}, d ∈ ds → A.units + min d.depth d'.depth < cLine := fun {d d'} hd => Nat.lt_of_le_of_lt (Nat.add_le_add_left (Nat.min_le_left _ _) _) (hu d hd)
  refine ⟨fun v hv => ?_, general', ?_, fun h2 => absurd h2 (by omega)⟩
  · obtain ⟨d, hd, as, r⟩ := e.left v hv
    exact ⟨_, dataKind_some hal hd r⟩
  · intro E x y a b Q ha hb hq
    obtain ⟨d, as, hd, ra, rfl⟩ := dataKind_inv ha
    obtain ⟨d', as', hd', rb, rfl⟩ := dataKind_inv hb
    show wpAny (model prog w) A (oneLt' false x y) Q E s
    exact oneLt_alike (fun z => nomatch z) ra rb (hal d hd d' hd') (hn d hd) (room hd) hq
end PySem.W
namespace Lf
open PySem PySem.Spec PyProof.Rows L2
open PySem.W (EachIs dataLe AllAlike Sortable alike)
/-- what sorted takes: alike data; tuples with an item each, or no tuples; or one thing alone -/
def sortOk (ds : List PyData) : Bool :=
  (ds.all fun a => ds.all fun b => alike a b) && (ds.all fun a => decide (a.depth ≤ 50)) && decide (ds.length ≤ sizeLine) && PyData.canLayAll0 ds &&
  ((decide (ds.length ≤ 1) && ds.all (fun a => match a with | .none => false | _ => true)) || (ds.all fun a => match a with | .tuple (_ :: _) => true | _ => false) || ds.all fun a => match a with | .tuple _ => false | .none => false | _ => true)
theorem sortOk_use {ds : List PyData} (h : sortOk ds = true) : AllAlike ds ∧ (∀ d ∈ ds, d.depth ≤ 50) ∧ ds.length ≤ sizeLine ∧ PyData.canLayAll0 ds = true ∧ ((ds.length ≤ 1 ∧ ∀ d ∈ ds, d ≠ .none) ∨ Sortable ds) := by
  unfold sortOk at h
  simp only [Bool.and_eq_true, Bool.or_eq_true, List.all_eq_true, decide_eq_true_eq] at h
  obtain ⟨⟨⟨⟨h1, h2⟩, h3⟩, h0⟩, h4⟩ := h
  refine ⟨fun d hd d' hd' => h1 d hd d' hd', h2, h3, h0, ?_⟩
  rcases h4 with (⟨h4, h5⟩ | h4) | h4
  · exact .inl ⟨h4, fun d hd e => by have := h5 d hd; rw [e] at this; cases this⟩
  · refine .inr (.inl fun d hd => ?_)
    have := h4 d hd
    split at this
    · exact ⟨_, _, rfl⟩
    · cases this
  · refine .inr (.inr fun d hd => ?_)
    have := h4 d hd
    split at this
    · cases this
    · cases this
    · rename_i a b; exact ⟨fun e => b e, fun xs e => a xs e⟩
section
variable {X : Cx} {pins : List (Addr × Obj)} {σ : L2.St} {H : Hp} {s : Shared}
theorem each_zip : ∀ {xs : List V} {ds : List PyData} {vs : List Value}, Vals xs vs → xs.length = ds.length → EachIs (fun (v : Value) (b : V × PyData) => RelV b.1 v) vs (xs.zip ds)
  | _, [], _, .nil, _ => .nil
  | _, _ :: _, _, .nil, h => by simp at h
  | _, [], _, .cons _ _, h => by simp at h
  | _, _ :: _, _, .cons r t, h => .cons r (each_zip t (by simpa using h))
theorem each_reads (I : Inv X pins σ H s) : ∀ {xs : List V} {ds : List PyData} {vs : List Value}, Vals xs vs → DpAll X.K H xs ds → EachIs (fun (v : Value) (b : V × PyData) => ∃ as, Reads s.heap v b.2 as) vs (xs.zip ds)
  | _, _, _, .nil, .nil => .nil
  | _, _, _, .cons r t, .cons h k => .cons (Dp.reads I _ _ _ h r) (each_reads I t k)
theorem dpAll_length {K : PySem.W.Frag} : ∀ {xs : List V} {ds : List PyData}, DpAll K H xs ds → xs.length = ds.length
  | _, _, .nil => rfl
  | _, _, .cons _ t => congrArg Nat.succ (dpAll_length t)
theorem vals_each : ∀ {bs : List (V × PyData)} {out : List Value}, EachIs (fun (v : Value) (b : V × PyData) => RelV b.1 v) out bs → Vals (bs.map Prod.fst) out
  | _, _, .nil => .nil
  | _, _, .cons r t => .cons r (vals_each t)
theorem sorted_gen {x : Value} {k : Nat} {Q : VK} {Good : List V → List PyData → Prop} (I : Inv X pins σ H s) (hr : Room k X.A)
    (hc : ∀ (R : List Value → Shared → Prop) (E : Value → Shared → Prop), (∀ s' vs xs ds, (∀ b o, s.heap.get? b = some o → s'.heap.get? b = some o) → s'.gens = s.gens → s'.os = s.os → Good xs ds → Vals xs vs → R vs s') → wpAny (model X.prog X.w) X.A.in1 (collect x) R E s)
    (hg : ∀ xs ds, Good xs ds → DpAll X.K H xs ds ∧ sortOk ds = true)
    (q : ∀ xs ds p, Good xs ds → H p = none → Q (.ref p) (upd H p (.lst (((xs.zip ds).mergeSort (dataLe false Prod.snd)).map Prod.fst)))) :
    wpAny (model X.prog X.w) X.A (call (.builtin "sorted") [x]) (EP X pins σ Q) X.xe s := by
  refine Calls.call_function_entry PyProof.Rows.kind_sorted PyProof.Rows.plain_sorted PyProof.Rows.entry_sorted (PyProof.Rows.args_sorted1 _) ?_
  unfold Builtin.«sorted»
  refine wpAny_bind (m := checkCount "sorted" 1 1 _) (wpAny_pure ?_)
  refine wpAny_bind (hc _ _ fun s' vs xs ds kp g o good rv => ?_)
  obtain ⟨dp, ok⟩ := hg xs ds good
  obtain ⟨al, dep, hL, _, cases_⟩ := sortOk_use ok
  have l1 := dpAll_length dp
  have l2 := rv.length
  have I1 : Inv X pins σ H s' := I.call' (ch := []) o (Un.kept kp) (I.hok.kept kp) (by rw [g]; exact I.bare) (fun _ z => nomatch z)
  refine wpAny_bind (wpAny_newList ?_ (by omega))
  have hoL : (s'.heap.push (seqObj "list" vs.toArray 0)).get? s'.heap.objs.size = some (seqObj "list" vs.toArray 0) := Heap.get?_push_size _ rfl
  show wpAny _ _ _ _ _ { s' with heap := s'.heap.push (seqObj "list" vs.toArray 0) }
  have kp2 : ∀ b o, s'.heap.get? b = some o → (PySem.W.sortingHeap (s'.heap.push (seqObj "list" vs.toArray 0)) s'.heap.objs.size vs).get? b = some o := fun b o e =>
    PySem.W.sortingHeap_old (Nat.ne_of_lt (Heap.lt_size e)) (Heap.get?_push_of_some _ e)
  have er : EachIs (fun (v : Value) (b : V × PyData) => ∃ as, Reads (PySem.W.sortingHeap (s'.heap.push (seqObj "list" vs.toArray 0)) s'.heap.objs.size vs) v b.2 as) vs (xs.zip ds) :=
    (each_reads I1 rv dp).mono fun _ _ ⟨as, r⟩ => ⟨as, PyProof.Rows.Reads.keeps kp2 r⟩
  have hm : (xs.zip ds).map Prod.snd = ds := List.map_snd_zip (by omega)
  have e2 : EachIs (fun v d => ∃ as, Reads (PySem.W.sortingHeap (s'.heap.push (seqObj "list" vs.toArray 0)) s'.heap.objs.size vs) v d as) vs ds := by
    have z := PySem.W.each_map (R := fun v d => ∃ as, Reads (PySem.W.sortingHeap (s'.heap.push (seqObj "list" vs.toArray 0)) s'.heap.objs.size vs) v d as) Prod.snd er
    rw [hm] at z
    exact z
  have hu : ∀ d, d ∈ ds → X.A.in1.in1.units + d.depth < cLine := fun d hd => by
    have := dep d hd
    have := hr.un
    show X.A.units + 1 + 1 + d.depth < cLine
    omega
  have S : PySem.W.SortsAt X.prog X.w X.A.in1.in1 { s' with heap := PySem.W.sortingHeap (s'.heap.push (seqObj "list" vs.toArray 0)) s'.heap.objs.size vs } (PySem.W.dataKind (PySem.W.sortingHeap (s'.heap.push (seqObj "list" vs.toArray 0)) s'.heap.objs.size vs) ds) vs := by
    rcases cases_ with ⟨h1, h2⟩ | h1
    · exact PySem.W.SortsAt.small (s := { s' with heap := PySem.W.sortingHeap (s'.heap.push (seqObj "list" vs.toArray 0)) s'.heap.objs.size vs }) e2 al h2 (by omega) hu
    · exact PySem.W.SortsAt.data (s := { s' with heap := PySem.W.sortingHeap (s'.heap.push (seqObj "list" vs.toArray 0)) s'.heap.objs.size vs }) e2 al h1 hu
  refine wpAny_bind (wpAny_holding (wpAny_call_entry PyProof.Rows.slot_list_sort ⟨_, hoL, rfl⟩ PyProof.Rows.entry_list_sort
    (PySem.W.list_sort_vals (s := { s' with heap := s'.heap.push (seqObj "list" vs.toArray 0) }) hoL S (by omega) ⟨_, rfl, ?_⟩) (PyProof.Rows.args_list_sort _)))
  have out : EachIs (fun (v : Value) (b : V × PyData) => RelV b.1 v) (PySem.W.sortVals (PySem.W.dataKind (PySem.W.sortingHeap (s'.heap.push (seqObj "list" vs.toArray 0)) s'.heap.objs.size vs) ds) false vs vs) ((xs.zip ds).mergeSort (dataLe false Prod.snd)) := by
    have z := PySem.W.sortVals_data (h' := PySem.W.sortingHeap (s'.heap.push (seqObj "list" vs.toArray 0)) s'.heap.objs.size vs) (enc := Prod.snd) false (each_zip rv l1) er (by rw [hm]; exact al)
    rw [hm] at z
    exact z
  obtain ⟨e', he'⟩ := PyProof.Rows.sortedHeap_at (vs := vs) (out := (PySem.W.sortVals (PySem.W.dataKind (PySem.W.sortingHeap (s'.heap.push (seqObj "list" vs.toArray 0)) s'.heap.objs.size vs) ds) false vs vs).toArray) hoL
  have hlen : (((xs.zip ds).mergeSort (dataLe false Prod.snd)).map Prod.fst).length ≤ sizeLine := by
    rw [List.length_map, List.length_mergeSort, List.length_zip]
    omega
  refine wpAny_pure ⟨_, rfl, .ref s'.heap.objs.size, upd H s'.heap.objs.size (.lst (((xs.zip ds).mergeSort (dataLe false Prod.snd)).map Prod.fst)), I1.laid (t' := s'.toks) (fun b u e => ?_) (Nat.le_refl _)
    (show ObjOk X.prog X.w _ _ _ (.lst _) from ⟨hlen, _, e', vals_each out, he'⟩), rfl, q xs ds _ good (I1.hok.fresh (Nat.le_refl _))⟩
  have hb : b < s'.heap.objs.size := Heap.lt_size e
  rw [PyProof.Rows.sortedHeap_old (Nat.ne_of_lt hb) (by rw [size_push']; exact Nat.lt_succ_of_lt hb)]
  exact Heap.get?_push_of_some _ e
end
end Lf

set_option Elab.async false
set_option linter.all false
set_option maxRecDepth 100000
set_option maxHeartbeats 4000000
/-! Lay7: calls of built-ins. -/
namespace Lf
open PySem PySem.Spec PyProof.Rows L2
open PySem.W (EachIs dataLe AllAlike Sortable alike)

def CallD (X : Cx) (r : List V → Hp → VK → Prop) (F : List Wv → Mem → Option Rv) : Prop :=
  ∀ (G H : Hp) (i : List Addr) (M : Mem) (vs : List V) (ws : List Wv) (res : Rv) (Q : VK), MemR X.K G H i M → RpWs X.K G i vs ws → F ws M = some res →
    (∀ v' G' H', Sub G G' → MemR X.K G' H' i M → ResR X.K G' H' i v' res → Q v' H') → r vs H Q
@[simp] def cbR (F : List Wv → Mem → Option Rv) (ws : List Wv) (M : Mem) : Ans Rv := match F ws M with
  | some r => .val r M
  | none => .bad
@[simp] def dCB (F : List Wv → Mem → Option Rv) (f : En → Mem → Ans (List Wv)) : Den := fun e M => (f e M).bind (cbR F)
section
variable {X : Cx} {W : WX} {f g h : Den} {fa : En → Mem → Ans (List Wv)} {F : List Wv → Mem → Option Rv} {a b c : Expr} {pos : Pos}
theorem cb_use {r : List V → Hp → VK → Prop} (cd : CallD X r F) (s : L2.St) (H : Hp) (Q : VK) (q : tD X.K W (dCB F fa) s H Q) : tCB r (tDA X.K W fa) s H Q := by
  obtain ⟨G, i, e, M, he, hm, q⟩ := q
  refine tG.go he hm q fun vs ws M1 G1 H1 s1 m1 r1 q => ?_
  unfold cbR at q
  cases z : F ws M1 with
  | none => rw [z] at q; exact q.elim
  | some res => rw [z] at q; exact cd G1 H1 i M1 vs ws res Q m1 r1 z q
theorem d_callB {r : List V → Hp → VK → Prop} {id : String} {x : Str} {p : Pos} {e : Expr} {es : List Expr} (hc : CallR X (.builtin id) r) (cd : CallD X r F) (hg : Gl X x) (hm : X.mg x = none) (hv : bootBuiltins x = some (.builtin id)) (ha : PA X (e :: es) (tDA X.K W fa))
    (hn : x ≠ "__name__" := by decide) (hd : (x == ("__debug__" : Str)) = false := by decide) (he : starEach (e :: es) X.env = (false, eval e X.env) :: starEach es X.env := by rfl) (hpl : (backTo pos (starEach es X.env)).any (·.1) = false := by rfl) :
    PE X (.Call (.Name x p) (e :: es) [] pos) (tD X.K W (dCB F fa)) := PE.weak (pe_callB hc hg hm hv ha hn hd he hpl) (cb_use cd)
theorem d_callTy {r : List V → Hp → VK → Prop} {T : String} {x : Str} {p : Pos} {e : Expr} {es : List Expr} (hc : CallR X (.type T) r) (cd : CallD X r F) (hg : Gl X x) (hm : X.mg x = none) (hv : bootBuiltins x = some (.type T)) (ha : PA X (e :: es) (tDA X.K W fa))
    (hn : x ≠ "__name__" := by decide) (hd : (x == ("__debug__" : Str)) = false := by decide) (he : starEach (e :: es) X.env = (false, eval e X.env) :: starEach es X.env := by rfl) (hpl : (backTo pos (starEach es X.env)).any (·.1) = false := by rfl) :
    PE X (.Call (.Name x p) (e :: es) [] pos) (tD X.K W (dCB F fa)) := PE.weak (pe_callTy hc hg hm hv ha hn hd he hpl) (cb_use cd)
/-- one argument, by its content -/
@[simp] def one (F : PyData → Option Rv) : List Wv → Mem → Option Rv
  | [w], M => (w.rdK M).bind F
  | _, _ => none
theorem one_use {F : PyData → Option Rv} {K : PySem.W.Frag} {G H : Hp} {i : List Addr} {M : Mem} {vs : List V} {ws : List Wv} {res : Rv} (m : MemR K G H i M) (r : RpWs K G i vs ws) (e : one F ws M = some res) : ∃ v d, vs = [v] ∧ CnK K G H v d ∧ F d = some res := by
  cases r with
  | nil => cases e
  | @cons v vs w ws h t =>
    cases t with
    | cons _ _ => cases e
    | nil =>
      have e : (w.rdK M).bind F = some res := e
      cases z : w.rdK M with
      | none => rw [z] at e; cases e
      | some d => rw [z] at e; exact ⟨v, d, rfl, h.cnK m z, e⟩
theorem CnK.list {K : PySem.W.Frag} {G H : Hp} {v : V} {ds : List PyData} (h : CnK K G H v (.list ds)) : ∃ p xs, v = .ref p ∧ SqL K H p xs ∧ RpAll K G xs ds := by
  cases h with
  | of c => cases c with
    | lst h t => exact ⟨_, _, rfl, .of h, t⟩
  | lst h t => exact ⟨_, _, rfl, h, t⟩
theorem CnK.tuple {K : PySem.W.Frag} {G H : Hp} {v : V} {ds : List PyData} (h : CnK K G H v (.tuple ds)) : ∃ p xs, v = .ref p ∧ TupAt K G p xs ∧ RpAll K G xs ds := by
  cases h with
  | of c => cases c with
    | tup h t => exact ⟨_, _, rfl, h, t⟩
theorem CnK.str {K : PySem.W.Frag} {G H : Hp} {v : V} {z : Str} (h : CnK K G H v (.str z)) : v = .str z := by
  cases h with
  | of c => cases c with
    | str => rfl
theorem CnK.int {K : PySem.W.Frag} {G H : Hp} {v : V} {z : Int} (h : CnK K G H v (.int z)) : v = .int z := by
  cases h with
  | of c => cases c with
    | int => rfl
theorem CnK.bl {K : PySem.W.Frag} {G H : Hp} {v : V} {z : Bool} (h : CnK K G H v (.bool z)) : v = .bl z := by
  cases h with
  | of c => cases c with
    | bl => rfl
theorem CnK.dict {K : PySem.W.Frag} {G H : Hp} {v : V} {ds : List (PyData × PyData)} (h : CnK K G H v (.dict ds)) : (∃ p kvs, v = .ref p ∧ H p = some (.dT kvs) ∧ RpT K G kvs ds) ∨ ∃ p kvs, v = .ref p ∧ H p = some (.dK kvs) ∧ RpK K G kvs ds := by
  cases h with
  | of c => cases c with
    | dT h t => exact .inl ⟨_, _, rfl, h, t⟩
    | dK h t => exact .inr ⟨_, _, rfl, h, t⟩
theorem RpT.length {K : PySem.W.Frag} {G : Hp} : ∀ {v : List (List Key × V)} {d : List (PyData × PyData)}, RpT K G v d → v.length = d.length
  | _, _, .nil => rfl
  | _, _, .cons _ t => congrArg Nat.succ t.length
theorem RpK.length {K : PySem.W.Frag} {G : Hp} : ∀ {v : List (Key × V)} {d : List (PyData × PyData)}, RpK K G v d → v.length = d.length
  | _, _, .nil => rfl
  | _, _, .cons _ t => congrArg Nat.succ t.length

/-! ### len -/
@[simp] def lenF : PyData → Option Rv
  | .list ds => some (vI ds.length)
  | .tuple ds => some (vI ds.length)
  | .dict ds => some (vI ds.length)
  | .str z => if z.length ≤ sizeLine then some (vI z.length) else none
  | _ => none
def rLenAll (X : Cx) : List V → Hp → VK → Prop := fun xs H Q => (∃ p ys, xs = [.ref p] ∧ (SqL X.K H p ys ∨ SqT X.K H p ys) ∧ Q (.int ys.length) H) ∨ ((∃ z, xs = [.str z] ∧ z.length ≤ sizeLine ∧ Q (.int z.length) H) ∨ ((∃ a kvs, xs = [V.ref a] ∧ H a = some (.dK kvs) ∧ Q (.int kvs.length) H) ∨ rLenT xs H Q))
theorem cr_lenAll : CallR X (.builtin "len") (rLenAll X) := CallR.or call_len_seq (CallR.or call_len_str (CallR.or call_lenD call_len_dT))
theorem cd_len : CallD X (rLenAll X) (one lenF) := by
  intro G H i M vs ws res Q m r e q
  obtain ⟨v, d, rfl, c, e⟩ := one_use m r e
  cases d with
  | list ds =>
    obtain ⟨p, xs, rfl, h1, h2⟩ := c.list
    cases e
    rw [← h2.length] at q
    exact .inl ⟨p, xs, rfl, .inl h1, q _ G H (Sub.refl _) m (.int _)⟩
  | tuple ds =>
    obtain ⟨p, xs, rfl, h1, h2⟩ := c.tuple
    cases e
    rw [← h2.length] at q
    exact .inl ⟨p, xs, rfl, .inr (m.sub.t h1), q _ G H (Sub.refl _) m (.int _)⟩
  | str z =>
    have := c.str
    subst this
    obtain ⟨hz, rfl⟩ := if_some e
    exact .inr (.inl ⟨z, rfl, hz, q _ G H (Sub.refl _) m (.int _)⟩)
  | dict ds =>
    cases e
    rcases c.dict with ⟨p, kvs, rfl, h1, h2⟩ | ⟨p, kvs, rfl, h1, h2⟩
    · rw [← h2.length] at q
      exact .inr (.inr (.inr ⟨p, kvs, rfl, h1, q _ G H (Sub.refl _) m (.int _)⟩))
    · rw [← h2.length] at q
      exact .inr (.inr (.inl ⟨p, kvs, rfl, h1, q _ G H (Sub.refl _) m (.int _)⟩))
  | _ => cases e
theorem d_len {p : Pos} {e : Expr} (hm : X.mg "len" = none) (ha : PA X [e] (tDA X.K W fa)) (hg : Gl X "len" := by rfl) (he : starEach [e] X.env = (false, eval e X.env) :: starEach [] X.env := by rfl) :
    PE X (.Call (.Name "len" p) [e] [] pos) (tD X.K W (dCB (one lenF) fa)) := d_callB cr_lenAll cd_len hg hm boot_len ha (by decide) (by decide) he rfl

/-! ### tuple, list -/
@[simp] def tupleF : PyData → Option Rv
  | .list ds => some (.w (.d (.tuple ds)))
  | .tuple ds => some (.w (.d (.tuple ds)))
  | _ => none
theorem cd_tuple : CallD X (fun xs H Q => ∃ p ys, xs = [.ref p] ∧ ((SqL X.K H p ys ∧ ∀ l, H l = none → Q (.ref l) (upd H l (.tup ys))) ∨ (SqT X.K H p ys ∧ Q (.ref p) H))) (one tupleF) := by
  intro G H i M vs ws res Q m r e q
  obtain ⟨v, d, rfl, c, e⟩ := one_use m r e
  cases d with
  | list ds =>
    obtain ⟨p, xs, rfl, h1, h2⟩ := c.list
    cases e
    exact ⟨p, xs, rfl, .inl ⟨h1, fun l hl => q (.ref l) _ _ (Sub.new (m.gfree hl)) (m.newTup hl) (.tup (.of upd_same) (h2.mono (Sub.new (m.gfree hl))))⟩⟩
  | tuple ds =>
    obtain ⟨p, xs, rfl, h1, h2⟩ := c.tuple
    cases e
    exact ⟨p, xs, rfl, .inr ⟨m.sub.t h1, q _ G H (Sub.refl _) m (.tup h1 h2)⟩⟩
  | _ => cases e
theorem d_tuple {p : Pos} {e : Expr} (hm : X.mg "tuple" = none) (ha : PA X [e] (tDA X.K W fa)) (hg : Gl X "tuple" := by rfl) (he : starEach [e] X.env = (false, eval e X.env) :: starEach [] X.env := by rfl) :
    PE X (.Call (.Name "tuple" p) [e] [] pos) (tD X.K W (dCB (one tupleF) fa)) := d_callTy call_tuple_of cd_tuple hg hm boot_tuple ha (by decide) (by decide) he rfl
@[simp] def listF : PyData → Option Rv
  | .list ds => some (.own (.list ds))
  | .tuple ds => some (.own (.list ds))
  | _ => none
theorem cd_list : CallD X (fun xs H Q => ∃ p ys, xs = [.ref p] ∧ (SqL X.K H p ys ∨ SqT X.K H p ys) ∧ ∀ l, H l = none → Q (.ref l) (upd H l (.lst ys))) (one listF) := by
  intro G H i M vs ws res Q m r e q
  obtain ⟨v, d, rfl, c, e⟩ := one_use m r e
  cases d with
  | list ds =>
    obtain ⟨p, xs, rfl, h1, h2⟩ := c.list
    cases e
    exact ⟨p, xs, rfl, .inl h1, fun l hl => q (.ref l) _ _ (Sub.refl _) (m.grow hl) ⟨l, _, rfl, m.gfree hl, m.notin hl, upd_same, .lst h2⟩⟩
  | tuple ds =>
    obtain ⟨p, xs, rfl, h1, h2⟩ := c.tuple
    cases e
    exact ⟨p, xs, rfl, .inr (m.sub.t h1), fun l hl => q (.ref l) _ _ (Sub.refl _) (m.grow hl) ⟨l, _, rfl, m.gfree hl, m.notin hl, upd_same, .lst h2⟩⟩
  | _ => cases e
theorem d_list {p : Pos} {e : Expr} (hm : X.mg "list" = none) (ha : PA X [e] (tDA X.K W fa)) (hg : Gl X "list" := by rfl) (he : starEach [e] X.env = (false, eval e X.env) :: starEach [] X.env := by rfl) :
    PE X (.Call (.Name "list" p) [e] [] pos) (tD X.K W (dCB (one listF) fa)) := d_callTy call_list_of cd_list hg hm boot_list ha (by decide) (by decide) he rfl

/-! ### sum, all, any -/
@[simp] def boolsD : List PyData → Option (List Bool)
  | [] => some []
  | .bool n :: r => (match boolsD r with
    | some ns => some (n :: ns)
    | none => none)
  | _ :: _ => none
theorem boolsD_eq : ∀ {ds : List PyData} {ns : List Bool}, boolsD ds = some ns → ds = ns.map .bool
  | [], _, h => by cases h; rfl
  | d :: r, ns, h => by
    cases d with
    | bool n =>
      cases z : boolsD r with
      | none => simp [boolsD, z] at h
      | some ms =>
        simp [boolsD, z] at h
        subst h
        rw [boolsD_eq z]; rfl
    | _ => simp [boolsD] at h
theorem boolsD_map : ∀ ns : List Bool, boolsD (ns.map .bool) = some ns
  | [] => rfl
  | n :: r => by show (match boolsD (r.map .bool) with | some ns => some (n :: ns) | none => none) = some (n :: r); rw [boolsD_map r]
theorem RpAll.bools_eq {K : PySem.W.Frag} {G : Hp} : ∀ {vs : List V} {ns : List Bool}, RpAll K G vs (ns.map .bool) → vs = ns.map V.bl
  | _, [], h => by cases h; rfl
  | _, n :: r, h => by
    cases h with
    | cons h1 h2 => cases h1; rw [RpAll.bools_eq h2]; rfl
@[simp] def sumF : PyData → Option Rv
  | .list ds => (intsD ds).map fun ns => vI ns.sum
  | _ => none
@[simp] def allF : PyData → Option Rv
  | .list ds => (boolsD ds).map fun ns => vB (ns.all id)
  | _ => none
@[simp] def anyF : PyData → Option Rv
  | .list ds => (boolsD ds).map fun ns => vB (ns.any id)
  | _ => none
theorem cd_sum : CallD X (rSum X.K) (one sumF) := by
  intro G H i M vs ws res Q m r e q
  obtain ⟨v, d, rfl, c, e⟩ := one_use m r e
  cases d with
  | list ds =>
    obtain ⟨p, xs, rfl, h1, h2⟩ := c.list
    cases z : intsD ds with
    | none => simp [sumF, z] at e
    | some ns =>
      simp only [sumF, z, Option.map_some, Option.some.injEq] at e
      subst e
      rw [Lf.ints_eq z] at h2
      have := h2.ints_eq
      subst this
      exact ⟨p, ns, rfl, h1, q _ G H (Sub.refl _) m (.int _)⟩
  | _ => cases e
theorem cd_all : CallD X (rAll X.K) (one allF) := by
  intro G H i M vs ws res Q m r e q
  obtain ⟨v, d, rfl, c, e⟩ := one_use m r e
  cases d with
  | list ds =>
    obtain ⟨p, xs, rfl, h1, h2⟩ := c.list
    cases z : boolsD ds with
    | none => simp [allF, z] at e
    | some ns =>
      simp only [allF, z, Option.map_some, Option.some.injEq] at e
      subst e
      rw [boolsD_eq z] at h2
      have := h2.bools_eq
      subst this
      exact ⟨p, ns, rfl, h1, q _ G H (Sub.refl _) m (.bl _)⟩
  | _ => cases e
theorem cd_any : CallD X (rAny X.K) (one anyF) := by
  intro G H i M vs ws res Q m r e q
  obtain ⟨v, d, rfl, c, e⟩ := one_use m r e
  cases d with
  | list ds =>
    obtain ⟨p, xs, rfl, h1, h2⟩ := c.list
    cases z : boolsD ds with
    | none => simp [anyF, z] at e
    | some ns =>
      simp only [anyF, z, Option.map_some, Option.some.injEq] at e
      subst e
      rw [boolsD_eq z] at h2
      have := h2.bools_eq
      subst this
      exact ⟨p, ns, rfl, h1, q _ G H (Sub.refl _) m (.bl _)⟩
  | _ => cases e
theorem d_sum {p : Pos} {e : Expr} (hc : X.calm = true) (hm : X.mg "sum" = none) (ha : PA X [e] (tDA X.K W fa)) (hg : Gl X "sum" := by rfl) (he : starEach [e] X.env = (false, eval e X.env) :: starEach [] X.env := by rfl) :
    PE X (.Call (.Name "sum" p) [e] [] pos) (tD X.K W (dCB (one sumF) fa)) := d_callB (cr_sum hc) cd_sum hg hm (by decide +kernel) ha (by decide) (by decide) he rfl
theorem d_all {p : Pos} {e : Expr} (hc : X.calm = true) (hm : X.mg "all" = none) (ha : PA X [e] (tDA X.K W fa)) (hg : Gl X "all" := by rfl) (he : starEach [e] X.env = (false, eval e X.env) :: starEach [] X.env := by rfl) :
    PE X (.Call (.Name "all" p) [e] [] pos) (tD X.K W (dCB (one allF) fa)) := d_callB (cr_all hc) cd_all hg hm (by decide +kernel) ha (by decide) (by decide) he rfl
theorem d_any {p : Pos} {e : Expr} (hc : X.calm = true) (hm : X.mg "any" = none) (ha : PA X [e] (tDA X.K W fa)) (hg : Gl X "any" := by rfl) (he : starEach [e] X.env = (false, eval e X.env) :: starEach [] X.env := by rfl) :
    PE X (.Call (.Name "any" p) [e] [] pos) (tD X.K W (dCB (one anyF) fa)) := d_callB (cr_any hc) cd_any hg hm (by decide +kernel) ha (by decide) (by decide) he rfl

/-! ### min, max of two; int, str -/
@[simp] def two (F : Int → Int → Rv) : List Wv → Mem → Option Rv
  | [.d (.int a), .d (.int b)], _ => some (F a b)
  | _, _ => none
theorem two_use {F : Int → Int → Rv} {K : PySem.W.Frag} {G : Hp} {i : List Addr} {M : Mem} {vs : List V} {ws : List Wv} {res : Rv} (r : RpWs K G i vs ws) (e : two F ws M = some res) : ∃ a b, vs = [.int a, .int b] ∧ res = F a b := by
  unfold two at e
  split at e
  · rename_i a b
    cases r with
    | cons h t =>
      cases t with
      | cons h2 t2 =>
        cases t2
        cases h
        cases h2
        exact ⟨a, b, rfl, (Option.some.inj e).symm⟩
  · cases e
theorem cd_min2 : CallD X (fun xs H Q => ∃ i j, xs = [.int i, .int j] ∧ Q (.int (if j < i then j else i)) H) (two fun a b => vI (if b < a then b else a)) := by
  intro G H i M vs ws res Q m r e q
  obtain ⟨a, b, rfl, rfl⟩ := two_use r e
  exact ⟨a, b, rfl, q _ G H (Sub.refl _) m (.int _)⟩
theorem cd_max2 : CallD X (fun xs H Q => ∃ i j, xs = [.int i, .int j] ∧ Q (.int (if j > i then j else i)) H) (two fun a b => vI (if b > a then b else a)) := by
  intro G H i M vs ws res Q m r e q
  obtain ⟨a, b, rfl, rfl⟩ := two_use r e
  exact ⟨a, b, rfl, q _ G H (Sub.refl _) m (.int _)⟩
theorem d_min2 {p : Pos} {e e2 : Expr} (hc : X.calm = true) (hm : X.mg "min" = none) (ha : PA X [e, e2] (tDA X.K W fa)) (hg : Gl X "min" := by rfl) (he : starEach [e, e2] X.env = (false, eval e X.env) :: starEach [e2] X.env := by rfl) (hpl : (backTo pos (starEach [e2] X.env)).any (·.1) = false := by rfl) :
    PE X (.Call (.Name "min" p) [e, e2] [] pos) (tD X.K W (dCB (two fun a b => vI (if b < a then b else a)) fa)) := d_callB (call_min2 hc) cd_min2 hg hm (by decide +kernel) ha (by decide) (by decide) he hpl
theorem d_max2 {p : Pos} {e e2 : Expr} (hc : X.calm = true) (hm : X.mg "max" = none) (ha : PA X [e, e2] (tDA X.K W fa)) (hg : Gl X "max" := by rfl) (he : starEach [e, e2] X.env = (false, eval e X.env) :: starEach [e2] X.env := by rfl) (hpl : (backTo pos (starEach [e2] X.env)).any (·.1) = false := by rfl) :
    PE X (.Call (.Name "max" p) [e, e2] [] pos) (tD X.K W (dCB (two fun a b => vI (if b > a then b else a)) fa)) := d_callB (call_max2 hc) cd_max2 hg hm (by decide +kernel) ha (by decide) (by decide) he hpl
@[simp] def intF : PyData → Option Rv
  | .int n => some (vI n)
  | .bool b => some (vI (if b then 1 else 0))
  | _ => none
theorem cd_int : CallD X (fun xs H Q => (∃ i, xs = [.int i] ∧ Q (.int i) H) ∨ ∃ k, xs = [.bl k] ∧ Q (.int (if k then 1 else 0)) H) (one intF) := by
  intro G H i M vs ws res Q m r e q
  obtain ⟨v, d, rfl, c, e⟩ := one_use m r e
  cases d with
  | int n => cases e; rw [c.int]; exact .inl ⟨n, rfl, q _ G H (Sub.refl _) m (.int _)⟩
  | bool n => cases e; rw [c.bl]; exact .inr ⟨n, rfl, q _ G H (Sub.refl _) m (.int _)⟩
  | _ => cases e
theorem d_intc {p : Pos} {e : Expr} (hm : X.mg "int" = none) (ha : PA X [e] (tDA X.K W fa)) (hg : Gl X "int" := by rfl) (he : starEach [e] X.env = (false, eval e X.env) :: starEach [] X.env := by rfl) :
    PE X (.Call (.Name "int" p) [e] [] pos) (tD X.K W (dCB (one intF) fa)) := d_callTy call_int1 cd_int hg hm boot_int ha (by decide) (by decide) he rfl
end
end Lf

set_option Elab.async false
set_option linter.all false
set_option maxRecDepth 100000
set_option maxHeartbeats 4000000
/-! Lay8: isinstance, sorted, ranges as lists, slices. -/
namespace Lf
open PySem PySem.Spec PyProof.Rows L2
open PySem.W (EachIs dataLe AllAlike Sortable alike)
section
variable {X : Cx} {W : WX} {f g h : Den} {fa : En → Mem → Ans (List Wv)} {F : List Wv → Mem → Option Rv} {a b c : Expr} {pos : Pos}
/-! ### isinstance -/
@[simp] def tyD : PyData → String
  | .none => "NoneType"
  | .bool _ => "bool"
  | .int _ => "int"
  | .str _ => "str"
  | .list _ => "list"
  | .tuple _ => "tuple"
  | .dict _ => "dict"
@[simp] def isD (d : PyData) (T : String) : Bool := tyD d == T || (tyD d == "bool" && T == "int")
theorem kit_isD (d : PyData) {T : String} (hT : T ∈ ["int", "bool", "str", "tuple", "list", "dict"]) : kitB (tyD d) T = some (isD d T) := by
  simp only [List.mem_cons, List.not_mem_nil, or_false] at hT
  have key : ∀ A ∈ ["NoneType", "bool", "int", "str", "list", "tuple", "dict"], ∀ B ∈ ["int", "bool", "str", "tuple", "list", "dict"], kitB A B = some (A == B || (A == "bool" && B == "int")) := by decide +kernel
  have h1 : tyD d ∈ ["NoneType", "bool", "int", "str", "list", "tuple", "dict"] := by cases d <;> simp
  exact key _ h1 T (by simpa using hT)
theorem sqT_tyx {K : PySem.W.Frag} {H : Hp} {p : Addr} {xs : List V} (h : SqT K H p xs) : TyX K H (.ref p) (.type "tuple") := by
  rcases h with (h | ⟨o, h⟩) | ⟨o, its, n, h1, h2, _⟩
  · exact .base (.tup h)
  · exact .fTuple h
  · exact .kTuple h1 h2
theorem sqL_tyx {K : PySem.W.Frag} {H : Hp} {p : Addr} {xs : List V} (h : SqL K H p xs) : TyX K H (.ref p) (.type "list") := by
  rcases h with (h | ⟨o, h⟩) | ⟨o, its, n, h1, h2, _⟩
  · exact .base (.lst h)
  · exact .base (.frz h)
  · exact .kList h1 h2
theorem CnK.tyx {K : PySem.W.Frag} {G H : Hp} {v : V} {d : PyData} (h : CnK K G H v d) (e : Sub G H) : TyX K H v (.type (tyD d)) := by
  cases h with
  | of c =>
    cases c with
    | non => exact .base .non
    | bl b => exact .base (.bl b)
    | int i => exact .base (.int i)
    | str x => exact .base (.str x)
    | lst h t => exact .base (.lst h)
    | tup h t => exact sqT_tyx (e.t h)
    | dT h t => exact .base (.dT h)
    | dK h t => exact .base (.dK h)
  | lst h t => exact sqL_tyx h
@[simp] def isiR (Ts : List String) (x : Rv) (M : Mem) : Ans Rv := match x.fz.rdK M with
  | some d => .val (vB (Ts.any fun T => isD d T)) M
  | none => .bad
@[simp] def dIsi (Ts : List String) (f : Den) : Den := fun e M => (f e M).bind (isiR Ts)
theorem isi_use {K : PySem.W.Frag} {G H : Hp} {i : List Addr} {M : Mem} {s : L2.St} {x : Rv} {v : V} {Q : VK} {Ts : List String} (m : MemR K G H i M) (r : RpW K G i v x.fz) (q : Ask K W (ResR K) G i s Q (isiR Ts x M)) :
    ∃ d, CnK K G H v d ∧ ∀ G' H', Sub G G' → MemR K G' H' i M → Q (.bl (Ts.any fun T => isD d T)) H' := by
  unfold isiR at q
  cases z : x.fz.rdK M with
  | none => rw [z] at q; exact q.elim
  | some d =>
    rw [z] at q
    exact ⟨d, r.cnK m z, fun G' H' a b => q _ G' H' a b (.bl _)⟩
theorem d_isi {p p2 : Pos} {e : Expr} {T : String} {x : Str} (hT : T ∈ ["int", "bool", "str", "tuple", "list", "dict"]) (hm : X.mg "isinstance" = none) (hgT : Gl X x) (hmT : X.mg x = none) (hvT : bootBuiltins x = some (.type T)) (he : PE X e (tD X.K W f)) (hg : Gl X "isinstance" := by rfl)
    (hn : x ≠ "__name__" := by decide) (hd : (x == ("__debug__" : Str)) = false := by decide)
    (h1 : starEach [e, .Name x p2] X.env = (false, eval e X.env) :: starEach [.Name x p2] X.env := by rfl) (h2 : starEach [.Name x p2] X.env = (false, eval (.Name x p2) X.env) :: starEach [] X.env := by rfl) (hpl : (backTo pos (starEach [.Name x p2] X.env)).any (·.1) = false := by rfl) :
    PE X (.Call (.Name "isinstance" p) [e, .Name x p2] [] pos) (tD X.K W (dIsi [T] f)) :=
  PE.weak (pe_callB call_isi hg hm boot_isinstance (pa_cons he (pa_cons (pe_bltn (v := .ty T) hgT hmT hvT rfl hn hd) pa_nil h2) h1) (by decide) (by decide) h1 hpl) fun s H Q q => by
    obtain ⟨G, i, e, M, he, hm, q⟩ := q
    refine tD.goW he hm q fun v x M1 G1 H1 s1 m1 r1 q => ?_
    obtain ⟨d, c, q⟩ := isi_use m1 r1 q
    refine ⟨v, .ty T, _, _, _, rfl, .ty T, c.tyx m1.sub, kit_ty (kit_isD d hT), ?_⟩
    have := q G1 H1 (Sub.refl _) m1
    simpa using this
/-- isinstance(x, (S, T)) -/
theorem d_isi2 {p p1 p2 tp : Pos} {k : Nat} {e : Expr} {S T : String} {x y : Str} (hS : S ∈ ["int", "bool", "str", "tuple", "list", "dict"]) (hT : T ∈ ["int", "bool", "str", "tuple", "list", "dict"]) (hm : X.mg "isinstance" = none)
    (hgS : Gl X x) (hmS : X.mg x = none) (hvS : bootBuiltins x = some (.type S)) (hgT : Gl X y) (hmT : X.mg y = none) (hvT : bootBuiltins y = some (.type T)) (he : PE X e (tD X.K W f)) (hg : Gl X "isinstance" := by rfl)
    (hnx : x ≠ "__name__" := by decide) (hdx : (x == ("__debug__" : Str)) = false := by decide) (hny : y ≠ "__name__" := by decide) (hdy : (y == ("__debug__" : Str)) = false := by decide)
    (h1 : starEach [e, .Tuple [.Name x p1, .Name y p2] k tp] X.env = (false, eval e X.env) :: starEach [.Tuple [.Name x p1, .Name y p2] k tp] X.env := by rfl)
    (h2 : starEach [.Tuple [.Name x p1, .Name y p2] k tp] X.env = (false, eval (.Tuple [.Name x p1, .Name y p2] k tp) X.env) :: starEach [] X.env := by rfl)
    (h3 : starEach [.Name x p1, .Name y p2] X.env = (false, eval (.Name x p1) X.env) :: starEach [.Name y p2] X.env := by rfl) (h4 : starEach [.Name y p2] X.env = (false, eval (.Name y p2) X.env) :: starEach [] X.env := by rfl)
    (hpl : (backTo pos (starEach [.Tuple [.Name x p1, .Name y p2] k tp] X.env)).any (·.1) = false := by rfl) :
    PE X (.Call (.Name "isinstance" p) [e, .Tuple [.Name x p1, .Name y p2] k tp] [] pos) (tD X.K W (dIsi [S, T] f)) :=
  PE.weak (pe_callB call_isiT hg hm boot_isinstance (pa_cons he (pa_cons (pe_tup (pa_cons (pe_bltn (v := .ty S) hgS hmS hvS rfl hnx hdx) (pa_cons (pe_bltn (v := .ty T) hgT hmT hvT rfl hny hdy) pa_nil h4) h3)) pa_nil h2) h1) (by decide) (by decide) h1 hpl) fun s H Q q => by
    obtain ⟨G, i, e, M, he, hm, q⟩ := q
    refine tD.goW he hm q fun v x M1 G1 H1 s1 m1 r1 q => ?_
    obtain ⟨d, c, q⟩ := isi_use m1 r1 q
    refine ⟨by show 2 ≤ sizeLine; decide, fun t ht => ?_⟩
    have c2 : TyX X.K (upd H1 t (.tup [.ty S, .ty T])) v (.type (tyD d)) := by
      have c3 := c.tyx m1.sub
      have sub : Sub H1 (upd H1 t (.tup [.ty S, .ty T])) := Sub.new ht
      cases c with
      | of c =>
        cases c with
        | non => exact .base .non
        | bl b => exact .base (.bl b)
        | int i => exact .base (.int i)
        | str x => exact .base (.str x)
        | lst h t => exact .base (.lst (sub _ _ h))
        | tup h t => exact sqT_tyx (sub.t2 (m1.sub.t h))
        | dT h t => exact .base (.dT (sub _ _ h))
        | dK h t => exact .base (.dK (sub _ _ h))
      | lst h t => exact sqL_tyx (sub.l h)
    refine ⟨v, t, _, _, [.type S, .type T], _, rfl, upd_same, .cons (.ty S) (.cons (.ty T) .nil), c2, kitAny_cons (r := isD d S || isD d T) (kit_ty (kit_isD d hS)) (fun hb => kitAny_cons (kit_ty (kit_isD d hT)) (fun hb2 => by rw [hb, hb2]; rfl) (fun hb2 => by rw [hb2, Bool.or_true])) (fun hb => by rw [hb, Bool.true_or]), ?_⟩
    have := q G1 (upd H1 t (.tup [.ty S, .ty T])) (Sub.refl _) (m1.grow ht)
    simpa using this

/-! ### sorted -/
/-- the sorted list of data -/
def sortD (ds : List PyData) : List PyData := ds.mergeSort (dataLe false id)
theorem zip_sorted {xs : List V} {ds : List PyData} (hl : xs.length = ds.length) : ((xs.zip ds).mergeSort (dataLe false Prod.snd)).map Prod.snd = sortD ds := by
  unfold sortD
  have z := PySem.W.sort_maps (r := dataLe false Prod.snd) (s := dataLe false id) (l := xs.zip ds) Prod.snd (fun _ _ _ _ => rfl)
  rw [z, List.map_snd_zip (by omega)]
theorem RpAll.mem {K : PySem.W.Frag} {G : Hp} : ∀ {xs : List V} {ds : List PyData}, RpAll K G xs ds → ∀ p ∈ xs.zip ds, Rp K G p.1 p.2
  | _, _, .nil, p, hp => by simp at hp
  | _, _, .cons h t, p, hp => by
    rcases List.mem_cons.mp hp with rfl | hp
    · exact h
    · exact RpAll.mem t p hp
theorem RpAll.ofMem {K : PySem.W.Frag} {G : Hp} : ∀ {bs : List (V × PyData)}, (∀ p ∈ bs, Rp K G p.1 p.2) → RpAll K G (bs.map Prod.fst) (bs.map Prod.snd)
  | [], _ => .nil
  | b :: bs, h => .cons (h b List.mem_cons_self) (RpAll.ofMem fun p hp => h p (List.mem_cons_of_mem _ hp))
theorem RpAll.sorted {K : PySem.W.Frag} {G : Hp} {xs : List V} {ds : List PyData} (h : RpAll K G xs ds) : RpAll K G (((xs.zip ds).mergeSort (dataLe false Prod.snd)).map Prod.fst) (sortD ds) := by
  rw [← zip_sorted h.length]
  exact RpAll.ofMem fun p hp => h.mem p ((List.mergeSort_perm _ _).mem_iff.mp hp)
theorem sortOk_lay {ds : List PyData} (h : sortOk ds = true) : PyData.canLayAll0 ds = true := by
  obtain ⟨_, _, _, h1, _⟩ := sortOk_use h
  exact h1
theorem collect_tuple {prog : Program} {w : World} {A : Around} {E : Value → Shared → Prop} {s : Shared} {l : Addr} {vs : List Value} {Q : List Value → Shared → Prop} (hl : IsTup s.heap l vs.toArray)
    (h : Q vs { s with heap := (s.heap.push (seqObj "list" #[] 0)).update s.heap.objs.size (Obj.mapSeq (· ++ vs.toArray)) }) (hsz : vs.length ≤ sizeLine) :
    wpAny (model prog w) A (collect (.ref l)) Q E s := by
  obtain ⟨o, ho, hc, n, hd⟩ := id hl
  unfold collect
  refine wpAny_bind (wpAny_runValue (codeAny_builtin entry_proto_collect' ?_))
  show wpAny _ _ (do again (.builtin "list.__iadd__" ⟨[← newList [], .ref l], []⟩)) _ _ s
  refine wpAny_bind (wpAny_newList (wpAny_pure ⟨Code.quiet_builtin _ (by decide +kernel), codeAny_builtin entry_list_iadd' ?_⟩))
  show wpAny _ _ (Builtin.List.listExtendWith (.ref s.heap.objs.size) (.ref l) (.ref s.heap.objs.size)) _ _ { s with heap := s.heap.push (seqObj "list" #[] 0) }
  unfold Builtin.List.listExtendWith
  have ho' : (s.heap.push (seqObj "list" #[] 0)).get? l = some o := Heap.get?_push_of_some _ ho
  refine wpAny_bind (wpAny_typeOf (T := "tuple") ⟨o, ho', hc⟩ ?_)
  have ht : (Value.type "tuple" == Value.type "tuple") = true := by rfl
  rw [if_pos (by rw [ht]; simp)]
  refine wpAny_bind (listItems_at ho' hd ?_)
  refine wpAny_bind (listItems_at (xs := #[]) (n := 0) (Heap.get?_push_size _ rfl) rfl ?_)
  rw [if_neg (by simp)]
  refine wpAny_bind (listUpdate_at (xs := #[]) (n := 0) (Heap.get?_push_size _ rfl) rfl ?_ (Nat.zero_le _) (by show (#[] ++ vs.toArray).size ≤ sizeLine + 1; simp only [Array.size_append, List.size_toArray, List.length_nil]; omega))
  refine wpAny_pure ?_
  show wpAny (model prog w) A (do
      let o ← load s.heap.objs.size
      match o.data with
      | .seq xs _ => pure xs.toList
      | _ => unsupported "internal:collect") Q E { s with heap := (s.heap.push (seqObj "list" #[] 0)).update s.heap.objs.size (Obj.mapSeq (· ++ vs.toArray)) }
  refine wpAny_bind (wpAny_load (get?_update_seq (Heap.get?_push_size _ rfl) _) ?_)
  show wpAny _ _ (pure ((#[] : Array Value) ++ vs.toArray).toList) Q E _
  rw [show ((#[] : Array Value) ++ vs.toArray).toList = vs by simp]
  exact wpAny_pure h
theorem collected_kept {h : Heap} {vs : Array Value} {b : Addr} {o : Obj} (e : h.get? b = some o) : ((h.push (seqObj "list" #[] 0)).update h.objs.size (Obj.mapSeq (· ++ vs))).get? b = some o := by
  have hlt := Heap.lt_size e
  rw [Heap.get?_update_ne _ _ _ _ (Nat.ne_of_lt hlt)]
  exact Heap.get?_push_of_some _ e
theorem isKeys_of {H : Hp} : ∀ {kvs : List (List Key × V)} {ks : List (List Key × Addr × Value)}, Paired (fun (p : List Key × V) (q : List Key × Addr × Value) => p.1 = q.1 ∧ H q.2.1 = some (.tup (p.1.map kV)) ∧ RelV p.2 q.2.2) kvs ks → IsKeys H kvs (ks.map fun x => x.2.1)
  | _, _, .nil => .nil
  | _, _, .cons h t => .cons h.2.1 (isKeys_of t)
theorem refs_vals : ∀ ks : List (List Key × Addr × Value), Vals ((ks.map fun x => x.2.1).map V.ref) (ks.map fun x => Value.ref x.2.1)
  | [] => .nil
  | _ :: t => .cons rfl (refs_vals t)
/-- sorted of a list, a tuple, a dict with tuple keys -/
def rSortAll (X : Cx) : List V → Hp → VK → Prop := fun vs H Q => ∃ (v : V) (Good : List V → List PyData → Prop), vs = [v] ∧
  ((∃ a xs ds, v = .ref a ∧ (SqL X.K H a xs ∨ SqT X.K H a xs) ∧ Good = (fun ys es => ys = xs ∧ es = ds)) ∨ (∃ a kvs, v = .ref a ∧ Rd H a (.dT kvs) ∧ Good = fun ys es => ∃ bs, ys = bs.map V.ref ∧ IsKeys H kvs bs ∧ es = kvs.map fun kv => .tuple (kv.1.map kD))) ∧
  (∀ xs ds, Good xs ds → DpAll X.K H xs ds ∧ sortOk ds = true) ∧
  ∀ xs ds p, Good xs ds → H p = none → Q (.ref p) (upd H p (.lst (((xs.zip ds).mergeSort (dataLe false Prod.snd)).map Prod.fst)))
theorem cr_sortAll {k : Nat} (hc : X.calm = true) (hr : Room k X.A) : CallR X (.builtin "sorted") (rSortAll X) := by
  intro pins s σ H vs us Q I r h
  obtain ⟨v, Good, rfl, src, hg, q⟩ := h
  obtain ⟨u, rfl, rx⟩ := vals1 r
  refine sorted_gen I hr (fun R E k => ?_) hg q
  rcases src with ⟨a, xs, ds, rfl, hs, rfl⟩ | ⟨a, kvs, rfl, hd, rfl⟩
  · cases rx
    rcases hs with hs | hs
    · obtain ⟨its, rv, p, hz⟩ := I.list hs
      exact collect_list p.isList (k _ its xs ds (fun b o e => collected_kept e) rfl rfl ⟨rfl, rfl⟩ rv) (by rw [← rv.length]; exact hz)
    · obtain ⟨its, rv, p, hz⟩ := I.tuple hs
      exact collect_tuple p (k _ its xs ds (fun b o e => collected_kept e) rfl rfl ⟨rfl, rfl⟩ rv) (by rw [← rv.length]; exact hz)
  · cases rx
    obtain ⟨z, hs, ks, pr, o, es, ep, ho, hx, hdt, he, hn⟩ := (show ObjOk X.prog X.w H s.heap a (.dT kvs) from hd.ok I.hok)
    have l1 : es.size = ks.length := size_of_entries he
    have l2 : kvs.length = ks.length := Paired.length pr
    refine PySem.W.kdu_collect (A := X.A.in1) (kdl_raw hs hx hdt) (I.ok.hd hc) ho (by omega) fun h' tk acc' kp it => ?_
    have ea : acc'.toList = ks.map fun x => Value.ref x.2.1 := by
      have hl : acc'.toList.length = ks.length := by rw [Array.length_toList, it.1]; exact l1
      apply List.ext_getElem?
      intro j
      rw [List.getElem?_map]
      cases hj : acc'.toList[j]? with
      | none =>
        have h1 := List.getElem?_eq_none_iff.mp hj
        rw [List.getElem?_eq_none (by omega)]
        all_goals rfl
      | some v =>
        obtain ⟨en, hen, hv⟩ := it.2 j v (by rw [← Array.getElem?_toList]; exact hj)
        have qe := entry_at he j
        rw [hen] at qe
        cases hb : ks[j]? with
        | none =>
          rw [hb] at qe
          exact nomatch (show some en = none from qe)
        | some b =>
          rw [hb] at qe
          have e2 : en = entryOfKey (tupleKind (mixKind X.prog X.w)) b := Option.some.inj qe
          rw [hv, e2]
          rfl
    have hk : IsKeys H kvs (ks.map fun x => x.2.1) := isKeys_of pr
    refine k _ acc'.toList _ _ kp rfl rfl ⟨ks.map fun x => x.2.1, rfl, hk, rfl⟩ ?_
    rw [ea]
    exact refs_vals ks

/-- tuples that stand in the heap are data -/
theorem MemR.tups {K : PySem.W.Frag} {G H : Hp} {i : List Addr} {M : Mem} (m : MemR K G H i M) (bs : List Addr) (hb : ∀ b ∈ bs, ∃ xs, H b = some (.tup xs)) : ∃ G', Sub G G' ∧ MemR K G' H i M ∧ ∀ b ∈ bs, G' b = H b := by
  have s0 : Sub G (fun x => if x ∈ bs then H x else G x) := fun a o e => by
    show (if a ∈ bs then H a else G a) = some o
    split
    · exact m.sub a o e
    · exact e
  refine ⟨fun x => if x ∈ bs then H x else G x, s0, ⟨fun a o e => ?_, m.nd, m.len, fun a ha => ?_, fun l a c e1 e2 => ?_⟩, fun b hb => if_pos hb⟩
  · have e : (if a ∈ bs then H a else G a) = some o := e
    split at e
    · exact e
    · exact m.sub a o e
  · show (if a ∈ bs then H a else G a) = none
    split
    · rename_i hm
      obtain ⟨xs, h1⟩ := hb a hm
      obtain ⟨l, hl, e⟩ := List.getElem_of_mem ha
      have hl2 : l < M.length := m.len ▸ hl
      obtain ⟨o, g, t⟩ := m.at_ l a M[l] (by rw [List.getElem?_eq_getElem hl, e]) (List.getElem?_eq_getElem hl2)
      rw [h1] at g
      cases g
      generalize M[l] = c at t
      cases t
    · exact m.fr a ha
  · obtain ⟨o, g, t⟩ := m.at_ l a c e1 e2
    exact ⟨o, g, t.mono s0⟩
theorem kd_all {K : PySem.W.Frag} {G : Hp} : ∀ ks : List Key, RpAll K G (ks.map kV) (ks.map kD)
  | [] => .nil
  | .inl i :: r => .cons (.int i) (kd_all r)
  | .inr x :: r => .cons (.str x) (kd_all r)
theorem RpT.keys {K : PySem.W.Frag} {G : Hp} : ∀ {kvs : List (List Key × V)} {ds : List (PyData × PyData)}, RpT K G kvs ds → ds.map Prod.fst = kvs.map fun kv => .tuple (kv.1.map kD)
  | _, _, .nil => rfl
  | _, _, .cons _ t => by rw [List.map_cons, List.map_cons, RpT.keys t]
theorem isKeys_rp {K : PySem.W.Frag} {G H : Hp} : ∀ {kvs : List (List Key × V)} {bs : List Addr}, IsKeys H kvs bs → (∀ b ∈ bs, G b = H b) → RpAll K G (bs.map V.ref) (kvs.map fun kv => .tuple (kv.1.map kD))
  | _, _, .nil, _ => .nil
  | _, _, .cons h t, g => .cons (.tup (.of ((g _ List.mem_cons_self).trans h)) (kd_all _)) (isKeys_rp t fun b hb => g b (List.mem_cons_of_mem _ hb))
theorem isKeys_tup {H : Hp} : ∀ {kvs : List (List Key × V)} {bs : List Addr}, IsKeys H kvs bs → ∀ b ∈ bs, ∃ xs, H b = some (.tup xs)
  | _, _, .nil, b, hb => by simp at hb
  | _, _, .cons h t, b, hb => by
    rcases List.mem_cons.mp hb with rfl | hb
    · exact ⟨_, h⟩
    · exact isKeys_tup t b hb
@[simp] def tupKeys : List (PyData × PyData) → Bool
  | [] => true
  | (.tuple _, _) :: r => tupKeys r
  | _ :: _ => false
@[simp] def sortF : PyData → Option Rv
  | .list ds => if sortOk ds = true then some (.own (.list (sortD ds))) else none
  | .tuple ds => if sortOk ds = true then some (.own (.list (sortD ds))) else none
  | .dict ds => if ds ≠ [] ∧ tupKeys ds = true ∧ sortOk (ds.map Prod.fst) = true then some (.own (.list (sortD (ds.map Prod.fst)))) else none
  | _ => none
theorem cd_sorted : CallD X (rSortAll X) (one sortF) := by
  intro G H i M vs ws res Q m r e q
  obtain ⟨v, d, rfl, c, e⟩ := one_use m r e
  have seq : ∀ {a : Addr} {xs : List V} {ds : List PyData}, (SqL X.K H a xs ∨ SqT X.K H a xs) → RpAll X.K G xs ds → sortOk ds = true → res = .own (.list (sortD ds)) → rSortAll X [.ref a] H Q := by
    intro a xs ds hs t ok er
    subst er
    refine ⟨.ref a, _, rfl, .inl ⟨a, xs, ds, rfl, hs, rfl⟩, fun ys es z => ?_, fun ys es p z hp => ?_⟩
    · obtain ⟨rfl, rfl⟩ := z
      exact ⟨t.dp m.sub (sortOk_lay ok), ok⟩
    · obtain ⟨rfl, rfl⟩ := z
      exact q (.ref p) G _ (Sub.refl _) (m.grow hp) ⟨p, _, rfl, m.gfree hp, m.notin hp, upd_same, .lst t.sorted⟩
  cases d with
  | list ds =>
    obtain ⟨p, xs, rfl, h1, h2⟩ := c.list
    obtain ⟨ok, h3⟩ := if_some e
    exact seq (.inl h1) h2 ok h3.symm
  | tuple ds =>
    obtain ⟨p, xs, rfl, h1, h2⟩ := c.tuple
    obtain ⟨ok, h3⟩ := if_some e
    exact seq (.inr (m.sub.t h1)) h2 ok h3.symm
  | dict ds =>
    obtain ⟨⟨hne, htk, ok⟩, h3⟩ := if_some e
    subst h3
    rcases c.dict with ⟨p, kvs, rfl, h1, h2⟩ | ⟨p, kvs, rfl, h1, h2⟩
    · refine ⟨.ref p, _, rfl, .inr ⟨p, kvs, rfl, .of h1, rfl⟩, fun ys es z => ?_, fun ys es l z hl => ?_⟩
      · obtain ⟨bs, rfl, hk, rfl⟩ := z
        obtain ⟨G', s', m', hg⟩ := m.tups bs (isKeys_tup hk)
        rw [← h2.keys]
        exact ⟨by rw [h2.keys]; exact (isKeys_rp hk hg).dp m'.sub (by rw [← h2.keys]; exact sortOk_lay ok), ok⟩
      · obtain ⟨bs, rfl, hk, rfl⟩ := z
        obtain ⟨G', s', m', hg⟩ := m.tups bs (isKeys_tup hk)
        have ra : RpAll X.K G' (bs.map V.ref) (ds.map Prod.fst) := by rw [h2.keys]; exact isKeys_rp hk hg
        rw [← h2.keys]
        exact q (.ref l) G' _ s' (m'.grow hl) ⟨l, _, rfl, m'.gfree hl, m'.notin hl, upd_same, .lst ra.sorted⟩
    · cases h2 with
      | nil => exact (hne rfl).elim
      | @cons k _ _ _ _ h t => cases k <;> simp [kD] at htk
  | _ => cases e
theorem d_sorted {p : Pos} {e : Expr} {k : Nat} (hc : X.calm = true) (hr : Room k X.A) (hm : X.mg "sorted" = none) (ha : PA X [e] (tDA X.K W fa)) (hg : Gl X "sorted" := by rfl) (he : starEach [e] X.env = (false, eval e X.env) :: starEach [] X.env := by rfl) :
    PE X (.Call (.Name "sorted" p) [e] [] pos) (tD X.K W (dCB (one sortF) fa)) := d_callB (cr_sortAll hc hr) cd_sorted hg hm (by decide +kernel) ha (by decide) (by decide) he rfl

/-! ### tuple(range(n)), list(range(n)) -/
def rgD (a b : Int) : List PyData := (List.range (b - a).toNat).map fun j => .int (a + (j : Nat))
theorem rg_rp {K : PySem.W.Frag} {G : Hp} (a b : Int) : RpAll K G (rgV a b) (rgD a b) := by
  unfold rgV rgD
  generalize List.range (b - a).toNat = l
  induction l with
  | nil => exact .nil
  | cons x r ih => exact .cons (.int _) ih
@[simp] def rgOk (a b : Int) : Bool := decide (a.natAbs < 2 ^ 62 ∧ b.natAbs < 2 ^ 62 ∧ (b - a).toNat ≤ 2 ^ 24)
@[simp] def asI (r : Rv) (M : Mem) : Ans Int := match r with
  | .w (.d (.int b)) => .val b M
  | _ => .bad
theorem asI_use {K : PySem.W.Frag} {G : Hp} {i : List Addr} {M : Mem} {s : L2.St} {r : Rv} {A B : Type} {Rel : Hp → Hp → List Addr → B → A → Prop} {Q : B → Hp → Prop} {k : Int → Mem → Ans A} (q : Ask K W Rel G i s Q ((asI r M).bind k)) :
    ∃ b, r = vI b ∧ Ask K W Rel G i s Q (k b M) := by
  cases r with
  | own c => exact q.elim
  | w x =>
    cases x with
    | d y =>
      cases y with
      | int b => exact ⟨b, rfl, q⟩
      | _ => exact q.elim
    | _ => exact q.elim
theorem int_of {K : PySem.W.Frag} {G H : Hp} {i : List Addr} {v : V} {b : Int} (h : ResR K G H i v (vI b)) : v = .int b := by
  have h : Rp K G v (.int b) := h
  cases h
  rfl
@[simp] def dTupRg (f : Den) : Den := fun e M => (f e M).bind fun x M1 => (asI x M1).bind fun n M2 => if rgOk 0 n = true then .val (.w (.d (.tuple (rgD 0 n)))) M2 else .bad
@[simp] def dLstRg (f : Den) : Den := fun e M => (f e M).bind fun x M1 => (asI x M1).bind fun n M2 => if rgOk 0 n = true then .val (.own (.list (rgD 0 n))) M2 else .bad
theorem d_tupRg {p p2 pos2 : Pos} {e : Expr} (hc : X.calm = true) (hmt : X.mg "tuple" = none) (hmr : X.mg "range" = none) (ha : PE X e (tD X.K W f)) (hgt : Gl X "tuple" := by rfl) (hgr : Gl X "range" := by rfl)
    (na : starEach [e] X.env = (false, eval e X.env) :: starEach [] X.env := by rfl)
    (nb : starEach [Expr.Call (.Name "range" p2) [e] [] pos2] X.env = (false, eval (Expr.Call (.Name "range" p2) [e] [] pos2) X.env) :: starEach [] X.env := by rfl) :
    PE X (.Call (.Name "tuple" p) [.Call (.Name "range" p2) [e] [] pos2] [] pos) (tD X.K W (dTupRg f)) :=
  PE.weak (pe_tupRg hc hgt hmt (prg_1 hgr hmr ha na) nb) fun s H Q q => by
    obtain ⟨G, i, e, M, he, hm, q⟩ := q
    refine tG.go he hm q fun v x M1 G1 H1 s1 m1 r1 q => ?_
    obtain ⟨n, rfl, q⟩ := asI_use q
    simp only [asI, vI, Ans.bind] at q
    split at q
    · rename_i ok
      refine ⟨n, int_of r1, (by unfold RgOk; have := of_decide_eq_true ok; omega), fun l hl => ?_⟩
      exact q (.ref l) _ _ (Sub.new (m1.gfree hl)) (m1.newTup hl) (.tup (.of upd_same) (rg_rp 0 n))
    · exact q.elim
theorem d_lstRg {p p2 pos2 : Pos} {e : Expr} (hc : X.calm = true) (hmt : X.mg "list" = none) (hmr : X.mg "range" = none) (ha : PE X e (tD X.K W f)) (hgt : Gl X "list" := by rfl) (hgr : Gl X "range" := by rfl)
    (na : starEach [e] X.env = (false, eval e X.env) :: starEach [] X.env := by rfl)
    (nb : starEach [Expr.Call (.Name "range" p2) [e] [] pos2] X.env = (false, eval (Expr.Call (.Name "range" p2) [e] [] pos2) X.env) :: starEach [] X.env := by rfl) :
    PE X (.Call (.Name "list" p) [.Call (.Name "range" p2) [e] [] pos2] [] pos) (tD X.K W (dLstRg f)) :=
  PE.weak (pe_listRg hc hgt hmt (prg_1 hgr hmr ha na) nb) fun s H Q q => by
    obtain ⟨G, i, e, M, he, hm, q⟩ := q
    refine tG.go he hm q fun v x M1 G1 H1 s1 m1 r1 q => ?_
    obtain ⟨n, rfl, q⟩ := asI_use q
    simp only [asI, vI, Ans.bind] at q
    split at q
    · rename_i ok
      refine ⟨n, int_of r1, (by unfold RgOk; have := of_decide_eq_true ok; omega), fun l hl => ?_⟩
      exact q (.ref l) _ _ (Sub.refl _) (m1.grow hl) ⟨l, _, rfl, m1.gfree hl, m1.notin hl, upd_same, .lst (rg_rp 0 n)⟩
    · exact q.elim

/-! ### slices -/
def cutD {A : Type} (xs : List A) (lo hi : Option Int) : List A := (xs.drop (HT.sIx xs.length 0 lo)).take (HT.sIx xs.length xs.length hi - HT.sIx xs.length 0 lo)
theorem RpAll.cut {K : PySem.W.Frag} {G : Hp} {xs : List V} {ds : List PyData} (h : RpAll K G xs ds) (lo hi : Option Int) : RpAll K G (cutV xs lo hi) (cutD ds lo hi) := by
  unfold cutV cutD
  rw [h.length]
  exact (h.drop _).take _
/-- an optional part: its number -/
@[simp] def pNo : En → Mem → Ans (Option Int) := fun _ M => .val none M
@[simp] def pYes (f : Den) : En → Mem → Ans (Option Int) := fun e M => (f e M).bind fun x M1 => (asI x M1).bind fun n M2 => .val (some n) M2
abbrev tDO (K : PySem.W.Frag) (W : WX) (f : En → Mem → Ans (Option Int)) : TO := tG K W (fun _ _ _ (b : Option Int) a => b = a) f
theorem PO.weak {e : Option Expr} {t t' : TO} (h : PO X e t) (w : ∀ s H Q, t' s H Q → t s H Q) : PO X e t' := ⟨fun pins s σ H Q I q => h.run pins s σ H Q I (w _ _ _ q)⟩
theorem p_no : PO X none (tDO X.K W pNo) := PO.weak po_none fun s H Q q => by
  obtain ⟨G, i, e, M, he, hm, q⟩ := q
  exact q _ G H (Sub.refl _) hm rfl
theorem p_yes {e : Expr} (he : PE X e (tD X.K W f)) : PO X (some e) (tDO X.K W (pYes f)) := PO.weak (po_some he) fun s H Q q => by
  obtain ⟨G, i, e, M, he, hm, q⟩ := q
  refine tG.go he hm q fun v x M1 G1 H1 s1 m1 r1 q => ?_
  obtain ⟨n, rfl, q⟩ := asI_use q
  exact ⟨n, int_of r1, q _ G1 H1 (Sub.refl _) m1 rfl⟩
@[simp] def slR (x : Wv) (lo hi : Option Int) (M : Mem) : Ans Rv := match x.rdK M with
  | some (.list ds) => .val (.own (.list (cutD ds lo hi))) M
  | some (.tuple ds) => .val (.w (.d (.tuple (cutD ds lo hi)))) M
  | some (.str z) => if z.length ≤ sizeLine then .val (.w (.d (.str (cutS z lo hi)))) M else .bad
  | _ => .bad
@[simp] def dSl (f : Den) (lo hi : En → Mem → Ans (Option Int)) : Den := fun e M => (f e M).bind fun x M1 => (lo e M1).bind fun l M2 => (hi e M2).bind fun h M3 => slR x.fz l h M3
theorem cutV_whole {xs : List V} {lo hi : Option Int} (h : HT.sIx xs.length 0 lo = 0 ∧ HT.sIx xs.length xs.length hi = xs.length) : cutV xs lo hi = xs := by
  unfold cutV
  rw [h.1, h.2]
  simp
theorem d_sl {e : Expr} {lo hi : Option Expr} {p2 : Pos} {tl th : En → Mem → Ans (Option Int)} (he : PE X e (tD X.K W f)) (hl : PO X lo (tDO X.K W tl)) (hu : PO X hi (tDO X.K W th)) : PE X (.Subscript e (.Slice lo hi none p2) pos) (tD X.K W (dSl f tl th)) :=
  PE.weak (pe_slice (SlR.or sl_list (SlR.or sl_tupA sl_str)) he hl hu) fun s H Q q => by
    obtain ⟨G, i, e, M, he, hm, q⟩ := q
    refine tD.goW he hm q fun v x M1 G1 H1 s1 m1 r1 q => ?_
    refine tG.go (he.mono s1 (List.prefix_refl i)) m1 q fun l _ M2 G2 H2 s2 m2 e2 q => ?_
    subst e2
    refine tG.go (he.mono (s1.trans s2) (List.prefix_refl i)) m2 q fun u _ M3 G3 H3 s3 m3 e3 q => ?_
    subst e3
    have r3 := r1.mono (s2.trans s3) (List.prefix_refl i)
    unfold slR at q
    cases z : x.fz.rdK M3 with
    | none => rw [z] at q; exact q.elim
    | some d =>
      rw [z] at q
      have c := r3.cnK m3 z
      cases d with
      | list ds =>
        obtain ⟨p, xs, rfl, h1, h2⟩ := c.list
        exact .inl ⟨p, xs, rfl, h1, fun k hk => q (.ref k) _ _ (Sub.refl _) (m3.grow hk) ⟨k, _, rfl, m3.gfree hk, m3.notin hk, upd_same, .lst (h2.cut _ _)⟩⟩
      | tuple ds =>
        obtain ⟨p, xs, rfl, h1, h2⟩ := c.tuple
        refine .inr (.inl ⟨p, xs, rfl, m3.sub.t h1, fun hw => ?_, fun _ k hk => ?_⟩)
        · have hc := h2.cut l u
          rw [cutV_whole hw] at hc
          exact q (.ref p) G3 H3 (Sub.refl _) m3 (.tup h1 hc)
        · exact q (.ref k) _ _ (Sub.new (m3.gfree hk)) (m3.newTup hk) (.tup (.of upd_same) ((h2.cut _ _).mono (Sub.new (m3.gfree hk))))
      | str y =>
        have := c.str
        subst this
        simp only at q
        split at q
        · rename_i hz
          exact .inr (.inr ⟨y, rfl, hz, q _ G3 H3 (Sub.refl _) m3 (.str _)⟩)
        · exact q.elim
      | _ => exact q.elim
/-- xs[::-1] of a tuple or list: see below -/
theorem noted : True := trivial

end
end Lf

set_option Elab.async false
set_option linter.all false
set_option maxRecDepth 100000
set_option maxHeartbeats 4000000
/-! Lay9: statements, loops, comprehensions. -/
namespace Lf
open PySem PySem.Spec PyProof.Rows L2

/-! ### equal data -/
mutual
def beqD : PyData → PyData → Bool
  | .none, .none => true
  | .bool a, .bool b => a == b
  | .int a, .int b => a == b
  | .str a, .str b => a == b
  | .list a, .list b => beqL a b
  | .tuple a, .tuple b => beqL a b
  | .dict a, .dict b => beqK a b
  | _, _ => false
def beqL : List PyData → List PyData → Bool
  | [], [] => true
  | x :: xs, y :: ys => beqD x y && beqL xs ys
  | _, _ => false
def beqK : List (PyData × PyData) → List (PyData × PyData) → Bool
  | [], [] => true
  | (x, u) :: xs, (y, v) :: ys => beqD x y && beqD u v && beqK xs ys
  | _, _ => false
end
mutual
theorem beqD_refl : ∀ d : PyData, beqD d d = true
  | .none => rfl
  | .bool a => by simp [beqD]
  | .int a => by simp [beqD]
  | .str a => by simp [beqD]
  | .list a => by simp [beqD, beqL_refl a]
  | .tuple a => by simp [beqD, beqL_refl a]
  | .dict a => by simp [beqD, beqK_refl a]
theorem beqL_refl : ∀ d : List PyData, beqL d d = true
  | [] => rfl
  | x :: xs => by simp [beqL, beqD_refl x, beqL_refl xs]
theorem beqK_refl : ∀ d : List (PyData × PyData), beqK d d = true
  | [] => rfl
  | (x, u) :: xs => by simp [beqK, beqD_refl x, beqD_refl u, beqK_refl xs]
end
mutual
theorem beqD_eq : ∀ (a b : PyData), beqD a b = true → a = b
  | .none, b, h => by cases b <;> simp [beqD] at h; rfl
  | .bool a, b, h => by cases b <;> simp [beqD] at h; rw [h]
  | .int a, b, h => by cases b <;> simp [beqD] at h; rw [h]
  | .str a, b, h => by cases b <;> simp [beqD] at h; rw [h]
  | .list a, b, h => by cases b <;> simp [beqD] at h; rw [beqL_eq _ _ h]
  | .tuple a, b, h => by cases b <;> simp [beqD] at h; rw [beqL_eq _ _ h]
  | .dict a, b, h => by cases b <;> simp [beqD] at h; rw [beqK_eq _ _ h]
theorem beqL_eq : ∀ (a b : List PyData), beqL a b = true → a = b
  | [], b, h => by cases b <;> simp [beqL] at h; rfl
  | x :: xs, b, h => by
    cases b with
    | nil => simp [beqL] at h
    | cons y ys => simp [beqL] at h; rw [beqD_eq _ _ h.1, beqL_eq _ _ h.2]
theorem beqK_eq : ∀ (a b : List (PyData × PyData)), beqK a b = true → a = b
  | [], b, h => by cases b <;> simp [beqK] at h; rfl
  | (x, u) :: xs, b, h => by
    cases b with
    | nil => simp [beqK] at h
    | cons y ys => obtain ⟨y, v⟩ := y; simp [beqK] at h; rw [beqD_eq _ _ h.1.1, beqD_eq _ _ h.1.2, beqK_eq _ _ h.2]
end

/-! ### what is walked -/
abbrev Items := List PyData × (Mem → Bool)
def SrcD (K : PySem.W.Frag) (G1 : Hp) (i1 : List Addr) (J : It) (a : Items) : Prop :=
  ∀ (G H : Hp) (i : List Addr) (M : Mem), Sub G1 G → i1 <+: i → MemR K G H i M → a.2 M = true →
    (∀ k, k < a.1.length → J.go k H) ∧ J.stop a.1.length H ∧ ∀ k v H', k < a.1.length → J.yld k H v H' → ∃ G' d, Sub G G' ∧ MemR K G' H' i M ∧ a.1[k]? = some d ∧ Rp K G' v d
abbrev tDI (K : PySem.W.Frag) (W : WX) (f : En → Mem → Ans Items) : TI := tG K W (fun G _ i J a => SrcD K G i J a) f
theorem PI.weak {X : Cx} {tg e : Expr} {t t' : TI} (h : PI X tg e t) (w : ∀ s H Q, t' s H Q → t s H Q) : PI X tg e t' := ⟨fun pins s σ H Q I q => h.run pins s σ H Q I (w _ _ _ q)⟩
theorem PI.or {X : Cx} {tg e : Expr} {t t' : TI} (h : PI X tg e t) (h' : PI X tg e t') : PI X tg e (fun s H Q => t s H Q ∨ t' s H Q) := ⟨fun pins s σ H Q I q => q.elim (h.run pins s σ H Q I) (h'.run pins s σ H Q I)⟩
/-- a list or tuple is walked -/
@[simp] def itR (x : Wv) (M : Mem) : Ans Items := match x with
  | .d (.list ds) => .val (ds, fun _ => true) M
  | .d (.tuple ds) => .val (ds, fun _ => true) M
  | .k ds => .val (ds, fun _ => true) M
  | .r l => (match M[l]? with
    | some (.list ds) => .val (ds, fun M' => match M'[l]? with
      | some c => beqD c (.list ds)
      | none => false) M
    | _ => .bad)
  | _ => .bad
@[simp] def iSeq (f : Den) : En → Mem → Ans Items := fun e M => (f e M).bind fun x M1 => itR x.fz M1
theorem src_tup {K : PySem.W.Frag} {G : Hp} {i : List Addr} {a : Addr} {xs : List V} {ds : List PyData} {chk : Mem → Bool} (h : TupAt K G a xs) (t : RpAll K G xs ds) : SrcD K G i (Itt K a) (ds, chk) := by
  intro G' H' i' M s p m _
  have hq : SqT K H' a xs := (s.trans m.sub).t h
  have hl := t.length
  refine ⟨fun k hk => ⟨xs, xs[k]'(by simp at hk; omega), hq, by simp at hk; simp [show k < xs.length by omega]⟩, ⟨xs, hq, by simp; omega⟩, fun k v H2 hk y => ?_⟩
  obtain ⟨rfl, y⟩ := y
  obtain ⟨d, h1, h2⟩ := t.getV (y xs hq)
  exact ⟨G', d, Sub.refl _, m, h1, h2.mono s⟩
theorem src_lst {K : PySem.W.Frag} {G : Hp} {i : List Addr} {a : Addr} {ds : List PyData} {chk : Mem → Bool} (h : ∀ (G' H' : Hp) (i' : List Addr) (M : Mem), Sub G G' → i <+: i' → MemR K G' H' i' M → chk M = true → ∃ xs, SqL K H' a xs ∧ RpAll K G' xs ds) : SrcD K G i (Itl K a) (ds, chk) := by
  intro G' H' i' M s p m c
  obtain ⟨xs, hq, t⟩ := h G' H' i' M s p m c
  have hl := t.length
  refine ⟨fun k hk => ⟨xs, xs[k]'(by simp at hk; omega), hq, by simp at hk; simp [show k < xs.length by omega]⟩, ⟨xs, hq, by simp; omega⟩, fun k v H2 hk y => ?_⟩
  obtain ⟨rfl, y⟩ := y
  obtain ⟨d, h1, h2⟩ := t.getV (y xs hq)
  exact ⟨G', d, Sub.refl _, m, h1, h2⟩
section
variable {X : Cx} {W : WX} {f g h : Den} {a b c : Expr} {pos : Pos} {tg : Expr}
theorem i_seq {e : Expr} (he : PE X e (tD X.K W f)) : PI X tg e (tDI X.K W (iSeq f)) := PI.weak (PI.or (pi_list he) (pi_tup he)) fun s H R q => by
  obtain ⟨G, i, e, M, he, hm, q⟩ := q
  -- which kind it is, is told by the denotation
  have bad : ∀ {x : Ans Rv}, (x = .bad ∨ ∃ y M', x = .exc y M') → f e M = x → (iList X.K (tD X.K W f) s H R ∨ iTup X.K (tD X.K W f) s H R) := by
    intro x hx ex
    left
    refine ⟨G, i, e, M, he, hm, ?_⟩
    rcases hx with rfl | ⟨y, M', rfl⟩
    · simp only [iSeq, ex, Ans.bind] at q
      exact q.elim
    · simp only [iSeq, ex, Ans.bind] at q
      rw [ex]
      exact q
  cases ex : f e M with
  | bad => exact bad (.inl rfl) ex
  | exc y M' => exact bad (.inr ⟨y, M', rfl⟩) ex
  | val x M1 =>
    simp only [iSeq, ex, Ans.bind] at q
    have list : ∀ (P : V → Prop), (∀ v G1 H1, Sub G G1 → MemR X.K G1 H1 i M1 → RpW X.K G1 i v x.fz → ∃ a, v = .ref a ∧ (∃ xs, SqL X.K H1 a xs) ∧ R (Itl X.K a) H1) → iList X.K (tD X.K W f) s H R := by
      intro _ k
      refine ⟨G, i, e, M, he, hm, ?_⟩
      rw [ex]
      intro v G1 H1 s1 m1 r1
      obtain ⟨G2, s2, m2, r2⟩ := r1.fz m1
      exact k v G2 H1 (s1.trans s2) m2 r2
    have tup : (∀ v G1 H1, Sub G G1 → MemR X.K G1 H1 i M1 → RpW X.K G1 i v x.fz → ∃ a, v = .ref a ∧ (∃ xs, SqT X.K H1 a xs) ∧ R (Itt X.K a) H1) → iTup X.K (tD X.K W f) s H R := by
      intro k
      refine ⟨G, i, e, M, he, hm, ?_⟩
      rw [ex]
      intro v G1 H1 s1 m1 r1
      obtain ⟨G2, s2, m2, r2⟩ := r1.fz m1
      exact k v G2 H1 (s1.trans s2) m2 r2
    cases hx : x.fz with
    | d y =>
      rw [hx] at q list tup
      cases y with
      | list ds =>
        refine .inl (list (fun _ => True) fun v G1 H1 s1 m1 r1 => ?_)
        have r1 : Rp X.K G1 v (.list ds) := r1
        cases r1 with
        | lst h1 t => exact ⟨_, rfl, ⟨_, .of (m1.sub _ _ h1)⟩, q _ G1 H1 s1 m1 (src_lst fun G2 H2 i2 M2 a b c _ => ⟨_, .of (c.sub _ _ (a _ _ h1)), t.mono a⟩)⟩
      | tuple ds =>
        refine .inr (tup fun v G1 H1 s1 m1 r1 => ?_)
        have r1 : Rp X.K G1 v (.tuple ds) := r1
        cases r1 with
        | tup h1 t => exact ⟨_, rfl, ⟨_, m1.sub.t h1⟩, q _ G1 H1 s1 m1 (src_tup h1 t)⟩
      | _ => exact q.elim
    | k ds =>
      rw [hx] at q list
      refine .inl (list (fun _ => True) fun v G1 H1 s1 m1 r1 => ?_)
      obtain ⟨a, vs, rfl, h1, t⟩ := r1
      exact ⟨_, rfl, ⟨_, m1.sub.l h1⟩, q _ G1 H1 s1 m1 (src_lst fun G2 H2 i2 M2 a b c _ => ⟨_, c.sub.l (a.l h1), t.mono a⟩)⟩
    | r l =>
      rw [hx] at q list
      simp only [itR] at q
      cases hl : M1[l]? with
      | none => rw [hl] at q; exact q.elim
      | some c =>
        rw [hl] at q
        cases c with
        | list ds =>
          refine .inl (list (fun _ => True) fun v G1 H1 s1 m1 r1 => ?_)
          obtain ⟨a, h1, rfl⟩ := r1
          obtain ⟨o, h2, h3⟩ := m1.at_ l a _ h1 hl
          cases h3 with
          | lst h3 =>
            refine ⟨a, rfl, ⟨_, .of h2⟩, q _ G1 H1 s1 m1 (src_lst fun G2 H2 i2 M2 a2 b c2 hc => ?_)⟩
            cases hl2 : M2[l]? with
            | none => rw [hl2] at hc; cases hc
            | some c3 =>
              rw [hl2] at hc
              have := beqD_eq _ _ hc
              subst this
              obtain ⟨o, h4, h5⟩ := c2.at_ l a _ (get_pre b h1) hl2
              cases h5 with
              | lst h5 => exact ⟨_, .of h4, h5⟩
        | _ => exact q.elim
    | f a => rw [hx] at q; exact q.elim
end
end Lf

set_option Elab.async false
set_option linter.all false
set_option maxRecDepth 100000
set_option maxHeartbeats 4000000
/-! Lay10: targets, statements, loops. -/
namespace Lf
open PySem PySem.Spec PyProof.Rows L2

/-! ### targets -/
/-- the target g stores d by tg, at places among js -/
def TgOk (K : PySem.W.Frag) (g : TG) (tg : PyData → En → Option En) (js : List Nat) : Prop :=
  ∀ (G H : Hp) (i : List Addr) (M : Mem) (v : V) (d : PyData) (e e1 : En) (s : L2.St) (Q : L2.St → Hp → Prop), MemR K G H i M → EnvR K G i e s → Rp K G v d → tg d e = some e1 →
    (∀ s1, EnvR K G i e1 s1 → (∀ vs : List Nat, (∀ j ∈ js, j ∈ vs) → wipe s1 vs = wipe s vs) → Q s1 H) → g v s H Q
@[simp] def tgN (j : Nat) : PyData → En → Option En := fun d e => some (e.set j (some (.d d)))
theorem wipe_set {s : L2.St} {v : Option V} {j : Nat} : ∀ {vs : List Nat}, j ∈ vs → wipe (s.set j v) vs = wipe s vs
  | k :: vs, h => by
    show (wipe (s.set j v) vs).set k none = (wipe s vs).set k none
    by_cases hk : j = k
    · subst hk
      by_cases hj : j ∈ vs
      · rw [wipe_set hj]
      · have : ∀ (vs : List Nat), (wipe (s.set j v) vs).set j none = (wipe s vs).set j none := by
          intro vs
          induction vs with
          | nil => show (s.set j v).set j none = s.set j none; rw [List.set_set]
          | cons a t ih =>
            show ((wipe (s.set j v) t).set a none).set j none = ((wipe s t).set a none).set j none
            by_cases ha : a = j
            · subst ha; rw [List.set_set, List.set_set, ih]
            · rw [List.set_comm _ _ ha, ih, List.set_comm _ _ (Ne.symm ha)]
        exact this vs
    · rw [wipe_set (List.mem_of_ne_of_mem hk h)]
theorem tg_name {K : PySem.W.Frag} {j : Nat} : TgOk K (gName j) (tgN j) [j] := by
  intro G H i M v d e e1 s Q m he r h q
  cases h
  exact q _ (he.set j (w := .d d) r) fun vs hv => wipe_set (hv j (by simp))
/-- several names -/
@[simp] def tgS : List Nat → List PyData → En → Option En
  | [], [], e => some e
  | j :: js, d :: ds, e => tgS js ds (e.set j (some (.d d)))
  | _, _, _ => none
def gS : List Nat → TGs
  | [] => gNil
  | j :: js => gCons (gName j) (gS js)
theorem tgS_ok {K : PySem.W.Frag} : ∀ (js : List Nat) (G H : Hp) (i : List Addr) (xs : List V) (ds : List PyData) (e e1 : En) (s : L2.St) (Q : L2.St → Hp → Prop), EnvR K G i e s → RpAll K G xs ds → tgS js ds e = some e1 →
    (∀ s1, EnvR K G i e1 s1 → (∀ vs : List Nat, (∀ j ∈ js, j ∈ vs) → wipe s1 vs = wipe s vs) → Q s1 H) → gS js xs s H Q
  | [], G, H, i, xs, ds, e, e1, s, Q, he, r, h, q => by
    cases ds with
    | nil =>
      cases r
      cases h
      exact ⟨rfl, q s he fun _ _ => rfl⟩
    | cons d ds => cases h
  | j :: js, G, H, i, xs, ds, e, e1, s, Q, he, r, h, q => by
    cases ds with
    | nil => cases h
    | cons d ds =>
      cases r with
      | @cons v vs _ _ r t =>
        refine ⟨v, vs, rfl, ?_⟩
        show gS js vs (s.set j (some v)) H Q
        refine tgS_ok js G H i vs ds _ e1 _ Q (he.set j (w := .d d) r) t h fun s1 h1 h2 => q s1 h1 fun ws hw => ?_
        rw [h2 ws fun k hk => hw k (List.mem_cons_of_mem _ hk), wipe_set (hw j List.mem_cons_self)]
@[simp] def tgT (js : List Nat) : PyData → En → Option En
  | .tuple ds, e => tgS js ds e
  | _, _ => none
theorem tgS_len : ∀ {js : List Nat} {ds : List PyData} {e e1 : En}, tgS js ds e = some e1 → ds.length = js.length
  | [], [], _, _, _ => rfl
  | _ :: js, _ :: ds, e, _, h => congrArg Nat.succ (tgS_len (js := js) (ds := ds) h)
  | [], _ :: _, _, _, h => by cases h
  | _ :: _, [], _, _, h => by cases h
theorem tg_tup {K : PySem.W.Frag} {js : List Nat} {n : Nat} (hn : js.length = n) : TgOk K (gTup K n (gS js)) (tgT js) js := by
  intro G H i M v d e e1 s Q m he r h q
  cases d with
  | tuple ds =>
    have h : tgS js ds e = some e1 := h
    cases r with
    | @tup a xs _ h1 t => exact ⟨a, xs, rfl, m.sub.t h1, by rw [t.length, tgS_len h, hn], tgS_ok js G H i xs ds e e1 s Q he t h q⟩
  | _ => cases h

/-! ### statements -/
@[simp] def sNext : DenS := fun e M => .next e M
@[simp] def SAns.then (a : SAns) (g : DenS) : SAns := match a with
  | .next e M => g e M
  | x => x
@[simp] def sSeq (f g : DenS) : DenS := fun e M => (f e M).then g
/-- an answer that goes on -/
@[simp] def Ans.go {A : Type} (a : Ans A) (e : En) (k : A → Mem → SAns) : SAns := match a with
  | .val x M => k x M
  | .exc x M => .exc x e M
  | .bad => .bad
@[simp] def sIf (t : DenT) (f g : DenS) : DenS := fun e M => (t e M).go e fun b M1 => if b = true then f e M1 else g e M1
@[simp] def sRet (f : Den) : DenS := fun e M => (f e M).go e fun r M1 => .ret r M1
@[simp] def sRetN : DenS := fun _ M => .ret (.w (.d .none)) M
@[simp] def sDrop (f : Den) : DenS := fun e M => (f e M).go e fun _ M1 => .next e M1
@[simp] def asgR (j : Nat) (al : Bool) (e : En) (r : Rv) (M : Mem) : SAns := match r, al with
  | .w x, _ => .next (e.set j (some x)) M
  | .own c, true => .next (e.set j (some (.r M.length))) (M ++ [c])
  | .own c, false => .next (e.set j (some (.d c))) M
@[simp] def sAsg (j : Nat) (al : Bool) (f : Den) : DenS := fun e M => (f e M).go e (asgR j al e)
@[simp] def sAsgT (tg : PyData → En → Option En) (f : Den) : DenS := fun e M => (f e M).go e fun r M1 => match r.fz with
  | .d x => (match tg x e with
    | some e1 => .next e1 M1
    | none => .bad)
  | _ => .bad
section
variable {K : PySem.W.Frag} {W : WX} {G G' H H' : Hp} {i i' : List Addr} {M M' : Mem} {e : En} {s : L2.St} {D : Ends}
/-- an expression's answer is used by a statement -/
theorem tG.goS {A B : Type} {Rel : Hp → Hp → List Addr → B → A → Prop} {f : En → Mem → Ans A} {k : A → Mem → SAns} {P : B → Hp → Prop}
    (he : EnvR K G i e s) (hm : MemR K G H i M) (h : AskS K W G i D ((f e M).go e k))
    (c : ∀ v r M1 G1 H1, Sub G G1 → MemR K G1 H1 i M1 → Rel G1 H1 i v r → AskS K W G1 i D (k r M1) → P v H1) : tG K W Rel f s H P := by
  refine ⟨G, i, e, M, he, hm, ?_⟩
  cases q : f e M with
  | bad => rw [q] at h; exact h
  | exc x M' => rw [q] at h; exact fun cls d G' H' h1 h2 h3 => h cls d s G' i H' h1 (List.prefix_refl i) (he.mono h1 (List.prefix_refl i)) h2 h3
  | val r M1 =>
    rw [q] at h
    exact fun v G' H' h1 h2 h3 => c v r M1 G' H' h1 h2 h3 (AskS.mono h1 (List.prefix_refl i) h)
theorem AskS.then {a : SAns} {g : DenS} (h : AskS K W G i D (a.then g)) : AskS K W G i { D with nx := tDS K W g D } a := by
  cases a with
  | next e M => exact fun s' G' i' H' h1 h2 h3 h4 => ⟨G', i', e, M, h3, h4, AskS.mono h1 h2 h⟩
  | ret r M => exact h
  | brk e M => exact h
  | cont e M => exact h
  | exc x e M => exact h
  | bad => exact h
end
section
variable {X : Cx} {W : WX} {f g : Den} {fs gs : DenS} {tf : DenT} {st : Stmt} {rest : List Stmt} {e : Expr} {pos : Pos}
theorem s_nil : PSs X [] (tDS X.K W sNext) := PSs.weak pss_nil fun D s H q => by
  obtain ⟨G, i, e, M, he, hm, q⟩ := q
  exact q s G i H (Sub.refl _) (List.prefix_refl _) he hm
theorem s_cons (h1 : PS X st (tDS X.K W fs)) (h2 : PSs X rest (tDS X.K W gs)) : PSs X (st :: rest) (tDS X.K W (sSeq fs gs)) := PSs.weak (pss_cons h1 h2) fun D s H q => by
  obtain ⟨G, i, e, M, he, hm, q⟩ := q
  exact ⟨G, i, e, M, he, hm, AskS.then q⟩
theorem s_one (h1 : PS X st (tDS X.K W fs)) : PSs X [st] (tDS X.K W fs) := pss_one h1
theorem s_if {c : Expr} {a b : List Stmt} (hc : PT X c (tDT X.K W tf)) (ha : PSs X a (tDS X.K W fs)) (hb : PSs X b (tDS X.K W gs)) : PS X (.If c a b pos) (tDS X.K W (sIf tf fs gs)) := PS.weak (ps_if hc ha hb) fun D s H q => by
  obtain ⟨G, i, e, M, he, hm, q⟩ := q
  refine tG.goS he hm q fun v r M1 G1 H1 s1 m1 r1 q => ?_
  subst r1
  cases v with
  | true => exact ⟨G1, i, e, M1, he.mono s1 (List.prefix_refl i), m1, q⟩
  | false => exact ⟨G1, i, e, M1, he.mono s1 (List.prefix_refl i), m1, q⟩
theorem s_ret (he : PE X e (tD X.K W f)) : PS X (.Return (some e) pos) (tDS X.K W (sRet f)) := PS.weak (ps_ret he) fun D s H q => by
  obtain ⟨G, i, e, M, he, hm, q⟩ := q
  refine tG.goS he hm q fun v r M1 G1 H1 s1 m1 r1 q => ?_
  exact q v G1 i H1 (Sub.refl _) (List.prefix_refl _) m1 r1
theorem s_drop (he : PE X e (tD X.K W f)) (hs : swapsWith e none pos.line X.env = pure false := by rfl) : PS X (.Expr e pos) (tDS X.K W (sDrop f)) := PS.weak (ps_expr he hs) fun D s H q => by
  obtain ⟨G, i, e, M, he, hm, q⟩ := q
  refine tG.goS he hm q fun v r M1 G1 H1 s1 m1 r1 q => ?_
  exact q s G1 i H1 (Sub.refl _) (List.prefix_refl _) (he.mono s1 (List.prefix_refl _)) m1
theorem s_pass : PS X (.Pass pos) (tDS X.K W sNext) := PS.weak ps_pass fun D s H q => by
  obtain ⟨G, i, e, M, he, hm, q⟩ := q
  exact q s G i H (Sub.refl _) (List.prefix_refl _) he hm
@[simp] def sBad : DenS := fun _ _ => .bad
theorem s_never : PS X st (tDS X.K W sBad) := PS.weak ps_never fun D s H q => by
  obtain ⟨G, i, e, M, he, hm, q⟩ := q
  exact q
theorem asg_use {j : Nat} {al : Bool} (D : Ends) (s : L2.St) (H : Hp) (q : tDS X.K W (sAsg j al f) D s H) : tAsg (tD X.K W f) (gName j) D s H := by
  obtain ⟨G, i, e, M, he, hm, q⟩ := q
  refine tG.goS he hm q fun v r M1 G1 H1 s1 m1 r1 q => ?_
  show D.nx (s.set j (some v)) H1
  have he1 := he.mono s1 (List.prefix_refl i)
  cases r with
  | w x => exact q _ G1 i H1 (Sub.refl _) (List.prefix_refl _) (he1.set j r1) m1
  | own c =>
    cases al with
    | false =>
      obtain ⟨G2, s2, m2, r2⟩ := r1.fz m1
      exact q _ G2 i H1 s2 (List.prefix_refl _) ((he1.mono s2 (List.prefix_refl _)).set j r2) m2
    | true =>
      obtain ⟨a, o, rfl, h1, h2, h3, h4⟩ := r1
      have hp : i <+: i ++ [a] := List.prefix_append i [a]
      refine q _ G1 (i ++ [a]) H1 (Sub.refl _) hp ((he1.mono (Sub.refl _) hp).set j ⟨a, ?_, rfl⟩) (m1.push h1 h2 h3 h4)
      rw [← m1.len, List.getElem?_append_right (Nat.le_refl _)]
      simp
theorem s_asg {j : Nat} {al : Bool} {x : Str} {pos' : Pos} (hN : X.N.Nodup) (hi : X.N[j]? = some x) (hx : Loc X.env.scope x) (he : PE X e (tD X.K W f)) (hs : swapsWith e (some (.Name x pos')) pos.line X.env = pure false := by rfl) (hf : X.fn x = true ∨ X.env.scope.names.lookup x = some .local := by first | exact .inl rfl | exact .inr rfl | assumption) :
    PS X (.Assign [.Name x pos'] e pos) (tDS X.K W (sAsg j al f)) := PS.weak (ps_set hN hi hx he hs hf) asg_use
theorem s_asgT {tg : Expr} {g : TG} {tgd : PyData → En → Option En} {js : List Nat} (ht : TgOk X.K g tgd js) (he : PE X e (tD X.K W f)) (hg : PG X tg g) (hs : swapsWithSole [tg] e pos.line X.env = pure false := by rfl) (hw : swappedStores [tg] e X.env = pure none := by rfl)
    (h1 : (assignEach [tg] X.env).map (·.2) = [assign tg X.env] := by rfl) : PS X (.Assign [tg] e pos) (tDS X.K W (sAsgT tgd f)) := PS.weak (ps_asg he hg hs hw h1) fun D s H q => by
  obtain ⟨G, i, e, M, he, hm, q⟩ := q
  refine tG.goS he hm q fun v r M1 G1 H1 s1 m1 r1 q => ?_
  obtain ⟨G2, s2, m2, r2⟩ := r1.fz m1
  cases hx : r.fz with
  | d x =>
    rw [hx] at q r2
    simp only at q
    cases ht2 : tgd x e with
    | none => rw [ht2] at q; exact q.elim
    | some e1 =>
      rw [ht2] at q
      exact ht G2 H1 i M1 v x e e1 s D.nx m2 (he.mono (s1.trans s2) (List.prefix_refl _)) r2 ht2 fun st h1 _ => q st G2 i H1 s2 (List.prefix_refl _) h1 m2
  | _ => rw [hx] at q; exact q.elim

/-! ### for -/
def forD (chk : Mem → Bool) (tg : PyData → En → Option En) (body : DenS) : List PyData → DenS
  | [], e, M => if chk M = true then .next e M else .bad
  | x :: xs, e, M => if chk M = true then (match tg x e with
    | none => .bad
    | some e1 => (match body e1 M with
      | .next e2 M2 => forD chk tg body xs e2 M2
      | .cont e2 M2 => forD chk tg body xs e2 M2
      | .brk e2 M2 => .next e2 M2
      | r => r)) else .bad
def sFor (it : En → Mem → Ans Items) (tg : PyData → En → Option En) (body : DenS) : DenS := fun e M => (it e M).go e fun a M1 => forD a.2 tg body a.1 e M1
theorem s_for {iter tg : Expr} {body : List Stmt} {fi : En → Mem → Ans Items} {g : TG} {tgd : PyData → En → Option En} {js : List Nat} (hp : PassesOwn (model X.prog X.w) X.A X.env X.xe) (hc : X.calm = true) (ht : TgOk X.K g tgd js) (hi : PI X tg iter (tDI X.K W fi)) (hg : PG X tg g) (hb : PSs X body (tDS X.K W fs))
    (hs : ∀ x, foldedSetIterable iter X.env x = pure x := by intro _; rfl) : PS X (.For tg iter body [] pos) (tDS X.K W (sFor fi tgd fs)) := PS.weak (ps_for hp hc hi hg hb hs) fun D s H q => by
  obtain ⟨G, i, e, M, he, hm, q⟩ := q
  refine tG.goS he hm q fun J a M1 G1 H1 s1 m1 src q => ?_
  obtain ⟨items, chk⟩ := a
  refine ⟨fun k m st Hk => m = items.length - k ∧ k ≤ items.length ∧ ∃ G2 i2 e2 M2, Sub G1 G2 ∧ i <+: i2 ∧ EnvR X.K G2 i2 e2 st ∧ MemR X.K G2 Hk i2 M2 ∧ AskS X.K W G2 i2 D (forD chk tgd fs (items.drop k) e2 M2),
    ⟨_, rfl, Nat.zero_le _, G1, i, e, M1, Sub.refl _, List.prefix_refl _, he.mono s1 (List.prefix_refl _), m1, q⟩, ?_⟩
  rintro k m st Hk ⟨rfl, hk, G2, i2, e2, M2, s2, p2, he2, m2, q⟩
  by_cases hlt : k < items.length
  · rw [List.drop_eq_getElem_cons hlt] at q
    unfold forD at q
    split at q
    · rename_i hchk
      obtain ⟨h1, h2, h3⟩ := src G2 Hk i2 M2 s2 p2 m2 hchk
      refine .inr ⟨h1 k hlt, fun st' H' => k + 1 ≤ items.length ∧ ∃ G3 i3 e3 M3, Sub G1 G3 ∧ i <+: i3 ∧ EnvR X.K G3 i3 e3 st' ∧ MemR X.K G3 H' i3 M3 ∧ AskS X.K W G3 i3 D (forD chk tgd fs (items.drop (k + 1)) e3 M3), fun st' H' ⟨z, w⟩ => ⟨_, by omega, rfl, z, w⟩, fun x H' y => ?_⟩
      obtain ⟨G3, d, s3, m3, hd, r3⟩ := h3 k x H' hlt y
      have hd2 : items[k] = d := by
        rw [List.getElem?_eq_getElem hlt] at hd
        exact Option.some.inj hd
      rw [hd2] at q
      cases htg : tgd d e2 with
      | none => rw [htg] at q; exact q.elim
      | some e3 =>
        rw [htg] at q
        refine ht G3 H' i2 M2 x d e2 e3 st _ m3 (he2.mono s3 (List.prefix_refl _)) r3 htg fun st1 h4 _ => ⟨G3, i2, e3, M2, h4, m3, ?_⟩
        have q := AskS.mono s3 (List.prefix_refl i2) q
        cases hb2 : fs e3 M2 with
        | next e4 M4 =>
          simp only [hb2] at q
          exact fun s' G' i' H'' a b c dd => ⟨hlt, G', i', e4, M4, (s2.trans s3).trans a, p2.trans b, c, dd, AskS.mono a b q⟩
        | cont e4 M4 =>
          simp only [hb2] at q
          exact fun s' G' i' H'' a b c dd => ⟨hlt, G', i', e4, M4, (s2.trans s3).trans a, p2.trans b, c, dd, AskS.mono a b q⟩
        | brk e4 M4 => simp only [hb2] at q; exact q
        | ret r M4 => simp only [hb2] at q; exact q
        | exc x e4 M4 => simp only [hb2] at q; exact q
        | bad => simp only [hb2] at q; exact q
    · exact q.elim
  · have ek : k = items.length := by omega
    subst ek
    rw [List.drop_length] at q
    unfold forD at q
    split at q
    · rename_i hchk
      obtain ⟨h1, h2, h3⟩ := src G2 Hk i2 M2 s2 p2 m2 hchk
      exact .inl ⟨h2, q st G2 i2 Hk (Sub.refl _) (List.prefix_refl _) he2 m2⟩
    · exact q.elim
end
end Lf

set_option Elab.async false
set_option linter.all false
set_option maxRecDepth 100000
set_option maxHeartbeats 4000000
/-! Lay11: comprehensions, what is walked. -/
namespace Lf
open PySem PySem.Spec PyProof.Rows L2
abbrev W0 : WX := fun _ _ _ _ => False
@[simp] def wipeE (e : En) : List Nat → En
  | [] => e
  | v :: vs => (wipeE e vs).set v none
theorem EnvR.none {K : PySem.W.Frag} {G : Hp} {i : List Addr} {e : En} {s : L2.St} (h : EnvR K G i e s) (j : Nat) : EnvR K G i (e.set j none) (s.set j none) := by
  refine ⟨by rw [List.length_set, List.length_set]; exact h.1, fun m w' q => ?_⟩
  by_cases hm : j = m
  · subst hm
    have hl : j < e.length := by
      have := (List.getElem?_eq_some_iff.mp q).1
      rwa [List.length_set] at this
    rw [List.getElem?_set_self hl] at q
    cases q
  · rw [List.getElem?_set_ne hm] at q
    rw [List.getElem?_set_ne hm]
    exact h.2 m w' q
theorem EnvR.wipe {K : PySem.W.Frag} {G : Hp} {i : List Addr} {e : En} {s : L2.St} (h : EnvR K G i e s) : ∀ vs : List Nat, EnvR K G i (wipeE e vs) (wipe s vs)
  | [] => h
  | v :: vs => EnvR.none (EnvR.wipe h vs) v
def lcD (l : Nat) (chk : Mem → Bool) (tg : PyData → En → Option En) (tt : DenT) (elt : Den) (e : En) : List PyData → Mem → Ans Rv
  | [], M => if chk M = true then (match M[l]? with
    | some (.list acc) => if acc.length ≤ sizeLine then .val (.own (.list acc)) (M.take l) else .bad
    | _ => .bad) else .bad
  | x :: xs, M => if chk M = true then (match tg x e with
    | none => .bad
    | some e1 => (match tt e1 M with
      | .val true M1 => (match elt e1 M1 with
        | .val r M2 => (match r.fz, M2[l]? with
          | .d d, some (.list acc) => if acc.length < sizeLine then lcD l chk tg tt elt e xs (M2.set l (.list (acc ++ [d]))) else .bad
          | _, _ => .bad)
        | _ => .bad)
      | .val false M1 => lcD l chk tg tt elt e xs M1
      | _ => .bad)) else .bad
def dLc (it : En → Mem → Ans Items) (vs : List Nat) (tg : PyData → En → Option En) (tt : DenT) (elt : Den) : Den := fun e M => (it e M).bind fun a M1 => lcD M1.length a.2 tg tt elt (wipeE e vs) a.1 (M1 ++ [.list []])
@[simp] def tTrue : DenT := fun _ M => .val true M
theorem lc_use {K : PySem.W.Frag} {W : WX} {fi : En → Mem → Ans Items} {g : TG} {tgd : PyData → En → Option En} {js vs : List Nat} {tt : TT} {te : TE} {tf : DenT} {f : Den} (ht : TgOk K g tgd js) (hj : ∀ j ∈ js, j ∈ vs)
    (htt : ∀ s H Q, tDT K W0 tf s H Q → tt s H Q) (hte : ∀ s H Q, tD K W0 f s H Q → te s H Q) (s : L2.St) (H : Hp) (Q : VK) (q : tD K W (dLc fi vs tgd tf f) s H Q) : tLc (tDI K W fi) g tt te vs s H Q := by
  obtain ⟨G, i, e, M, he, hm, q⟩ := q
  refine tG.go he hm q fun J a M1 G1 H1 s1 m1 src q => ?_
  obtain ⟨items, chk⟩ := a
  intro D hD
  have hDi : D ∉ i := m1.notin hD
  have hp : i <+: i ++ [D] := List.prefix_append i [D]
  have m2 : MemR K G1 (upd H1 D (.lst [])) (i ++ [D]) (M1 ++ [.list []]) := (m1.grow hD).push (m1.gfree hD) hDi upd_same (.lst .nil)
  have hl : M1.length = i.length := m1.len.symm
  have atD : (i ++ [D])[M1.length]? = some D := by rw [hl, List.getElem?_append_right (Nat.le_refl _)]; simp
  refine ⟨fun k m Hk => m = items.length - k ∧ k ≤ items.length ∧ ∃ G2 M2, Sub G1 G2 ∧ MemR K G2 Hk (i ++ [D]) M2 ∧ Ask K W (ResR K) G2 i s Q (lcD M1.length chk tgd tf f (wipeE e vs) (items.drop k) M2),
    ⟨_, rfl, Nat.zero_le _, G1, _, Sub.refl _, m2, q⟩, ?_⟩
  rintro k m Hk ⟨rfl, hk, G2, M2, s2, m2, q⟩
  by_cases hlt : k < items.length
  · rw [List.drop_eq_getElem_cons hlt] at q
    unfold lcD at q
    split at q
    · rename_i hchk
      obtain ⟨h1, h2, h3⟩ := src G2 Hk (i ++ [D]) M2 s2 hp m2 hchk
      refine .inr ⟨h1 k hlt, fun H' => k + 1 ≤ items.length ∧ ∃ G3 M3, Sub G1 G3 ∧ MemR K G3 H' (i ++ [D]) M3 ∧ Ask K W (ResR K) G3 i s Q (lcD M1.length chk tgd tf f (wipeE e vs) (items.drop (k + 1)) M3), fun H' ⟨z, w⟩ => ⟨_, by omega, rfl, z, w⟩, fun x H' y => ?_⟩
      obtain ⟨G3, d, s3, m3, hd, r3⟩ := h3 k x H' hlt y
      have hd2 : items[k] = d := by
        rw [List.getElem?_eq_getElem hlt] at hd
        exact Option.some.inj hd
      rw [hd2] at q
      cases htg : tgd d (wipeE e vs) with
      | none => rw [htg] at q; exact q.elim
      | some e3 =>
        rw [htg] at q
        have hew : EnvR K G3 (i ++ [D]) (wipeE e vs) (wipe s vs) := (he.mono ((s1.trans s2).trans s3) hp).wipe vs
        refine ht G3 H' (i ++ [D]) M2 x d _ e3 (wipe s vs) _ m3 hew r3 htg fun st1 h4 hw => ⟨?_, ?_⟩
        · rw [hw vs hj]
          have : ∀ (us : List Nat) (s : L2.St), (∀ j ∈ us, j ∈ vs) → L2.wipe (L2.wipe s us) vs = L2.wipe s vs := by
            intro us
            induction us with
            | nil => intro s _; rfl
            | cons u us ih =>
              intro s hu
              show L2.wipe ((L2.wipe s us).set u Option.none) vs = _
              rw [wipe_set (hu u List.mem_cons_self), ih s fun j hj => hu j (List.mem_cons_of_mem _ hj)]
          exact this vs s fun _ h => h
        · refine htt _ _ _ ⟨G3, i ++ [D], e3, M2, h4, m3, ?_⟩
          have q := Ask.mono s3 q
          cases htf : tf e3 M2 with
          | bad => simp only [htf] at q; exact q.elim
          | exc _ _ => simp only [htf] at q; exact q.elim
          | val b M3 =>
            intro b' G4 H4 s4 m4 eb
            subst eb
            have q := Ask.mono s4 q
            cases b' with
            | false =>
              simp only [htf] at q
              exact ⟨hlt, G4, M3, (s2.trans s3).trans s4, m4, q⟩
            | true =>
              simp only [htf] at q
              show te st1 H4 _
              refine hte _ _ _ ⟨G4, i ++ [D], e3, M3, h4.mono s4 (List.prefix_refl _), m4, ?_⟩
              cases hf : f e3 M3 with
              | bad => simp only [hf] at q; exact q.elim
              | exc _ _ => simp only [hf] at q; exact q.elim
              | val r M4 =>
                simp only [hf] at q
                intro v G5 H5 s5 m5 r5
                obtain ⟨G6, s6, m6, r6⟩ := r5.fz m5
                have q := Ask.mono (s5.trans s6) q
                cases hr : r.fz with
                | d dd =>
                  rw [hr] at q r6
                  cases hacc : M4[M1.length]? with
                  | none => rw [hacc] at q; exact q.elim
                  | some c =>
                    rw [hacc] at q
                    cases c with
                    | list acc =>
                      simp only at q
                      split at q
                      · rename_i hlen
                        obtain ⟨o, g1, g2⟩ := m6.at_ _ _ _ atD hacc
                        cases g2 with
                        | @lst xs _ g2 =>
                          refine ⟨xs, g1, by rw [g2.length]; exact hlen, hlt, G6, _, ((s2.trans s3).trans s4).trans (s5.trans s6), m6.write atD (.lst (g2.append (.cons r6 .nil))), q⟩
                      · exact q.elim
                    | _ => exact q.elim
                | _ => rw [hr] at q; exact q.elim
    · exact q.elim
  · have ek : k = items.length := by omega
    subst ek
    rw [List.drop_length] at q
    unfold lcD at q
    split at q
    · rename_i hchk
      obtain ⟨h1, h2, h3⟩ := src G2 Hk (i ++ [D]) M2 s2 hp m2 hchk
      refine .inl ⟨h2, ?_⟩
      cases hacc : M2[M1.length]? with
      | none => rw [hacc] at q; exact q.elim
      | some c =>
        rw [hacc] at q
        cases c with
        | list acc =>
          simp only at q
          split at q
          · obtain ⟨o, g1, g2⟩ := m2.at_ _ _ _ atD hacc
            have mc := m2.cut (n := M1.length)
            have ei : (i ++ [D]).take M1.length = i := by rw [hl]; simp
            rw [ei] at mc
            exact q (.ref D) G2 Hk (Sub.refl _) mc ⟨D, o, rfl, m2.fr D (by simp), hDi, g1, g2⟩
          · exact q.elim
        | _ => exact q.elim
    · exact q.elim
section
variable {X : Cx} {W : WX} {f g h : Den} {fa : En → Mem → Ans (List Wv)} {a b c : Expr} {pos : Pos} {tg : Expr}
theorem PTs.weak {e : List Expr} {t t' : TT} (h : PTs X e t) (w : ∀ s H Q, t' s H Q → t s H Q) : PTs X e t' := ⟨fun pins s σ H Q I q => h.run pins s σ H Q I (w _ _ _ q)⟩
theorem ts_nil : PTs X [] (tDT X.K W tTrue) := PTs.weak pts_nil fun s H Q q => by
  obtain ⟨G, i, e, M, he, hm, q⟩ := q
  exact q true G H (Sub.refl _) hm rfl
theorem ts_one {tf : DenT} (hc : PT X c (tDT X.K W tf)) : PTs X [c] (tDT X.K W tf) := pts_one hc
theorem d_lc {elt iter : Expr} {ifs : List Expr} {scope : Scope} {own : List (Str × Nat)} {fi : En → Mem → Ans Items} {gt : TG} {tgd : PyData → En → Option En} {js : List Nat} {tf : DenT} (hc : X.calm = true) (hN : X.N.Nodup) (ok : BlkOk X.N X.env.scope scope own) (ht : TgOk X.K gt tgd js) (hj : ∀ j ∈ js, j ∈ own.map (·.2))
    (hi : PI X tg iter (tDI X.K W fi))
    (hg : ∀ (s : Shared) (H : Hp) (C : Addr) (cl : List (Str × Addr)) (fp : List Addr), PG (X.blk s H scope (compEnvC scope cl C X.env) fp) tg gt) (htt : ∀ (s : Shared) (H : Hp) (C : Addr) (cl : List (Str × Addr)) (fp : List Addr), PTs (X.blk s H scope (compEnvC scope cl C X.env) fp) ifs (tDT X.K W0 tf))
    (he : ∀ (s : Shared) (H : Hp) (C : Addr) (cl : List (Str × Addr)) (fp : List Addr), PE (X.blk s H scope (compEnvC scope cl C X.env) fp) elt (tD X.K W0 f)) (hs : ∀ x, foldedSetIterable iter X.env x = pure x := by intro _; rfl) :
    PE X (.ListComp elt [⟨tg, iter, ifs, 0⟩] scope pos) (tD X.K W (dLc fi (own.map (·.2)) tgd tf f)) :=
  PE.weak (pe_lc hc hN hi ok hg htt he hs) (lc_use ht hj (fun _ _ _ h => h) (fun _ _ _ h => h))
theorem s_asgLc {j : Nat} {al : Bool} {y : Str} {py spos : Pos} {elt iter : Expr} {ifs : List Expr} {scope : Scope} {own : List (Str × Nat)} {fi : En → Mem → Ans Items} {gt : TG} {tgd : PyData → En → Option En} {js : List Nat} {tf : DenT} (hc : X.calm = true) (hN : X.N.Nodup) (hy : X.N[j]? = some y) (hyl : X.env.scope.names.lookup y = some .local)
    (hsw : swapsWith (.ListComp elt [⟨tg, iter, ifs, 0⟩] scope pos) (some (.Name y py)) spos.line X.env = pure true) (ok : BlkOk X.N X.env.scope scope own) (ht : TgOk X.K gt tgd js) (hj : ∀ j ∈ js, j ∈ own.map (·.2))
    (hi : PI X tg iter (tDI X.K W fi))
    (hg : ∀ (s : Shared) (H : Hp) (C : Addr) (cl : List (Str × Addr)) (fp : List Addr), PG (X.blk s H scope (compEnvC scope cl C X.env) fp) tg gt) (htt : ∀ (s : Shared) (H : Hp) (C : Addr) (cl : List (Str × Addr)) (fp : List Addr), PTs (X.blk s H scope (compEnvC scope cl C X.env) fp) ifs (tDT X.K W0 tf))
    (he : ∀ (s : Shared) (H : Hp) (C : Addr) (cl : List (Str × Addr)) (fp : List Addr), PE (X.blk s H scope (compEnvC scope cl C X.env) fp) elt (tD X.K W0 f)) (hs : ∀ x, foldedSetIterable iter X.env x = pure x := by intro _; rfl) :
    PS X (.Assign [.Name y py] (.ListComp elt [⟨tg, iter, ifs, 0⟩] scope pos) spos) (tDS X.K W (sAsg j al (dLc fi (own.map (·.2)) tgd tf f))) :=
  PS.weak (ps_setLc hc hN hy hyl hsw hi ok hg htt he hs) fun D s H q => lc_use ht hj (fun _ _ _ h => h) (fun _ _ _ h => h) s H _ (asg_use D s H q)

/-! ### range -/
@[simp] def iRange (f : Den) : En → Mem → Ans Items := fun e M => (f e M).bind fun x M1 => (asI x M1).bind fun n M2 => if n.natAbs < 2 ^ 62 then .val (rgD 0 n, fun _ => true) M2 else .bad
theorem src_range {K : PySem.W.Frag} {G : Hp} {i : List Addr} (a b : Int) : SrcD K G i (Itr a (b - a).toNat) (rgD a b, fun _ => true) := by
  intro G' H' i' M s p m _
  have hl : (rgD a b).length = (b - a).toNat := by simp [rgD]
  refine ⟨fun k hk => by rw [← hl]; exact hk, by show (b - a).toNat ≤ (rgD a b).length; omega, fun k v H2 hk y => ?_⟩
  obtain ⟨rfl, rfl⟩ := y
  refine ⟨G', .int (a + (k : Nat)), Sub.refl _, m, ?_, .int _⟩
  have : k < (b - a).toNat := by rw [← hl]; exact hk
  simp [rgD, this]
theorem i_range {p : Pos} {e : Expr} (hm : X.mg "range" = none) (he : PE X e (tD X.K W f)) (hg : Gl X "range" := by rfl) (na : starEach [e] X.env = (false, eval e X.env) :: starEach [] X.env := by rfl) : PI X tg (.Call (.Name "range" p) [e] [] pos) (tDI X.K W (iRange f)) :=
  PI.weak (pi_range1 hg hm (pa_cons he pa_nil na) (hs := na)) fun s H R q => by
    obtain ⟨G, i, e, M, he, hm, q⟩ := q
    refine tG.go he hm q fun v x M1 G1 H1 s1 m1 r1 q => ?_
    obtain ⟨n, rfl, q⟩ := asI_use q
    simp only [asI, vI, Ans.bind] at q
    split at q
    · rename_i ok
      refine ⟨n, by rw [int_of r1], by omega, by omega, ?_⟩
      have z := src_range (K := X.K) (G := G1) (i := i) 0 n
      rw [Int.sub_zero] at z
      exact q _ G1 H1 (Sub.refl _) m1 z
    · exact q.elim
@[simp] def iRange2 (f g : Den) : En → Mem → Ans Items := fun e M => (f e M).bind fun x M1 => (asI x M1).bind fun a M2 => (g e M2).bind fun y M3 => (asI y M3).bind fun b M4 => if a.natAbs < 2 ^ 62 ∧ b.natAbs < 2 ^ 62 then .val (rgD a b, fun _ => true) M4 else .bad
theorem i_range2 {p : Pos} {e e2 : Expr} (hm : X.mg "range" = none) (he : PE X e (tD X.K W f)) (he2 : PE X e2 (tD X.K W g)) (hg : Gl X "range" := by rfl) (na : starEach [e, e2] X.env = (false, eval e X.env) :: starEach [e2] X.env := by rfl) (nb : starEach [e2] X.env = (false, eval e2 X.env) :: starEach [] X.env := by rfl) (hpl : (backTo pos (starEach [e2] X.env)).any (·.1) = false := by rfl) :
    PI X tg (.Call (.Name "range" p) [e, e2] [] pos) (tDI X.K W (iRange2 f g)) :=
  PI.weak (pi_range2 hg hm (pa_cons he (pa_cons he2 pa_nil nb) na) (hs := na.trans (congrArg _ nb)) (hs2 := nb)) fun s H R q => by
    obtain ⟨G, i, e, M, he, hm, q⟩ := q
    refine tG.go he hm q fun v x M1 G1 H1 s1 m1 r1 q => ?_
    obtain ⟨n, rfl, q⟩ := asI_use q
    refine tG.go (he.mono s1 (List.prefix_refl _)) m1 q fun u y M2 G2 H2 s2 m2 r2 q => ?_
    obtain ⟨k, rfl, q⟩ := asI_use q
    simp only [asI, vI, Ans.bind] at q
    split at q
    · rename_i ok
      refine ⟨n, k, by rw [int_of r1, int_of r2], by omega, ?_⟩
      exact q _ G2 H2 (Sub.refl _) m2 (src_range n k)
    · exact q.elim
/-! ### zip -/
/-- a list or tuple: which, its items, whether it stands still -/
@[simp] def seqC (x : Wv) (M : Mem) : Option (Bool × Items) := match x with
  | .d (.list ds) => some (false, ds, fun _ => true)
  | .d (.tuple ds) => some (true, ds, fun _ => true)
  | .k ds => some (false, ds, fun _ => true)
  | .r l => (match M[l]? with
    | some (.list ds) => some (false, ds, fun M' => match M'[l]? with
      | some c => beqD c (.list ds)
      | none => false)
    | _ => none)
  | _ => none
theorem seqC_tup {K : PySem.W.Frag} {G : Hp} {i : List Addr} {M : Mem} {v : V} {x : Wv} {ds : List PyData} {chk : Mem → Bool} (r : RpW K G i v x) (e : seqC x M = some (true, ds, chk)) : ∃ a xs, v = .ref a ∧ TupAt K G a xs ∧ RpAll K G xs ds := by
  unfold seqC at e
  split at e
  · cases e
  · cases e
    have r : Rp K G v (.tuple ds) := r
    cases r with
    | tup h t => exact ⟨_, _, rfl, h, t⟩
  · cases e
  · split at e <;> cases e
  · cases e
theorem seqC_lst {K : PySem.W.Frag} {G H : Hp} {i : List Addr} {M : Mem} {v : V} {x : Wv} {ds : List PyData} {chk : Mem → Bool} (m : MemR K G H i M) (r : RpW K G i v x) (e : seqC x M = some (false, ds, chk)) :
    ∃ a, v = .ref a ∧ (∃ xs, SqL K H a xs) ∧ ∀ (G' H' : Hp) (i' : List Addr) (M' : Mem), Sub G G' → i <+: i' → MemR K G' H' i' M' → chk M' = true → ∃ xs, SqL K H' a xs ∧ RpAll K G' xs ds := by
  unfold seqC at e
  split at e
  · cases e
    have r : Rp K G v (.list ds) := r
    cases r with
    | lst h1 t => exact ⟨_, rfl, ⟨_, .of (m.sub _ _ h1)⟩, fun G2 H2 i2 M2 a b c _ => ⟨_, .of (c.sub _ _ (a _ _ h1)), t.mono a⟩⟩
  · cases e
  · cases e
    obtain ⟨a, vs, rfl, h1, t⟩ := r
    exact ⟨_, rfl, ⟨_, m.sub.l h1⟩, fun G2 H2 i2 M2 a b c _ => ⟨_, c.sub.l (a.l h1), t.mono a⟩⟩
  · rename_i l
    split at e
    · rename_i ds' hl
      cases e
      obtain ⟨a, h1, rfl⟩ := r
      obtain ⟨o, h2, h3⟩ := m.at_ l a _ h1 hl
      cases h3 with
      | lst h3 =>
        refine ⟨a, rfl, ⟨_, .of h2⟩, fun G2 H2 i2 M2 a2 b c2 hc => ?_⟩
        dsimp only at hc
        cases hl2 : M2[l]? with
        | none => rw [hl2] at hc; cases hc
        | some c3 =>
          rw [hl2] at hc
          have := beqD_eq _ _ hc
          subst this
          obtain ⟨o, h4, h5⟩ := c2.at_ l a _ (get_pre b h1) hl2
          cases h5 with
          | lst h5 => exact ⟨_, .of h4, h5⟩
    · cases e
  · cases e
def pairD (x y : PyData) : PyData := .tuple [x, y]
@[simp] def zipR (ws : List Wv) (M : Mem) : Ans Items := match ws with
  | [x, y] => (match seqC x M, seqC y M with
    | some (true, ds, _), some (true, es, _) => .val (List.zipWith pairD ds es, fun _ => true) M
    | some (false, ds, c), some (false, es, c2) => .val (List.zipWith pairD ds es, fun M' => c M' && c2 M') M
    | _, _ => .bad)
  | _ => .bad
@[simp] def iZip (f : En → Mem → Ans (List Wv)) : En → Mem → Ans Items := fun e M => (f e M).bind zipR
theorem src_zipT {K : PySem.W.Frag} {G : Hp} {i : List Addr} {a b : Addr} {xs ys : List V} {ds es : List PyData} {chk : Mem → Bool} (h : TupAt K G a xs) (t : RpAll K G xs ds) (h2 : TupAt K G b ys) (t2 : RpAll K G ys es) : SrcD K G i (RZ.ItzT K a b) (List.zipWith pairD ds es, chk) := by
  intro G' H' i' M s p m _
  have hq : SqT K H' a xs := (s.trans m.sub).t h
  have hq2 : SqT K H' b ys := (s.trans m.sub).t h2
  have hl := t.length
  have hl2 := t2.length
  refine ⟨fun k hk => ?_, ⟨xs, ys, hq, hq2, by simp; omega⟩, fun k v H2 hk y => ?_⟩
  · simp at hk
    exact ⟨xs, ys, xs[k]'(by omega), ys[k]'(by omega), hq, hq2, by simp [show k < xs.length by omega], by simp [show k < ys.length by omega]⟩
  · obtain ⟨T, x, y, rfl, hT, rfl, f1, f2⟩ := y
    obtain ⟨d, e1, r1⟩ := t.getV (f1 xs hq)
    obtain ⟨d2, e2, r2⟩ := t2.getV (f2 ys hq2)
    have s0 : Sub G' (upd G' T (.tup [x, y])) := Sub.new (m.gfree hT)
    refine ⟨upd G' T (.tup [x, y]), pairD d d2, s0, m.newTup hT, ?_, .tup (.of upd_same) (.cons ((r1.mono s).mono s0) (.cons ((r2.mono s).mono s0) .nil))⟩
    simp [List.getElem?_zipWith, e1, e2]
theorem src_zipL {K : PySem.W.Frag} {G : Hp} {i : List Addr} {a b : Addr} {ds es : List PyData} {c1 c2 : Mem → Bool} (h : ∀ (G' H' : Hp) (i' : List Addr) (M' : Mem), Sub G G' → i <+: i' → MemR K G' H' i' M' → c1 M' = true → ∃ xs, SqL K H' a xs ∧ RpAll K G' xs ds)
    (h2 : ∀ (G' H' : Hp) (i' : List Addr) (M' : Mem), Sub G G' → i <+: i' → MemR K G' H' i' M' → c2 M' = true → ∃ xs, SqL K H' b xs ∧ RpAll K G' xs es) : SrcD K G i (Itz K a b) (List.zipWith pairD ds es, fun M' => c1 M' && c2 M') := by
  intro G' H' i' M s p m hc
  have hc : (c1 M && c2 M) = true := hc
  rw [Bool.and_eq_true] at hc
  obtain ⟨xs, hq, t⟩ := h G' H' i' M s p m hc.1
  obtain ⟨ys, hq2, t2⟩ := h2 G' H' i' M s p m hc.2
  have hl := t.length
  have hl2 := t2.length
  refine ⟨fun k hk => ?_, ⟨xs, ys, hq, hq2, by simp; omega⟩, fun k v H2 hk y => ?_⟩
  · simp at hk
    exact ⟨xs, ys, xs[k]'(by omega), ys[k]'(by omega), hq, hq2, by simp [show k < xs.length by omega], by simp [show k < ys.length by omega]⟩
  · obtain ⟨T, x, y, rfl, hT, rfl, f1, f2⟩ := y
    obtain ⟨d, e1, r1⟩ := t.getV (f1 xs hq)
    obtain ⟨d2, e2, r2⟩ := t2.getV (f2 ys hq2)
    have s0 : Sub G' (upd G' T (.tup [x, y])) := Sub.new (m.gfree hT)
    refine ⟨upd G' T (.tup [x, y]), pairD d d2, s0, m.newTup hT, ?_, .tup (.of upd_same) (.cons (r1.mono s0) (.cons (r2.mono s0) .nil))⟩
    simp [List.getElem?_zipWith, e1, e2]
theorem i_zip {e e2 : Expr} {p tpos : Pos} {elts : List Expr} {kk : Nat} (hm : X.mg "zip" = none) (ha : PA X [e, e2] (tDA X.K W fa)) (hg : Gl X "zip" := by rfl)
    (hs : starEach [e, e2] X.env = (false, eval e X.env) :: starEach [e2] X.env := by rfl) (hpl : (backTo pos (starEach [e2] X.env)).any (·.1) = false := by rfl) :
    PI X (.Tuple elts kk tpos) (.Call (.Name "zip" p) [e, e2] [] pos) (tDI X.K W (iZip fa)) := PI.weak (RZ.pi_zipA hg hm ha hs hpl) fun s H R q => by
  obtain ⟨G, i, e, M, he, hm, q⟩ := q
  refine tG.go he hm q fun vs ws M1 G1 H1 s1 m1 r1 q => ?_
  unfold zipR at q
  split at q
  · rename_i x y
    cases r1 with
    | cons rx t =>
      cases t with
      | cons ry t =>
        cases t
        split at q
        · rename_i ds c1 es c2 e1 e2
          obtain ⟨a, xs, rfl, h1, t1⟩ := seqC_tup rx e1
          obtain ⟨b, ys, rfl, h2, t2⟩ := seqC_tup ry e2
          exact ⟨a, b, xs, ys, rfl, .inr ⟨m1.sub.t h1, m1.sub.t h2, q _ G1 H1 (Sub.refl _) m1 (src_zipT h1 t1 h2 t2)⟩⟩
        · rename_i ds c1 es c2 e1 e2
          obtain ⟨a, rfl, ⟨xs, hx⟩, h1⟩ := seqC_lst m1 rx e1
          obtain ⟨b, rfl, ⟨ys, hy⟩, h2⟩ := seqC_lst m1 ry e2
          exact ⟨a, b, xs, ys, rfl, .inl ⟨hx, hy, q _ G1 H1 (Sub.refl _) m1 (src_zipL h1 h2)⟩⟩
        · exact q.elim
  · exact q.elim
end
end Lf

set_option Elab.async false
set_option linter.all false
set_option maxRecDepth 100000
set_option maxHeartbeats 4000000
/-! Lay12: enumerate of lists and tuples. -/
namespace PySem
open Sem (wp)
open AutoSeq1 (wpAny_loadPart')
theorem enumT_new (l : Addr) (items : Array Value) (n : Nat) (dct : Option Addr) (sl : Array (Option Value)) :
    Meets (Builtin.«enumerate.__new__» ⟨[.type "enumerate", .ref l], []⟩) (fun _ R s => s.heap.get? l = some { cls := .type "tuple", dict := dct, data := .seq items n, slots := sl } ∧
      R (.ok (.ret (.ref (s.heap.push { cls := .type "tuple_iterator", data := .fields #[.ref l, .int 0 0] }).objs.size)))
        { s with heap := (s.heap.push { cls := .type "tuple_iterator", data := .fields #[.ref l, .int 0 0] }).push { cls := .type "enumerate", data := .fields #[.none, .bool false, .ref s.heap.objs.size, rawInt 0, .none, .none] } }) :=
  .of_wp fun prog w A R s h => by
    obtain ⟨hp, g, d, tk, os⟩ := s; obtain ⟨hl, h⟩ := h
    have hsub := sub_enumerate
    have hT : Heap.IsTuple (Shared.heap ⟨hp, g, d, tk, os⟩) l items := ⟨_, hl, rfl, n, rfl⟩
    wp_walk using wpAny_loadPart' hl
    refine wpAny_stack_any fun st => wpAny_pure ?_
    split
    · rename_i c _ _ _ _ _
      cases (c == Value.type "enumerate")
      · wp_walk using wpAny_loadPart' hl, wpAny_pyIter_tuple hT
        exact ⟨_, rfl, h⟩
      · wp_walk using wpAny_loadPart' hl, wpAny_pyIter_tuple hT
        exact ⟨_, rfl, h⟩
    · wp_walk using wpAny_loadPart' hl, wpAny_pyIter_tuple hT
      exact ⟨_, rfl, h⟩
section
variable {prog : Program} {w : World} {A : Around} {E : Value → Shared → Prop} {s : Shared}
theorem call_enumT {l : Addr} {items : Array Value} {Q : Value → Shared → Prop} (hL : s.heap.IsTuple l items)
    (h : ∀ h', IsEnum h' (s.heap.objs.size + 1) s.heap.objs.size 0 .none → h'.IsTupleIter s.heap.objs.size l 0 → h'.objs.size = s.heap.objs.size + 2 →
      (∀ b o, s.heap.get? b = some o → h'.get? b = some o) → Q (.ref (s.heap.objs.size + 1)) { s with heap := h' }) :
    wpAny (model prog w) A (call (.type "enumerate") [.ref l]) Q E s := by
  obtain ⟨⟨c, dct, dt, sl⟩, hl, hc, n, hd⟩ := hL
  replace hc : c = .type "tuple" := hc
  replace hd : dt = .seq items n := hd
  subst hc hd
  refine callType_new F.called_enumerate (by decide) (F.typeCall_enumerate_1 _) (F.newCall_enumerate_1 _) (fun obj => F.args_object_init_2 obj _) F.entry_enumerate_new
    (enumT_new l items n dct sl) ⟨hl, ?_⟩
  have hz : (s.heap.push { cls := .type "tuple_iterator", data := .fields #[.ref l, .int 0 0] }).objs.size = s.heap.objs.size + 1 := Heap.size_push ..
  show _ ∧ _
  rw [hz]
  have he : IsEnum ((s.heap.push { cls := .type "tuple_iterator", data := .fields #[.ref l, .int 0 0] }).push
      { cls := .type "enumerate", data := .fields #[.none, .bool false, .ref s.heap.objs.size, rawInt 0, .none, .none] }) (s.heap.objs.size + 1) s.heap.objs.size 0 .none := by
    have := Heap.get?_push_size (s.heap.push { cls := .type "tuple_iterator", data := .fields #[.ref l, .int 0 0] })
      (o := { cls := .type "enumerate", data := .fields #[.none, .bool false, .ref s.heap.objs.size, rawInt 0, .none, .none] }) rfl
    rw [hz] at this; exact this
  refine ⟨⟨_, he, rfl⟩, h _ he ⟨_, Heap.get?_push_of_some _ (Heap.get?_push_size _ rfl), rfl, rfl⟩ (by rw [Heap.size_push, hz]) fun b o x => Heap.get?_push_of_some _ (Heap.get?_push_of_some _ x)⟩
end
end PySem
namespace Lf
open PySem PySem.Spec PyProof.Rows L2
/-- the tuple at a, its items in new pairs with their places -/
def ItEnT (K : PySem.W.Frag) (a : Addr) : It :=
  ⟨fun i H => ∃ (xs : List V) (x : V), SqT K H a xs ∧ xs[i]? = some x, fun i H v H' => ∃ T x, v = .ref T ∧ H T = none ∧ H' = upd H T (.tup [.int (i : Nat), x]) ∧ ∀ xs, SqT K H a xs → xs[i]? = some x, fun i H => ∃ xs : List V, SqT K H a xs ∧ xs.length = i⟩
theorem turn_enT {P : Program} {w : World} {K : PySem.W.Frag} {elts : List Expr} {kk : Nat} {tpos : Pos} (a e it : Addr) :
    Turn P w K (.Tuple elts kk tpos) (ItEnT K a) [e, it] e (fun i h => (∃ old, IsEnum h e it ((i : Nat) : Int) old) ∧ h.IsTupleIter it a i ∧ e ≠ it ∧ a ≠ it ∧ a ≠ e) where
  mem := by simp
  obj := fun i h st b hb => by
    obtain ⟨⟨old, he⟩, ⟨o, ho, hc, hd⟩, _⟩ := st
    have e' : b = e ∨ b = it := by simpa using hb
    rcases e' with z | z
    · rw [z]; exact ⟨_, he, fun v q => nomatch q⟩
    · rw [z]; exact ⟨o, ho, fun v q => by rw [hd] at q; cases q⟩
  keep := fun i h h' st k => let ⟨⟨old, he⟩, hi, hne⟩ := st; ⟨⟨old, k e (by simp) _ he⟩, hi.at fun o q => k it (by simp) o q, hne⟩
  item := by
    intro X hP hw hK hc i pins s σ H E I hf st hg
    subst hP hw hK
    obtain ⟨⟨old, he⟩, hit, hne, hai, hae⟩ := st
    obtain ⟨xs, x, hq, hx⟩ := hg
    obtain ⟨its, rv, p, hz⟩ := I.tuple hq
    obtain ⟨u, hu, ru⟩ := rv.get hx
    have hil2 : i < its.toArray.size := by
      have := (List.getElem?_eq_some_iff.mp hu).1
      simpa using this
    have hel : e < s.heap.objs.size := Heap.lt_size he
    have hil : it < s.heap.objs.size := by obtain ⟨_, q, _⟩ := hit; exact Heap.lt_size q
    refine wpAny_pyNext_enum_itemD (Draws.tuple (A := X.A.in1) (I.ok.hd hc) it a hai its.toArray) he ⟨hit, p⟩ hil2 hne (by simp [hne, Ne.symm hae]) fun y h' tk hy ho st' hT hsz hk => ?_
    have ey : y = u := by
      have : its.toArray[i]? = some u := by simpa using hu
      rw [this] at hy
      exact (Option.some.inj hy).symm
    subst ey
    refine ⟨_, rfl, wpAny_letOwnedTupleGo_enum (s := { s with heap := h', toks := tk + 1 }) ho fun h'' he' sb => ?_⟩
    have hT2 : h''.get? s.heap.objs.size = some { cls := .type "tuple", data := .seq #[.int i tk, y] } := (sb.2 _ (Nat.ne_of_gt hel)).trans hT
    have new : ObjOk X.prog X.w (upd H s.heap.objs.size (.tup [.int (i : Nat), x])) h'' s.heap.objs.size (.tup [.int (i : Nat), x]) :=
      ⟨by show 2 ≤ sizeLine; decide, [.int i tk, y], .cons ⟨_, rfl⟩ (.cons ru .nil), ⟨_, hT2, rfl, _, rfl⟩⟩
    have I1 : Inv X pins σ (upd H s.heap.objs.size (.tup [.int (i : Nat), x])) { s with heap := h'', toks := tk + 1 } :=
      I.turnedNew (ch := [e, it]) (fun b ob hb q => (sb.2 b (fun z => hb (by simp [z]))).trans (hk b ob (fun z => hb (by simp [z])) (fun z => hb (by simp [z])) q)) hf (Nat.le_refl _) new
    refine ⟨.ref s.heap.objs.size, _, I1, rfl, ⟨_, x, rfl, I.hok.fresh (Nat.le_refl _), rfl, fun ys hy => by rw [I.tuple_inj hy hq]; exact hx⟩, ⟨⟨y, ?_⟩, st'.1.at fun o q => (sb.2 it (Ne.symm hne)).trans q, hne, hai, hae⟩, fun b hb => ?_⟩
    · have e1 : ((i + 1 : Nat) : Int) = (i : Int) + 1 := by omega
      rw [e1]; exact he'
    · have hb' : b < s.heap.objs.size := by
        have e' : b = e ∨ b = it := by simpa using hb
        rcases e' with z | z
        · rw [z]; exact hel
        · rw [z]; exact hil
      rw [upd_ne (Nat.ne_of_lt hb')]
      exact (hf b hb).1
  done := by
    intro X hP hw hK hc i pins s σ H E I hf st hg
    subst hP hw hK
    obtain ⟨⟨old, he⟩, hit, hne, hai, hae⟩ := st
    obtain ⟨xs, hq, hx⟩ := hg
    obtain ⟨its, rv, p, hz⟩ := I.tuple hq
    obtain ⟨f0, f1, f2, f3, f4, f5⟩ := hf it (by simp)
    have hl : its.toArray.size = i := by
      have := rv.length
      simp
      omega
    have hit2 : s.heap.IsTupleIter it a its.toArray.size := by rw [hl]; exact hit
    exact wpAny_pyNext_enum_endD (Draws.tuple (A := X.A.in1) (I.ok.hd hc) it a hai its.toArray) he ⟨hit2, p⟩ fun h' eb => ⟨rfl, I.turned (t' := s.toks) (fun b o hb q => eb b o hb q) f0 f1 f3 f4 f5⟩
  self := fun A i s Q E st h => let ⟨⟨_, he⟩, _⟩ := st; wpAny_pyIter_enum he h
def iEnT (K : PySem.W.Frag) (ta : TA) : TI := fun σ H R => ta σ H fun vs H1 => ∃ a xs, vs = [.ref a] ∧ SqT K H1 a xs ∧ R (ItEnT K a) H1
theorem pi_enT {X : Cx} {e : Expr} {ta : TA} {p pos tpos : Pos} {elts : List Expr} {kk : Nat} (hg : Gl X "enumerate") (hm : X.mg "enumerate" = none) (ha : PA X [e] ta) (hs : starEach [e] X.env = [(false, eval e X.env)] := by rfl) :
    PI X (.Tuple elts kk tpos) (.Call (.Name "enumerate" p) [e] [] pos) (iEnT X.K ta) := by
  refine ⟨fun pins s σ H R I h => ?_⟩
  refine Call_ (ld_blt I hg hm boot_enumerate (PyProof.Rows.callWith_type1 (thn (ha.run pos pins s σ H _ I h) fun us s1 ⟨vs, H1, I1, r1, q1⟩ => ?_) hs rfl))
  obtain ⟨a, xs, ex, hq, q⟩ := q1
  subst ex
  cases r1 with
  | cons r rr =>
    cases rr
    cases r
    obtain ⟨its, rv, p', hz⟩ := I1.tuple hq
    have hal : a < s1.heap.objs.size := by obtain ⟨o, ho, _⟩ := id p'; exact Heap.lt_size ho
    refine call_enumT (show s1.heap.IsTuple a its.toArray from p') fun h' he hit hsz hk => wpAny_pyIter_enum he ?_
    have I2 : Inv X pins σ H1 { s1 with heap := h' } := I1.kept (t' := s1.toks) hk
    refine ⟨s1.heap.objs.size + 1, [s1.heap.objs.size + 1, s1.heap.objs.size], _, _, H1, rfl, I2, turn_enT a (s1.heap.objs.size + 1) s1.heap.objs.size, ⟨⟨.none, he⟩, hit, Nat.succ_ne_self _, Nat.ne_of_lt hal, Nat.ne_of_lt (Nat.lt_succ_of_lt hal)⟩, fun b hb => ?_, q⟩
    have e' : b = s1.heap.objs.size + 1 ∨ b = s1.heap.objs.size := by simpa using hb
    have hle : s1.heap.objs.size ≤ b := by
      rcases e' with z | z
      · rw [z]; exact Nat.le_add_right _ _
      · rw [z]; exact Nat.le_refl _
    exact I1.fpOk hle (I1.hok.fresh hle)
def enumD (ds : List PyData) : List PyData := ds.zipIdx.map fun p => pairD (.int (p.2 : Nat)) p.1
@[simp] def enR (ws : List Wv) (M : Mem) : Ans Items := match ws with
  | [x] => (match seqC x M with
    | some (_, ds, c) => .val (enumD ds, c) M
    | none => .bad)
  | _ => .bad
@[simp] def iEnum (f : En → Mem → Ans (List Wv)) : En → Mem → Ans Items := fun e M => (f e M).bind enR
theorem src_enT {K : PySem.W.Frag} {G : Hp} {i : List Addr} {a : Addr} {xs : List V} {ds : List PyData} {chk : Mem → Bool} (h : TupAt K G a xs) (t : RpAll K G xs ds) : SrcD K G i (ItEnT K a) (enumD ds, chk) := by
  intro G' H' i' M s p m _
  have hq : SqT K H' a xs := (s.trans m.sub).t h
  have hl := t.length
  refine ⟨fun k hk => ?_, ⟨xs, hq, by simp [enumD]; omega⟩, fun k v H2 hk y => ?_⟩
  · simp [enumD] at hk
    exact ⟨xs, xs[k]'(by omega), hq, by simp [show k < xs.length by omega]⟩
  · obtain ⟨T, x, rfl, hT, rfl, f1⟩ := y
    obtain ⟨d, e1, r1⟩ := t.getV (f1 xs hq)
    have s0 : Sub G' (upd G' T (.tup [.int (k : Nat), x])) := Sub.new (m.gfree hT)
    refine ⟨upd G' T (.tup [.int (k : Nat), x]), pairD (.int (k : Nat)) d, s0, m.newTup hT, ?_, .tup (.of upd_same) (.cons (.int _) (.cons ((r1.mono s).mono s0) .nil))⟩
    simp [enumD, e1]
theorem src_enL {K : PySem.W.Frag} {G : Hp} {i : List Addr} {a : Addr} {ds : List PyData} {c1 : Mem → Bool} (h : ∀ (G' H' : Hp) (i' : List Addr) (M' : Mem), Sub G G' → i <+: i' → MemR K G' H' i' M' → c1 M' = true → ∃ xs, SqL K H' a xs ∧ RpAll K G' xs ds) : SrcD K G i (Ite K a) (enumD ds, c1) := by
  intro G' H' i' M s p m hc
  obtain ⟨xs, hq, t⟩ := h G' H' i' M s p m hc
  have hl := t.length
  refine ⟨fun k hk => ?_, ⟨xs, hq, by simp [enumD]; omega⟩, fun k v H2 hk y => ?_⟩
  · simp [enumD] at hk
    exact ⟨xs, xs[k]'(by omega), hq, by simp [show k < xs.length by omega]⟩
  · obtain ⟨T, x, rfl, hT, rfl, f1⟩ := y
    obtain ⟨d, e1, r1⟩ := t.getV (f1 xs hq)
    have s0 : Sub G' (upd G' T (.tup [.int (k : Nat), x])) := Sub.new (m.gfree hT)
    refine ⟨upd G' T (.tup [.int (k : Nat), x]), pairD (.int (k : Nat)) d, s0, m.newTup hT, ?_, .tup (.of upd_same) (.cons (.int _) (.cons (r1.mono s0) .nil))⟩
    simp [enumD, e1]
section
variable {X : Cx} {W : WX} {fa : En → Mem → Ans (List Wv)} {pos : Pos}
theorem i_enum {e : Expr} {p tpos : Pos} {elts : List Expr} {kk : Nat} (hm : X.mg "enumerate" = none) (ha : PA X [e] (tDA X.K W fa)) (hg : Gl X "enumerate" := by rfl) (hs : starEach [e] X.env = [(false, eval e X.env)] := by rfl) :
    PI X (.Tuple elts kk tpos) (.Call (.Name "enumerate" p) [e] [] pos) (tDI X.K W (iEnum fa)) := PI.weak (PI.or (pi_enum hg hm ha hs) (pi_enT hg hm ha hs)) fun s H R q => by
  obtain ⟨G, i, e, M, he, hm, q⟩ := q
  have go : ∀ {Q : List V → Hp → Prop}, (∀ vs ws M1 G1 H1, fa e M = .val ws M1 → Sub G G1 → MemR X.K G1 H1 i M1 → RpWs X.K G1 i vs ws → Ask X.K W (fun G _ i J a => SrcD X.K G i J a) G1 i s R (enR ws M1) → Q vs H1) → tDA X.K W fa s H Q := by
    intro Q k
    refine ⟨G, i, e, M, he, hm, ?_⟩
    cases ex : fa e M with
    | bad => simp only [iEnum, ex, Ans.bind] at q; exact q
    | exc x M' => simp only [iEnum, ex, Ans.bind] at q; exact q
    | val ws M1 =>
      simp only [iEnum, ex, Ans.bind] at q
      exact fun vs G1 H1 s1 m1 r1 => k vs ws M1 G1 H1 ex s1 m1 r1 (Ask.mono s1 q)
  -- tuple or list: by the denotation
  by_cases hT : ∃ x M1 ds c, fa e M = .val [x] M1 ∧ seqC x M1 = some (true, ds, c)
  · obtain ⟨x, M1, ds, c, ex, es⟩ := hT
    refine .inr (go fun vs ws M1' G1 H1 ex' s1 m1 r1 q => ?_)
    rw [ex] at ex'
    cases ex'
    cases r1 with
    | cons rx t =>
      cases t
      simp only [enR, es] at q
      obtain ⟨a, xs, rfl, h1, t1⟩ := seqC_tup rx es
      exact ⟨a, xs, rfl, m1.sub.t h1, q _ G1 H1 (Sub.refl _) m1 (src_enT h1 t1)⟩
  · refine .inl (go fun vs ws M1 G1 H1 ex s1 m1 r1 q => ?_)
    unfold enR at q
    split at q
    · rename_i x
      cases r1 with
      | cons rx t =>
        cases t
        split at q
        · rename_i b ds c es
          cases b with
          | true => exact (hT ⟨x, M1, ds, c, ex, es⟩).elim
          | false =>
            obtain ⟨a, rfl, ⟨xs, hx⟩, h1⟩ := seqC_lst m1 rx es
            exact ⟨a, xs, rfl, hx, q _ G1 H1 (Sub.refl _) m1 (src_enL h1)⟩
        · exact q.elim
    · exact q.elim
end
end Lf

set_option Elab.async false
set_option linter.all false
set_option maxRecDepth 100000
set_option maxHeartbeats 4000000
/-! Lay13: methods of lists, items put, dicts. -/
namespace Lf
open PySem PySem.Spec PyProof.Rows L2

/-! ### methods of a list of the memory -/
def MtD (X : Cx) (r : V → List V → Hp → VK → Prop) (F : List PyData → List Wv → Mem → Option (Rv × List PyData)) : Prop :=
  ∀ (G H : Hp) (i : List Addr) (M : Mem) (l : Nat) (a : Addr) (xs : List V) (ds : List PyData) (vs : List V) (ws : List Wv) (res : Rv) (ds' : List PyData) (Q : VK), MemR X.K G H i M → i[l]? = some a → H a = some (.lst xs) → RpAll X.K G xs ds → RpWs X.K G i vs ws →
    F ds ws M = some (res, ds') → (∀ v' G' H', Sub G G' → MemR X.K G' H' i (M.set l (.list ds')) → ResR X.K G' H' i v' res → Q v' H') → r (.ref a) vs H Q
@[simp] def mtR (F : List PyData → List Wv → Mem → Option (Rv × List PyData)) (o : Wv) (ws : List Wv) (M : Mem) : Ans Rv := match o with
  | .r l => (match M[l]? with
    | some (.list ds) => (match F ds ws M with
      | some (r, ds') => .val r (M.set l (.list ds'))
      | none => .bad)
    | _ => .bad)
  | _ => .bad
@[simp] def isL (o : Wv) (M : Mem) : Bool := match o with
  | .r l => (match M[l]? with
    | some (.list _) => true
    | _ => false)
  | _ => false
theorem isL_use {o : Wv} {M : Mem} (h : isL o M = true) : ∃ l ds, o = .r l ∧ M[l]? = some (.list ds) := by
  unfold isL at h
  split at h
  · split at h
    · rename_i l _ ds e; exact ⟨l, ds, rfl, e⟩
    · cases h
  · cases h
@[simp] def dMt (F : List PyData → List Wv → Mem → Option (Rv × List PyData)) (f : Den) (fa : En → Mem → Ans (List Wv)) : Den := fun e M => (f e M).bind fun o M1 => if isL o.fz M1 = true then (fa e M1).bind fun ws M2 => mtR F o.fz ws M2 else .bad
section
variable {X : Cx} {W : WX} {f g h : Den} {fa : En → Mem → Ans (List Wv)} {pos : Pos}
theorem mt_use {r : V → List V → Hp → VK → Prop} {F : List PyData → List Wv → Mem → Option (Rv × List PyData)} (md : MtD X r F) (s : L2.St) (H : Hp) (Q : VK) (q : tD X.K W (dMt F f fa) s H Q) : tBM X.K "list" r (tD X.K W f) (tDA X.K W fa) s H Q := by
  obtain ⟨G, i, e, M, he, hm, q⟩ := q
  refine tD.goW he hm q fun v x M1 G1 H1 s1 m1 r1 q => ?_
  split at q
  · rename_i hl
    obtain ⟨l, ds, hx, hM⟩ := isL_use hl
    rw [hx] at r1 q
    obtain ⟨a, ha, rfl⟩ := r1
    obtain ⟨o, ho, hob⟩ := m1.at_ l a _ ha hM
    cases hob with
    | @lst xs _ t =>
      refine ⟨.inl ⟨rfl, xs, .of ho⟩, ?_⟩
      refine tG.go (he.mono s1 (List.prefix_refl _)) m1 q fun vs ws M2 G2 H2 s2 m2 r2 q => ?_
      unfold mtR at q
      cases hM2 : M2[l]? with
      | none => simp only [hM2] at q; exact q.elim
      | some c =>
        cases c with
        | list ds2 =>
          simp only [hM2] at q
          obtain ⟨o2, ho2, hob2⟩ := m2.at_ l a _ ha hM2
          cases hob2 with
          | @lst xs2 _ t2 =>
            cases z : F ds2 ws M2 with
            | none => rw [z] at q; exact q.elim
            | some p =>
              obtain ⟨res, ds'⟩ := p
              rw [z] at q
              exact md G2 H2 i M2 l a xs2 ds2 vs ws res ds' Q m2 ha ho2 t2 r2 z q
        | _ => simp only [hM2] at q; exact q.elim
  · exact q.elim
theorem mt_use0 {r : V → List V → Hp → VK → Prop} {F : List PyData → List Wv → Mem → Option (Rv × List PyData)} (md : MtD X r F) (s : L2.St) (H : Hp) (Q : VK) (q : tD X.K W (dMt F f aNil) s H Q) : tBM0 X.K "list" r (tD X.K W f) s H Q := by
  obtain ⟨G, i, e, M, he, hm, q⟩ := q
  refine tD.goW he hm q fun v x M1 G1 H1 s1 m1 r1 q => ?_
  split at q
  · rename_i hl
    obtain ⟨l, ds, hx, hM⟩ := isL_use hl
    rw [hx] at r1 q
    obtain ⟨a, ha, rfl⟩ := r1
    obtain ⟨o, ho, hob⟩ := m1.at_ l a _ ha hM
    cases hob with
    | @lst xs _ t =>
      refine ⟨.inl ⟨rfl, xs, .of ho⟩, ?_⟩
      simp only [aNil, Ans.bind, mtR, hM] at q
      cases z : F ds [] M1 with
      | none => rw [z] at q; exact q.elim
      | some p =>
        obtain ⟨res, ds'⟩ := p
        rw [z] at q
        exact md G1 H1 i M1 l a xs ds [] [] res ds' Q m1 ha ho t .nil z q
  · exact q.elim
@[simp] def appF : List PyData → List Wv → Mem → Option (Rv × List PyData) := fun ds ws _ => match ws with
  | [.d x] => if ds.length < sizeLine then some (.w (.d .none), ds ++ [x]) else none
  | _ => none
theorem md_app : MtD X rAppend appF := by
  intro G H i M l a xs ds vs ws res ds' Q m ha ho t r e q
  unfold appF at e
  split at e
  · rename_i x
    obtain ⟨hl, e⟩ := if_some e
    cases e
    cases r with
    | cons rx rt =>
      cases rt
      exact ⟨a, xs, _, rfl, rfl, ho, by rw [t.length]; exact hl, q _ G _ (Sub.refl _) (m.write ha (.lst (t.append (.cons rx .nil)))) .non⟩
  · cases e
theorem d_append {o e : Expr} {apos cpos : Pos} (ho : PE X o (tD X.K W f)) (ha : PA X [e] (tDA X.K W fa)) (hbase : attributeBase o "append" X.env (eval o X.env) = eval o X.env := by rfl)
    (hfew : ((backTo cpos (starEach [e] X.env)).all (fun x => !x.1) && (backToKw cpos (keywordEach [] X.env)).all (fun x => x.1.isSome) && decide (([e] : List Expr).length + ([] : List Keyword).length + (if ([] : List Keyword).isEmpty then 0 else 1) < 30)) = true := by rfl)
    (hline : (apos.endLine == cpos.line) = true := by rfl) (hs : starEach [e] X.env = (false, eval e X.env) :: starEach [] X.env := by rfl) :
    PE X (.Call (.Attribute o "append" apos) [e] [] cpos) (tD X.K W (dMt appF f fa)) :=
  PE.weak (pe_bm PySem.F.plainAttrs_list PySem.F.slot_list_append PySem.F.type_list_append mt_append ho ha hbase hfew hline hs rfl) (mt_use md_app)
/-- extend by a list -/
@[simp] def extF : List PyData → List Wv → Mem → Option (Rv × List PyData) := fun ds ws M => match ws with
  | [w] => (match w.rd M with
    | some (.list es) => if ds.length + es.length ≤ sizeLine then some (.w (.d .none), ds ++ es) else none
    | _ => none)
  | _ => none
theorem md_ext : MtD X rExtend extF := by
  intro G H i M l a xs ds vs ws res ds' Q m ha ho t r e q
  unfold extF at e
  split at e
  · rename_i w
    split at e
    · rename_i es hw
      obtain ⟨hl, e⟩ := if_some e
      cases e
      cases r with
      | cons rx rt =>
        cases rt
        have c := rx.cn m hw
        cases c with
        | lst h1 t1 => exact ⟨a, _, xs, _, rfl, rfl, ho, h1, by rw [t.length, t1.length]; exact hl, q _ G _ (Sub.refl _) (m.write ha (.lst (t.append t1))) .non⟩
    · cases e
  · cases e
theorem d_extend {o e : Expr} {apos cpos : Pos} (ho : PE X o (tD X.K W f)) (ha : PA X [e] (tDA X.K W fa)) (hbase : attributeBase o "extend" X.env (eval o X.env) = eval o X.env := by rfl)
    (hfew : ((backTo cpos (starEach [e] X.env)).all (fun x => !x.1) && (backToKw cpos (keywordEach [] X.env)).all (fun x => x.1.isSome) && decide (([e] : List Expr).length + ([] : List Keyword).length + (if ([] : List Keyword).isEmpty then 0 else 1) < 30)) = true := by rfl)
    (hline : (apos.endLine == cpos.line) = true := by rfl) (hs : starEach [e] X.env = (false, eval e X.env) :: starEach [] X.env := by rfl) :
    PE X (.Call (.Attribute o "extend" apos) [e] [] cpos) (tD X.K W (dMt extF f fa)) :=
  PE.weak (pe_bm PySem.F.plainAttrs_list PySem.F.slot_list_extend PySem.F.type_list_extend mt_extend ho ha hbase hfew hline hs rfl) (mt_use md_ext)
/-- pop at a place -/
@[simp] def popF : List PyData → List Wv → Mem → Option (Rv × List PyData) := fun ds ws _ => match ws with
  | [.d (.int n)] => if n.natAbs < 2 ^ 63 then (match seqIndex? n ds.length with
    | some k => (match ds[k]? with
      | some x => some (.w (.d x), ds.eraseIdx k)
      | none => none)
    | none => none) else none
  | _ => none
theorem RpAll.erase {K : PySem.W.Frag} {G : Hp} : ∀ {v : List V} {d : List PyData} (n : Nat), RpAll K G v d → RpAll K G (v.eraseIdx n) (d.eraseIdx n)
  | _, _, _, .nil => .nil
  | _, _, 0, .cons _ t => t
  | _, _, n + 1, .cons r t => .cons r (RpAll.erase n t)
theorem md_pop : MtD X rPopAt popF := by
  intro G H i M l a xs ds vs ws res ds' Q m ha ho t r e q
  unfold popF at e
  split at e
  · rename_i n
    split at e
    · rename_i hn
      cases hk : seqIndex? n ds.length with
      | none => rw [hk] at e; cases e
      | some k =>
        rw [hk] at e
        simp only at e
        cases hx : ds[k]? with
        | none => rw [hx] at e; cases e
        | some x =>
          rw [hx] at e
          cases e
          obtain ⟨y, hy, ry⟩ := t.get hx
          cases r with
          | cons rx rt =>
            cases rt
            cases rx
            exact ⟨a, xs, n, k, y, rfl, rfl, ho, by omega, by omega, by rw [t.length]; exact hk, hy, q _ G _ (Sub.refl _) (m.write ha (.lst (t.erase k))) ry⟩
    · cases e
  · cases e
theorem d_popAt {o e : Expr} {apos cpos : Pos} (ho : PE X o (tD X.K W f)) (ha : PA X [e] (tDA X.K W fa)) (hbase : attributeBase o "pop" X.env (eval o X.env) = eval o X.env := by rfl)
    (hfew : ((backTo cpos (starEach [e] X.env)).all (fun x => !x.1) && (backToKw cpos (keywordEach [] X.env)).all (fun x => x.1.isSome) && decide (([e] : List Expr).length + ([] : List Keyword).length + (if ([] : List Keyword).isEmpty then 0 else 1) < 30)) = true := by rfl)
    (hline : (apos.endLine == cpos.line) = true := by rfl) (hs : starEach [e] X.env = (false, eval e X.env) :: starEach [] X.env := by rfl) :
    PE X (.Call (.Attribute o "pop" apos) [e] [] cpos) (tD X.K W (dMt popF f fa)) :=
  PE.weak (pe_bm PySem.F.plainAttrs_list PySem.F.slot_list_pop PySem.F.type_list_pop mt_popAt ho ha hbase hfew hline hs rfl) (mt_use md_pop)
/-- remove a number -/
@[simp] def remF : List PyData → List Wv → Mem → Option (Rv × List PyData) := fun ds ws _ => match ws with
  | [.d (.int n)] => (match intsD ds with
    | some ns => if n ∈ ns then some (.w (.d .none), (ns.eraseIdx (ns.idxOf n)).map .int) else none
    | none => none)
  | _ => none
theorem RpAll.ofInts {K : PySem.W.Frag} {G : Hp} : ∀ ns : List Int, RpAll K G (ns.map V.int) (ns.map .int)
  | [] => .nil
  | n :: r => .cons (.int n) (RpAll.ofInts r)
theorem md_rem : MtD X rRemI remF := by
  intro G H i M l a xs ds vs ws res ds' Q m ha ho t r e q
  unfold remF at e
  split at e
  · rename_i n
    cases z : intsD ds with
    | none => rw [z] at e; cases e
    | some ns =>
      rw [z] at e
      obtain ⟨hn, e⟩ := if_some e
      cases e
      rw [Lf.ints_eq z] at t
      have := t.ints_eq
      subst this
      cases r with
      | cons rx rt =>
        cases rt
        cases rx
        have hlt := List.idxOf_lt_length_of_mem hn
        refine ⟨a, ns, n, ns.idxOf n, rfl, rfl, ho, ?_, fun k hk hz => ?_, q _ G _ (Sub.refl _) (m.write ha (.lst (RpAll.ofInts _))) .non⟩
        · rw [List.getElem?_eq_getElem hlt, List.getElem_idxOf]
        · have hk2 : k < ns.length := by omega
          rw [List.getElem?_eq_getElem hk2] at hz
          have := List.not_of_lt_findIdx (p := (· == n)) (xs := ns) hk
          simp at this
          exact this (Option.some.inj hz)
  · cases e
theorem d_remove {o e : Expr} {apos cpos : Pos} (ho : PE X o (tD X.K W f)) (ha : PA X [e] (tDA X.K W fa)) (hbase : attributeBase o "remove" X.env (eval o X.env) = eval o X.env := by rfl)
    (hfew : ((backTo cpos (starEach [e] X.env)).all (fun x => !x.1) && (backToKw cpos (keywordEach [] X.env)).all (fun x => x.1.isSome) && decide (([e] : List Expr).length + ([] : List Keyword).length + (if ([] : List Keyword).isEmpty then 0 else 1) < 30)) = true := by rfl)
    (hline : (apos.endLine == cpos.line) = true := by rfl) (hs : starEach [e] X.env = (false, eval e X.env) :: starEach [] X.env := by rfl) :
    PE X (.Call (.Attribute o "remove" apos) [e] [] cpos) (tD X.K W (dMt remF f fa)) :=
  PE.weak (pe_bm PySem.F.plainAttrs_list PySem.F.slot_list_remove PySem.F.type_list_remove mt_remove ho ha hbase hfew hline hs rfl) (mt_use md_rem)

/-! ### items put -/
/-- a key: a number, a string, or a tuple of these -/
def key1 : PyData → Option Key
  | .int i => some (.inl i)
  | .str x => some (.inr x)
  | _ => none
def keyT : List PyData → Option (List Key)
  | [] => some []
  | d :: r => (match key1 d, keyT r with
    | some k, some ks => some (k :: ks)
    | _, _ => none)
theorem key1_eq : ∀ {d : PyData} {k : Key}, key1 d = some k → d = kD k
  | .int i, _, h => by cases h; rfl
  | .str x, _, h => by cases h; rfl
theorem keyT_eq : ∀ {ds : List PyData} {k : List Key}, keyT ds = some k → ds = k.map kD
  | [], _, h => by cases h; rfl
  | d :: r, k, h => by
    unfold keyT at h
    cases h1 : key1 d with
    | none => rw [h1] at h; cases h
    | some k1 =>
      cases h2 : keyT r with
      | none => rw [h1, h2] at h; cases h
      | some ks => rw [h1, h2] at h; cases h; rw [key1_eq h1, keyT_eq h2]; rfl
theorem key1_kD : ∀ k : Key, key1 (kD k) = some k
  | .inl _ => rfl
  | .inr _ => rfl
theorem keyT_map : ∀ k : List Key, keyT (k.map kD) = some k
  | [] => rfl
  | k :: r => by rw [List.map_cons]; unfold keyT; rw [key1_kD, keyT_map r]
theorem kD_inj {k k' : Key} (h : kD k = kD k') : k = k' := by
  have := key1_kD k
  rw [h, key1_kD] at this
  exact (Option.some.inj this).symm
theorem kDs_inj {k k' : List Key} (h : k.map kD = k'.map kD) : k = k' := by
  have := keyT_map k
  rw [h, keyT_map] at this
  exact (Option.some.inj this).symm
theorem Rp.key1 {K : PySem.W.Frag} {G : Hp} {v : V} {k : Key} (h : Rp K G v (kD k)) : v = kV k := by
  cases k with
  | inl i => cases h; rfl
  | inr x => cases h; rfl
theorem RpAll.keys {K : PySem.W.Frag} {G : Hp} : ∀ {vs : List V} {k : List Key}, RpAll K G vs (k.map kD) → vs = k.map kV
  | _, [], h => by cases h; rfl
  | _, k :: r, h => by
    cases h with
    | cons h t => rw [h.key1, RpAll.keys t]; rfl
/-- in its place, or at the end -/
def putD (k v : PyData) (ds : List (PyData × PyData)) : List (PyData × PyData) := if (ds.any fun p => beqD p.1 k) = true then ds.map (fun p => if beqD p.1 k = true then (p.1, v) else p) else ds ++ [(k, v)]
def getD (k : PyData) : List (PyData × PyData) → Option PyData
  | [] => none
  | (k', v') :: r => if beqD k' k = true then some v' else getD k r
theorem beqD_iff {a b : PyData} : beqD a b = true ↔ a = b := ⟨beqD_eq a b, fun h => h ▸ beqD_refl a⟩
theorem beqD_tup {k k' : List Key} : beqD (.tuple (k'.map kD)) (.tuple (k.map kD)) = decide (k' = k) := by
  by_cases e : k' = k
  · rw [decide_eq_true e]; exact beqD_iff.mpr (by rw [e])
  · rw [decide_eq_false e, Bool.eq_false_iff]; exact fun z => e (kDs_inj (by have := beqD_iff.mp z; injection this))
theorem beqD_key {k k' : Key} : beqD (kD k') (kD k) = decide (k' = k) := by
  by_cases e : k' = k
  · rw [decide_eq_true e]; exact beqD_iff.mpr (by rw [e])
  · rw [decide_eq_false e, Bool.eq_false_iff]; exact fun z => e (kD_inj (beqD_iff.mp z))
theorem RpT.anyK {K : PySem.W.Frag} {G : Hp} {k : List Key} : ∀ {kvs : List (List Key × V)} {ds : List (PyData × PyData)}, RpT K G kvs ds → (kvs.any fun kv => decide (kv.1 = k)) = ds.any fun p => beqD p.1 (.tuple (k.map kD))
  | _, _, .nil => rfl
  | _, _, .cons r t => by rw [List.any_cons, List.any_cons, RpT.anyK t, beqD_tup]
theorem RpK.anyK {K : PySem.W.Frag} {G : Hp} {k : Key} : ∀ {kvs : List (Key × V)} {ds : List (PyData × PyData)}, RpK K G kvs ds → (kvs.any fun kv => decide (kv.1 = k)) = ds.any fun p => beqD p.1 (kD k)
  | _, _, .nil => rfl
  | _, _, .cons r t => by rw [List.any_cons, List.any_cons, RpK.anyK t, beqD_key]
theorem RpT.mapK {K : PySem.W.Frag} {G : Hp} {k : List Key} {v : V} {d : PyData} (r : Rp K G v d) : ∀ {kvs : List (List Key × V)} {ds : List (PyData × PyData)}, RpT K G kvs ds → RpT K G (kvs.map fun kv => if kv.1 = k then (kv.1, v) else kv) (ds.map fun p => if beqD p.1 (.tuple (k.map kD)) = true then (p.1, d) else p)
  | _, _, .nil => .nil
  | _, _, @RpT.cons _ _ k' v' vs d' ds r' t => by
    rw [List.map_cons, List.map_cons, beqD_tup]
    by_cases e : k' = k
    · rw [if_pos e, if_pos (decide_eq_true e)]; exact .cons r (RpT.mapK r t)
    · rw [if_neg e, if_neg (by simpa using e)]; exact .cons r' (RpT.mapK r t)
theorem RpK.mapK {K : PySem.W.Frag} {G : Hp} {k : Key} {v : V} {d : PyData} (r : Rp K G v d) : ∀ {kvs : List (Key × V)} {ds : List (PyData × PyData)}, RpK K G kvs ds → RpK K G (kvs.map fun kv => if kv.1 = k then (kv.1, v) else kv) (ds.map fun p => if beqD p.1 (kD k) = true then (p.1, d) else p)
  | _, _, .nil => .nil
  | _, _, @RpK.cons _ _ k' v' vs d' ds r' t => by
    rw [List.map_cons, List.map_cons, beqD_key]
    by_cases e : k' = k
    · rw [if_pos e, if_pos (decide_eq_true e)]; exact .cons r (RpK.mapK r t)
    · rw [if_neg e, if_neg (by simpa using e)]; exact .cons r' (RpK.mapK r t)
theorem RpT.end_ {K : PySem.W.Frag} {G : Hp} {k : List Key} {v : V} {d : PyData} (r : Rp K G v d) : ∀ {kvs : List (List Key × V)} {ds : List (PyData × PyData)}, RpT K G kvs ds → RpT K G (kvs ++ [(k, v)]) (ds ++ [(.tuple (k.map kD), d)])
  | _, _, .nil => .cons r .nil
  | _, _, .cons r' t => .cons r' (RpT.end_ r t)
theorem RpK.end_ {K : PySem.W.Frag} {G : Hp} {k : Key} {v : V} {d : PyData} (r : Rp K G v d) : ∀ {kvs : List (Key × V)} {ds : List (PyData × PyData)}, RpK K G kvs ds → RpK K G (kvs ++ [(k, v)]) (ds ++ [(kD k, d)])
  | _, _, .nil => .cons r .nil
  | _, _, .cons r' t => .cons r' (RpK.end_ r t)
theorem RpT.put {K : PySem.W.Frag} {G : Hp} {k : List Key} {v : V} {d : PyData} (r : Rp K G v d) {kvs : List (List Key × V)} {ds : List (PyData × PyData)} (t : RpT K G kvs ds) : RpT K G (putK kvs k v) (putD (.tuple (k.map kD)) d ds) := by
  unfold putK putD
  rw [t.anyK]
  split
  · exact t.mapK r
  · exact t.end_ r
theorem RpK.put {K : PySem.W.Frag} {G : Hp} {k : Key} {v : V} {d : PyData} (r : Rp K G v d) {kvs : List (Key × V)} {ds : List (PyData × PyData)} (t : RpK K G kvs ds) : RpK K G (putK kvs k v) (putD (kD k) d ds) := by
  unfold putK putD
  rw [t.anyK]
  split
  · exact t.mapK r
  · exact t.end_ r
theorem RpT.val {K : PySem.W.Frag} {G : Hp} {k : List Key} : ∀ {kvs : List (List Key × V)} {ds : List (PyData × PyData)}, RpT K G kvs ds → (valV kvs k = none ∧ getD (.tuple (k.map kD)) ds = none) ∨ ∃ v d, valV kvs k = some v ∧ getD (.tuple (k.map kD)) ds = some d ∧ Rp K G v d
  | _, _, .nil => .inl ⟨rfl, rfl⟩
  | _, _, @RpT.cons _ _ k' v' vs d' ds r' t => by
    unfold getD
    by_cases e : k' = k
    · rw [if_pos (beqD_iff.mpr (by rw [e]))]
      exact .inr ⟨v', d', valV_pos e, rfl, r'⟩
    · rw [if_neg (fun z => e (kDs_inj (by have := beqD_iff.mp z; injection this))), valV_neg e]
      exact RpT.val t
theorem RpK.val {K : PySem.W.Frag} {G : Hp} {k : Key} : ∀ {kvs : List (Key × V)} {ds : List (PyData × PyData)}, RpK K G kvs ds → (valV kvs k = none ∧ getD (kD k) ds = none) ∨ ∃ v d, valV kvs k = some v ∧ getD (kD k) ds = some d ∧ Rp K G v d
  | _, _, .nil => .inl ⟨rfl, rfl⟩
  | _, _, @RpK.cons _ _ k' v' vs d' ds r' t => by
    unfold getD
    by_cases e : k' = k
    · rw [if_pos (beqD_iff.mpr (by rw [e]))]
      exact .inr ⟨v', d', valV_pos e, rfl, r'⟩
    · rw [if_neg (fun z => e (kD_inj (beqD_iff.mp z))), valV_neg e]
      exact RpK.val t

/-! ### an empty dict is of either kind -/
theorem ObjOk.toT {P : Program} {w : World} {H H' : Hp} {h : Heap} {a : Addr} (x : ObjOk P w H h a (.dK [])) : ObjOk P w H' h a (.dT []) := by
  obtain ⟨z, y, vs, r, ob, es, ep, e, c, d, k, p, n⟩ := x
  cases r
  cases hes : es.toList with
  | nil => exact ⟨Nat.zero_le _, y, [], .nil, ob, es, ep, e, c, d, hes, List.nodup_nil⟩
  | cons a b => rw [hes] at p; cases p
theorem ObjOk.toK {P : Program} {w : World} {H H' : Hp} {h : Heap} {a : Addr} (x : ObjOk P w H h a (.dT [])) : ObjOk P w H' h a (.dK []) := by
  obtain ⟨z, y, vs, r, ob, es, ep, e, c, d, he, n⟩ := x
  cases r
  have he0 : es = #[] := by
    apply Array.ext'
    simpa using he
  subst he0
  exact ⟨Nat.zero_le _, y, [], .nil, ob, #[], ep, e, c, d, (by intro en hen; simp at hen), (by exact .nil), List.nodup_nil⟩
end
end Lf

set_option Elab.async false
set_option linter.all false
set_option maxRecDepth 100000
set_option maxHeartbeats 4000000
/-! Lay14: items put, empty dicts, sets. -/
namespace Lf
open PySem PySem.Spec PyProof.Rows L2
section
variable {X : Cx} {pins : List (Addr × Obj)} {σ : L2.St} {H : Hp} {s : Shared} {a : Addr}
theorem Inv.toT (I : Inv X pins σ H s) (h : H a = some (.dK [])) : Inv X pins σ (upd H a (.dT [])) s := by
  have o := I.hok a _ h
  obtain ⟨z, y, vs, r, ob, es, ep, e, _⟩ := id o
  exact I.write (x := a) (e := a) (o := .dT []) (h' := s.heap) (t' := s.toks) (by rw [h]; trivial) (.inl rfl) (fun b u _ e => e) ⟨_, e⟩ (ObjOk.toT o)
theorem Inv.toK (I : Inv X pins σ H s) (h : H a = some (.dT [])) : Inv X pins σ (upd H a (.dK [])) s := by
  have o := I.hok a _ h
  obtain ⟨z, y, vs, r, ob, es, ep, e, _⟩ := id o
  exact I.write (x := a) (e := a) (o := .dK []) (h' := s.heap) (t' := s.toks) (by rw [h]; trivial) (.inl rfl) (fun b u _ e => e) ⟨_, e⟩ (ObjOk.toK o)
/-- a[y] = v, an empty dict of either kind -/
def DPutX (H : Hp) (a : Addr) (y v : V) (H' : Hp) : Prop := DPut H a y v H' ∨ (H a = some (.dK []) ∧ DPut (upd H a (.dT [])) a y v H') ∨ (H a = some (.dT []) ∧ DPut (upd H a (.dK [])) a y v H')
def rSetDX : TSet := fun o i v H Q => ∃ a H', o = .ref a ∧ DPutX H a i v H' ∧ Q H'
theorem set_dictX (hu : X.A.units + 1 < cLine) : PSet X rSetDX := by
  intro pins s σ H o i v ov iv u Q I ro ri rv h
  obtain ⟨a, H', rfl, g, q⟩ := h
  rcases g with g | ⟨h0, g⟩ | ⟨h0, g⟩
  · exact set_dict hu pins s σ H _ i v ov iv u Q I ro ri rv ⟨a, H', rfl, g, q⟩
  · exact set_dict hu pins s σ _ _ i v ov iv u Q (Inv.toT I h0) ro ri rv ⟨a, H', rfl, g, q⟩
  · exact set_dict hu pins s σ _ _ i v ov iv u Q (Inv.toK I h0) ro ri rv ⟨a, H', rfl, g, q⟩
theorem PSet.or {t t' : TSet} (h : PSet X t) (h' : PSet X t') : PSet X (fun o i v H Q => t o i v H Q ∨ t' o i v H Q) := by
  intro pins s σ H o i v ov iv u Q I ro ri rv q
  rcases q with q | q
  · exact h pins s σ H o i v ov iv u Q I ro ri rv q
  · exact h' pins s σ H o i v ov iv u Q I ro ri rv q
end
@[simp] def flatKeys : List (PyData × PyData) → Bool
  | [] => true
  | (.tuple _, _) :: _ => false
  | _ :: r => flatKeys r
/-- the key fits the dict -/
@[simp] def keyOk (k : PyData) (ds : List (PyData × PyData)) : Bool := match k with
  | .tuple ks => (keyT ks).isSome && tupKeys ds
  | k => (key1 k).isSome && flatKeys ds
@[simp] def setR (o k x : Wv) (e : En) (M : Mem) : SAns := match o, x with
  | .r l, .d v => (match M[l]?, k with
    | some (.list ds), .d (.int n) => (match ixN ds.length n with
      | some j => .next e (M.set l (.list (ds.set j v)))
      | none => .bad)
    | some (.dict ds), .d k => if keyOk k ds = true ∧ ds.length < sizeLine then .next e (M.set l (.dict (putD k v ds))) else .bad
    | _, _ => .bad)
  | _, _ => .bad
@[simp] def sSet (fv fo fi : Den) : DenS := fun e M => (fv e M).go e fun x M1 => (fo e M1).go e fun o M2 => (fi e M2).go e fun k M3 => setR o.fz k.fz x.fz e M3
section
variable {K : PySem.W.Frag} {W : WX} {G G' H H' : Hp} {i : List Addr} {M M' : Mem} {e : En} {s : L2.St} {D : Ends}
theorem tD.goSW {f : Den} {k : Rv → Mem → SAns} {P : V → Hp → Prop}
    (he : EnvR K G i e s) (hm : MemR K G H i M) (h : AskS K W G i D ((f e M).go e k))
    (c : ∀ v r M1 G1 H1, Sub G G1 → MemR K G1 H1 i M1 → RpW K G1 i v r.fz → AskS K W G1 i D (k r M1) → P v H1) : tD K W f s H P :=
  tG.goS he hm h fun v r M1 G1 H1 h1 h2 h3 h4 => by
    obtain ⟨G2, a, b, c2⟩ := h3.fz h2
    exact c v r M1 G2 H1 (h1.trans a) b c2 (AskS.mono a (List.prefix_refl _) h4)
theorem tupKeys_dK {kvs : List (Key × V)} {ds : List (PyData × PyData)} (h : RpK K G kvs ds) (t : tupKeys ds = true) : kvs = [] := by
  cases h with
  | nil => rfl
  | @cons k _ _ _ _ _ _ => cases k <;> simp [kD] at t
theorem flatKeys_dT {kvs : List (List Key × V)} {ds : List (PyData × PyData)} (h : RpT K G kvs ds) (t : flatKeys ds = true) : kvs = [] := by
  cases h with
  | nil => rfl
  | cons _ _ => simp at t
theorem putX {l : Nat} {a : Addr} {o : HO} {ds : List (PyData × PyData)} {key x : PyData} {kv v : V} (m : MemR K G H i M) (ha : i[l]? = some a) (ho : H a = some o) (hc : ObR K G o (.dict ds)) (hk : keyOk key ds = true) (hl : ds.length < sizeLine) (rk : Rp K G kv key) (rv : Rp K G v x) :
    ∃ H', DPutX H a kv v H' ∧ MemR K G H' i (M.set l (.dict (putD key x ds))) := by
  have upd2 : ∀ {o1 o2 : HO}, upd (upd H a o1) a o2 = upd H a o2 := fun {o1 o2} => by
    funext b
    by_cases hb : b = a
    · subst hb; rw [upd_same, upd_same]
    · rw [upd_ne hb, upd_ne hb, upd_ne hb]
  have flat : ∀ k : Key, kv = kV k → key = kD k → flatKeys ds = true → ∃ H', DPutX H a kv v H' ∧ MemR K G H' i (M.set l (.dict (putD key x ds))) := by
    intro k e1 e2 hf
    subst e1 e2
    cases hc with
    | @dT kvs _ t =>
      have := flatKeys_dT t hf
      subst this
      cases t
      have w := m.write ha (.dK ((RpK.nil (K := K) (G := G)).put (k := k) rv))
      exact ⟨_, .inr (.inr ⟨ho, .inl ⟨[], k, upd_same, rfl, Nat.lt_of_le_of_lt (Nat.zero_le _) hl, rfl⟩⟩), by rw [upd2]; exact w⟩
    | @dK kvs _ t => exact ⟨_, .inl (.inl ⟨kvs, k, ho, rfl, by rw [t.length]; exact hl, rfl⟩), m.write ha (.dK (t.put rv))⟩
  cases key with
  | int n => cases rk; simp only [keyOk, Bool.and_eq_true] at hk; exact flat (.inl n) rfl rfl hk.2
  | str z => cases rk; simp only [keyOk, Bool.and_eq_true] at hk; exact flat (.inr z) rfl rfl hk.2
  | tuple ks =>
    simp only [keyOk, Bool.and_eq_true] at hk
    cases hks : keyT ks with
    | none => rw [hks] at hk; simp at hk
    | some k =>
      have := keyT_eq hks
      subst this
      cases rk with
      | @tup b xs _ hb tb =>
        have := tb.keys
        subst this
        have hb2 : H b = some (.tup (k.map kV)) := m.sub _ _ hb
        cases hc with
        | @dT kvs _ t => exact ⟨_, .inl (.inr ⟨kvs, k, b, ho, rfl, hb2, by rw [t.length]; exact hl, rfl⟩), m.write ha (.dT (t.put rv))⟩
        | @dK kvs _ t =>
          have := tupKeys_dK t hk.2
          subst this
          cases t
          have w := m.write ha (.dT ((RpT.nil (K := K) (G := G)).put (k := k) rv))
          have hne : b ≠ a := fun z => by subst z; rw [ho] at hb2; cases hb2
          exact ⟨_, .inr (.inl ⟨ho, .inr ⟨[], k, b, upd_same, rfl, by rw [upd_ne hne]; exact hb2, Nat.lt_of_le_of_lt (Nat.zero_le _) hl, rfl⟩⟩), by rw [upd2]; exact w⟩
  | _ => simp [keyOk, key1] at hk
end
section
variable {X : Cx} {W : WX} {f g h : Den} {fa : En → Mem → Ans (List Wv)} {pos : Pos}
theorem s_set {o i e : Expr} {tpos : Pos} {k : Nat} (hr : Room k X.A) (he : PE X e (tD X.K W f)) (ho : PE X o (tD X.K W g)) (hi : PE X i (tD X.K W h))
    (ha : ∀ v, assign (.Subscript o i tpos) X.env v = (do
      let ov ← holding [v] (eval o X.env)
      let iv ← holding [v, ov] (eval i X.env)
      standAt tpos
      holding [v, ov, iv] (setItem ov iv v)
      release [v, ov, iv] []) := by intro _; rfl)
    (hs : swapsWithSole [.Subscript o i tpos] e pos.line X.env = pure false := by rfl) (hw : swappedStores [.Subscript o i tpos] e X.env = pure none := by rfl)
    (h1 : (assignEach [.Subscript o i tpos] X.env).map (·.2) = [assign (.Subscript o i tpos) X.env] := by rfl) : PS X (.Assign [.Subscript o i tpos] e pos) (tDS X.K W (sSet f g h)) :=
  PS.weak (ps_asg he (pg_sub ho hi (PSet.or set_list (set_dictX (by have := units65 hr; omega))) ha) hs hw h1) fun D s H q => by
    obtain ⟨G, i, e, M, he, hm, q⟩ := q
    refine tD.goSW he hm q fun v x M1 G1 H1 s1 m1 r1 q => ?_
    show tD X.K W g s H1 _
    refine tD.goSW (he.mono s1 (List.prefix_refl _)) m1 q fun ov o M2 G2 H2 s2 m2 r2 q => ?_
    refine tD.goSW (he.mono (s1.trans s2) (List.prefix_refl _)) m2 q fun iv k M3 G3 H3 s3 m3 r3 q => ?_
    have he3 := he.mono ((s1.trans s2).trans s3) (List.prefix_refl i)
    have r1 := r1.mono (s2.trans s3) (List.prefix_refl i)
    have r2 := r2.mono s3 (List.prefix_refl i)
    unfold setR at q
    split at q
    · rename_i l v' eo ex
      rw [eo] at r2
      rw [ex] at r1
      obtain ⟨a, ha, rfl⟩ := r2
      split at q
      · rename_i ds n hM ek
        rw [ek] at r3
        cases r3
        obtain ⟨ob, ho, hc⟩ := m3.at_ l a _ ha hM
        cases hc with
        | @lst xs _ t =>
          cases hj : ixN ds.length n with
          | none => rw [hj] at q; exact q.elim
          | some j =>
            rw [hj] at q
            exact .inl ⟨a, xs, n, j, rfl, rfl, ho, by rw [t.length]; exact hj, q s G3 i _ (Sub.refl _) (List.prefix_refl _) he3 (m3.write ha (.lst (t.set r1 j)))⟩
      · rename_i ds key hM ek
        rw [ek] at r3
        split at q
        · rename_i hk
          obtain ⟨ob, ho, hc⟩ := m3.at_ l a _ ha hM
          obtain ⟨H', hp, m4⟩ := putX m3 ha ho hc hk.1 hk.2 r3 r1
          exact .inr ⟨a, H', rfl, hp, q s G3 i _ (Sub.refl _) (List.prefix_refl _) he3 m4⟩
        · exact q.elim
      · exact q.elim
    · exact q.elim
@[simp] def dDict : Den := fun _ M => .val (.own (.dict [])) M
theorem d_dict : PE X (.Dict [] [] pos) (tD X.K W dDict) := PE.weak pe_dnewK fun s H Q q => by
  obtain ⟨G, i, e, M, he, hm, q⟩ := q
  exact fun p hp => q (.ref p) G _ (Sub.refl _) (hm.grow hp) ⟨p, _, rfl, hm.gfree hp, hm.notin hp, upd_same, .dK .nil⟩
end
end Lf

set_option Elab.async false
set_option linter.all false
set_option maxRecDepth 100000
set_option maxHeartbeats 4000000
/-! Lay15: sorted(set(xs)); rows of numbers. -/
namespace Lf
open PySem PySem.Spec PyProof.Rows L2
open PySem.W (EachIs dataLe AllAlike Sortable alike alikeAll)
/-- a tuple of numbers -/
def tI (ns : List Int) : PyData := .tuple (ns.map .int)
theorem tI_inj {a b : List Int} (h : tI a = tI b) : a = b := by
  have h : a.map PyData.int = b.map .int := by injection h
  have := ints_map a
  rw [h, ints_map] at this
  exact (Option.some.inj this).symm
/-- tuples of numbers -/
def tupsD : List PyData → Option (List (List Int))
  | [] => some []
  | .tuple ds :: r => (match intsD ds, tupsD r with
    | some ns, some l => some (ns :: l)
    | _, _ => none)
  | _ :: _ => none
theorem tupsD_eq : ∀ {ds : List PyData} {l : List (List Int)}, tupsD ds = some l → ds = l.map tI
  | [], _, h => by cases h; rfl
  | d :: r, l, h => by
    cases d with
    | tuple ds =>
      unfold tupsD at h
      cases h1 : intsD ds with
      | none => rw [h1] at h; cases h
      | some ns =>
        cases h2 : tupsD r with
        | none => rw [h1, h2] at h; cases h
        | some t =>
          rw [h1, h2] at h
          cases h
          rw [List.map_cons, ← tupsD_eq h2, ints_eq h1]; rfl
    | _ => cases h
theorem tupsD_map : ∀ l : List (List Int), tupsD (l.map tI) = some l
  | [] => rfl
  | ns :: l => by
    rw [List.map_cons]
    show (match intsD (ns.map .int), tupsD (l.map tI) with
      | some ns, some l => some (ns :: l)
      | _, _ => none) = _
    rw [ints_map, tupsD_map l]
/-- sorted rows -/
def leT (a b : List Int) : Bool := decide (a ≤ b)
def sortT (l : List (List Int)) : List (List Int) := l.mergeSort leT
theorem dataLe_tups : dataLe false tI = leT := by
  funext p q
  show (!PySem.W.dataLt (tI q) (tI p)) = _
  unfold tI
  rw [PySem.W.dataLt_tuple]
  show (!PySem.W.rowLt (q.map .int) (p.map .int)) = _
  rw [PySem.W.dataLt_ints]
  unfold leT
  by_cases h : q < p
  · have h' : ¬ p ≤ q := fun r => List.not_lt.mpr r h
    simp [h, h']
  · have h' : p ≤ q := List.not_lt.mp h
    simp [h, h']
theorem sortD_tups (l : List (List Int)) : sortD (l.map tI) = (sortT l).map tI := by
  unfold sortD sortT
  have := PySem.W.sort_maps (r := leT) (s := dataLe false id) (l := l) tI (fun a _ b _ => by
    rw [← dataLe_tups]
    rfl)
  exact this.symm
theorem leT_trans (a b c : List Int) (h : leT a b = true) (k : leT b c = true) : leT a c = true := by
  unfold leT at *
  simp only [decide_eq_true_eq] at *
  exact List.le_trans h k
theorem leT_total (a b : List Int) : (leT a b || leT b a) = true := by
  unfold leT
  simp only [Bool.or_eq_true, decide_eq_true_eq]
  exact List.le_total a b
theorem leT_anti {a b : List Int} (h : leT a b = true) (k : leT b a = true) : a = b := by
  unfold leT at *
  simp only [decide_eq_true_eq] at *
  exact List.le_antisymm h k
theorem sortT_sorted (l : List (List Int)) : (sortT l).Pairwise fun a b => leT a b = true := List.pairwise_mergeSort leT_trans leT_total l
theorem sortT_perm (l : List (List Int)) : (sortT l).Perm l := List.mergeSort_perm l leT
theorem sorted_eq : ∀ {a b : List (List Int)}, a.Perm b → a.Pairwise (fun x y => leT x y = true) → b.Pairwise (fun x y => leT x y = true) → a = b := by
  intro a b p h k
  exact p.eq_of_pairwise (le := fun x y => leT x y = true) (fun x y _ _ h1 h2 => leT_anti h1 h2) h k
theorem sortT_congr {a b : List (List Int)} (h : a.Perm b) : sortT a = sortT b := sorted_eq ((sortT_perm a).trans (h.trans (sortT_perm b).symm)) (sortT_sorted a) (sortT_sorted b)
/-- each once -/
def dd : List (List Int) → List (List Int)
  | [] => []
  | x :: r => if x ∈ r then dd r else x :: dd r
theorem mem_dd {x : List Int} : ∀ {l : List (List Int)}, x ∈ dd l ↔ x ∈ l
  | [] => Iff.rfl
  | y :: r => by
    unfold dd
    split
    · rename_i h
      rw [mem_dd (l := r)]
      constructor
      · exact List.mem_cons_of_mem _
      · intro z
        rcases List.mem_cons.mp z with rfl | z
        · exact h
        · exact z
    · rw [List.mem_cons, List.mem_cons, mem_dd (l := r)]
theorem nodup_dd : ∀ l : List (List Int), (dd l).Nodup
  | [] => List.nodup_nil
  | y :: r => by
    unfold dd
    split
    · exact nodup_dd r
    · rename_i h
      exact List.nodup_cons.mpr ⟨fun z => h (mem_dd.mp z), nodup_dd r⟩
theorem length_dd : ∀ l : List (List Int), (dd l).length ≤ l.length
  | [] => Nat.le_refl _
  | y :: r => by
    unfold dd
    have := length_dd r
    split
    · rw [List.length_cons]; omega
    · rw [List.length_cons, List.length_cons]; omega
/-! what sorted takes -/
theorem alike_ints : ∀ a b : List Int, alikeAll (a.map .int) (b.map .int) = true
  | [], _ => by simp [alikeAll]
  | _ :: _, [] => by simp [alikeAll]
  | x :: a, y :: b => by
    rw [List.map_cons, List.map_cons, alikeAll, alike_ints a b, Bool.and_true]
    simp [alike]
theorem depthAll_ints : ∀ a : List Int, PyData.depthAll (a.map .int) ≤ 1
  | [] => by simp [PyData.depthAll]
  | x :: a => by
    have := depthAll_ints a
    rw [List.map_cons]
    simp only [PyData.depthAll, PyData.depth]
    omega
theorem canLay_ints : ∀ a : List Int, PyData.canLayAll0 (a.map .int) = true
  | [] => rfl
  | x :: a => by
    rw [List.map_cons]
    simp [PyData.canLayAll0, PyData.canLay0, canLay_ints a]
theorem canLay_tups : ∀ a : List (List Int), PyData.canLayAll0 (a.map tI) = true
  | [] => rfl
  | x :: a => by
    rw [List.map_cons]
    simp [PyData.canLayAll0, PyData.canLay0, canLay_ints x, canLay_tups a, tI]
theorem sortOk_tups {l : List (List Int)} (hl : l.length ≤ sizeLine) (h : l.length ≤ 1 ∨ ∀ x ∈ l, x ≠ []) : sortOk (l.map tI) = true := by
  unfold sortOk
  simp only [Bool.and_eq_true, Bool.or_eq_true, List.all_eq_true, decide_eq_true_eq, List.length_map, List.mem_map]
  refine ⟨⟨⟨⟨?_, ?_⟩, hl⟩, canLay_tups l⟩, ?_⟩
  · rintro _ ⟨a, _, rfl⟩ _ ⟨b, _, rfl⟩
    unfold tI
    rw [alike]
    exact alike_ints a b
  · rintro _ ⟨a, _, rfl⟩
    have := depthAll_ints a
    unfold tI
    simp only [PyData.depth]
    omega
  · rcases h with h | h
    · exact .inl (.inl ⟨h, by rintro _ ⟨a, _, rfl⟩; rfl⟩)
    · refine .inl (.inr ?_)
      rintro _ ⟨a, ha, rfl⟩
      cases a with
      | nil => exact absurd rfl (h _ ha)
      | cons x r => rfl

/-! ### sorted(set(xs)) -/
section
variable {X : Cx} {W : WX} {f g h : Den} {fa : En → Mem → Ans (List Wv)} {pos : Pos}
def rSortSet (X : Cx) : List V → Hp → VK → Prop := fun vs H Q => ∃ (a : Addr) (L : List (Addr × List Int)), vs = [V.ref a] ∧ H a = some (SetTO X.prog X.w a L) ∧ (∀ p ∈ L, SqT X.K H p.1 (p.2.map V.int)) ∧
  (∀ L' : List (Addr × List Int), L'.Perm L → (L'.map (·.2)).Nodup → sortOk (L'.map fun q => tI q.2) = true) ∧
  ∀ (L' : List (Addr × List Int)) (p : Addr), L'.Perm L → (L'.map (·.2)).Nodup → H p = none → Q (.ref p) (upd H p (.lst ((((L'.map fun q => V.ref q.1).zip (L'.map fun q => tI q.2)).mergeSort (dataLe false Prod.snd)).map Prod.fst)))
theorem dp_tups {K : PySem.W.Frag} {H : Hp} : ∀ {L : List (Addr × List Int)}, (∀ p ∈ L, SqT K H p.1 (p.2.map V.int)) → DpAll K H (L.map fun q => V.ref q.1) (L.map fun q => tI q.2)
  | [], _ => .nil
  | q :: L, h => .cons (.tup (h q List.mem_cons_self) (by
      have : ∀ ns : List Int, DpAll K H (ns.map V.int) (ns.map .int) := fun ns => by
        induction ns with
        | nil => exact .nil
        | cons n r ih => exact .cons (.int n) ih
      exact this _)) (dp_tups fun p hp => h p (List.mem_cons_of_mem _ hp))
theorem cr_sortSet {k : Nat} (hc : X.calm = true) (hr : Room k X.A) : CallR X (.builtin "sorted") (rSortSet X) := by
  intro pins s σ H vs us Q I r h
  obtain ⟨a, L, rfl, ha, hk, hok, q⟩ := h
  have R0 : SetT0 X.prog X.w s.heap a L := (I.hok a _ ha).1
  obtain ⟨es, ep, t, R⟩ := R0.full fun p hp => I.isT (hk p hp)
  rw [Vals.ref1 r]
  refine sorted_gen (Good := fun xs ds => ∃ L' : List (Addr × List Int), L'.Perm L ∧ xs = L'.map (fun q => V.ref q.1) ∧ ds = L'.map fun q => tI q.2) I hr (fun Rr E kk => ?_) (fun xs ds g => ?_) (fun xs ds p g hp => ?_)
  · obtain ⟨o, ho, hex, hd⟩ := R.ob
    have hsz := R.size
    have hfew := R.few
    refine collect_set (A := X.A.in1) (I.ok.hd hc) ⟨o, ho, hex.1, hd⟩ R.fits (by unfold scanBound; omega) R.tab.ris R.led fun s1 vs k1 hz g1 o1 pm => ?_
    have hes : es.toList.map (·.2) = L.map fun q => Value.ref q.1 := by
      rw [R.rows]
      unfold rowsOf
      rw [List.map_map] <;> rfl
    rw [hes] at pm
    have ord : ∀ vs : List Value, (∀ v ∈ vs, ∃ q ∈ L, v = Value.ref q.1) → ∃ L1 : List (Addr × List Int), vs = L1.map (fun q => Value.ref q.1) ∧ ∀ q ∈ L1, q ∈ L := by
      intro vs
      induction vs with
      | nil => intro _; exact ⟨[], rfl, fun q hq => (by cases hq)⟩
      | cons v vs ih =>
        intro hv
        obtain ⟨q, hq, e⟩ := hv v List.mem_cons_self
        obtain ⟨L1, e1, hs⟩ := ih fun u hu => hv u (List.mem_cons_of_mem _ hu)
        refine ⟨q :: L1, by rw [List.map_cons, e, e1], fun r hr => ?_⟩
        rcases List.mem_cons.mp hr with z | z
        · rw [z]; exact hq
        · exact hs r z
    have one : ∀ q ∈ L, ∀ r ∈ L, q.1 = r.1 → q = r := fun q hq r hr e => by
      have a1 := R.tup q hq
      have a2 := R.tup r hr
      rw [e] at a1
      have e2 : q.2 = r.2 := a1.inj a2
      exact Prod.ext e e2
    have perm_of : ∀ L1 : List (Addr × List Int), (∀ q ∈ L1, q ∈ L) → (L1.map (fun q => Value.ref q.1)).Perm (L.map fun q => Value.ref q.1) → L1.Perm L := by
      intro L1 hs pm1
      have nL : L.Nodup := nodup_of_map R.nd
      have nref : (L.map fun q => Value.ref q.1).Nodup := by
        refine List.pairwise_map.mpr (List.Pairwise.imp_of_mem (fun {q r} hq hr hne e => ?_) nL)
        injection e with e
        exact hne (one q hq r hr e)
      have n1 : L1.Nodup := nodup_of_map (pm1.nodup_iff.mpr nref)
      refine (List.perm_ext_iff_of_nodup n1 nL).mpr fun q => ⟨hs q, fun hq => ?_⟩
      have hm : Value.ref q.1 ∈ L1.map (fun q => Value.ref q.1) := pm1.mem_iff.mpr (List.mem_map.mpr ⟨q, hq, rfl⟩)
      obtain ⟨r, hr, e⟩ := List.mem_map.mp hm
      injection e with e
      rw [← one r (hs r hr) q hq e]
      exact hr
    obtain ⟨L', e', hs'⟩ := ord vs fun v hv => by
      obtain ⟨q, hq, e⟩ := List.mem_map.mp (pm.mem_iff.mp hv)
      exact ⟨q, hq, e.symm⟩
    subst e'
    exact kk s1 _ _ _ k1 g1 o1 ⟨L', perm_of L' hs' pm, rfl, rfl⟩ (vals_of_refs L')
  · obtain ⟨L', pm, rfl, rfl⟩ := g
    exact ⟨dp_tups fun p hp => hk p (pm.mem_iff.mp hp), hok L' pm ((pm.map (·.2)).nodup_iff.mpr R.nd)⟩
  · obtain ⟨L', pm, rfl, rfl⟩ := g
    exact q L' p pm ((pm.map (·.2)).nodup_iff.mpr R.nd) hp
/-- sorted(set(xs)), xs a list of tuples of numbers -/
@[simp] def setF : PyData → Option Rv
  | .list ds => (match tupsD ds with
    | some l => if l.length < 64 ∧ ((dd l).length ≤ 1 ∨ (l.all fun x => !x.isEmpty) = true) then some (.own (.list ((sortT (dd l)).map tI))) else none
    | none => none)
  | _ => none
theorem RpAll.tups {K : PySem.W.Frag} {G : Hp} : ∀ {xs : List V} {l : List (List Int)}, RpAll K G xs (l.map tI) → ∃ ks : List (Addr × List Int), xs = ks.map (fun p => V.ref p.1) ∧ l = ks.map (·.2) ∧ ∀ p ∈ ks, G p.1 = some (.tup (p.2.map V.int))
  | _, [], h => by cases h; exact ⟨[], rfl, rfl, fun p hp => by cases hp⟩
  | _, ns :: l, h => by
    cases h with
    | cons h t =>
      obtain ⟨ks, e1, e2, e3⟩ := RpAll.tups t
      cases h with
      | @tup a xs _ h1 h2 =>
        have := h2.ints_eq
        subst this
        exact ⟨(a, ns) :: ks, by rw [e1]; rfl, by rw [e2]; rfl, fun p hp => by
          rcases List.mem_cons.mp hp with rfl | hp
          · exact h1
          · exact e3 p hp⟩
theorem d_sortedSet {p p2 pos2 : Pos} {e : Expr} {k : Nat} (hc : X.calm = true) (hr : Room k X.A) (hm : X.mg "sorted" = none) (hm2 : X.mg "set" = none) (ha : PA X [e] (tDA X.K W fa)) (hg : Gl X "sorted" := by rfl) (hg2 : Gl X "set" := by rfl)
    (he : starEach [e] X.env = (false, eval e X.env) :: starEach [] X.env := by rfl) (he2 : starEach [Expr.Call (.Name "set" p2) [e] [] pos2] X.env = (false, eval (Expr.Call (.Name "set" p2) [e] [] pos2) X.env) :: starEach [] X.env := by rfl) :
    PE X (.Call (.Name "sorted" p) [.Call (.Name "set" p2) [e] [] pos2] [] pos) (tD X.K W (dCB (one setF) fa)) :=
  PE.weak (pe_callB (cr_sortSet hc hr) hg hm (by decide +kernel) (pa_cons (pe_callTy (cr_setOfT hc (by have := units65 hr; omega)) hg2 hm2 PyProof.Rows.boot_set ha (by decide) (by decide) he rfl) pa_nil he2) (by decide) (by decide) he2 rfl) fun s H Q q => by
    obtain ⟨G, i, e, M, he, hm, q⟩ := q
    refine tG.go he hm q fun vs ws M1 G1 H1 s1 m1 r1 q => ?_
    unfold cbR at q
    cases z : one setF ws M1 with
    | none => rw [z] at q; exact q.elim
    | some res =>
      rw [z] at q
      obtain ⟨v, d, rfl, c, e⟩ := one_use m1 r1 z
      cases d with
      | list ds =>
        obtain ⟨p, xs, rfl, h1, h2⟩ := c.list
        replace e : (match tupsD ds with
          | some l => if l.length < 64 ∧ ((dd l).length ≤ 1 ∨ (l.all fun x => !x.isEmpty) = true) then some (Rv.own (.list ((sortT (dd l)).map tI))) else none
          | none => none) = some res := e
        cases ht : tupsD ds with
        | none => rw [ht] at e; cases e
        | some l =>
          rw [ht] at e
          obtain ⟨⟨hl, hne⟩, e⟩ := if_some e
          subst e
          rw [tupsD_eq ht] at h2
          obtain ⟨ks, e1, e2, e3⟩ := h2.tups
          subst e1
          have hks : ∀ p ∈ ks, SqT X.K H1 p.1 (p.2.map V.int) := fun p hp => m1.sub.t (e3 p hp)
          refine ⟨p, ks, rfl, h1, hks, by rw [e2, List.length_map] at hl; exact hl, fun a L hfa hL1 hL2 => ?_⟩
          have s0 : Sub H1 (upd H1 a (SetTO X.prog X.w a L)) := Sub.new hfa
          have pm : (L.map (·.2)).Nodup → (L.map (·.2)).Perm (dd l) := fun nd => (List.perm_ext_iff_of_nodup nd (nodup_dd l)).mpr fun x => by
            rw [mem_dd, e2]
            constructor
            · intro hx
              obtain ⟨q, hq, rfl⟩ := List.mem_map.mp hx
              exact List.mem_map_of_mem (hL1 q hq)
            · intro hx
              obtain ⟨q, hq, rfl⟩ := List.mem_map.mp hx
              exact hL2 q hq
          refine ⟨a, L, rfl, upd_same, fun p hp => s0.t2 (hks p (hL1 p hp)), fun L' hp nd => ?_, fun L' p hp nd hfp => ?_⟩
          · have pm' : (L'.map (·.2)).Perm (dd l) := (hp.map (·.2)).trans (pm ((hp.map (·.2)).nodup_iff.mp nd))
            have e5 : L'.map (fun q => tI q.2) = (L'.map (·.2)).map tI := by rw [List.map_map]; rfl
            rw [e5]
            have hlen : (L'.map (·.2)).length = (dd l).length := pm'.length_eq
            have := length_dd l
            refine sortOk_tups (by rw [hlen, sizeLine_eq]; omega) ?_
            rcases hne with hne | hne
            · exact .inl (by rw [hlen]; exact hne)
            · refine .inr fun x hx => ?_
              have := (List.all_eq_true.mp hne) x (mem_dd.mp (pm'.mem_iff.mp hx))
              simpa using this
          · have pm' : (L'.map (·.2)).Perm (dd l) := (hp.map (·.2)).trans (pm ((hp.map (·.2)).nodup_iff.mp nd))
            have e5 : L'.map (fun q => tI q.2) = (L'.map (·.2)).map tI := by rw [List.map_map]; rfl
            have ra : RpAll X.K G1 (L'.map fun q => V.ref q.1) (L'.map fun q => tI q.2) := by
              have : ∀ L' : List (Addr × List Int), (∀ p ∈ L', p ∈ ks) → RpAll X.K G1 (L'.map fun q => V.ref q.1) (L'.map fun q => tI q.2) := by
                intro L'
                induction L' with
                | nil => intro _; exact .nil
                | cons q r ih => intro hh; exact .cons (.tup (e3 q (hh q List.mem_cons_self)) (RpAll.ofInts _)) (ih fun p hp => hh p (List.mem_cons_of_mem _ hp))
              exact this L' fun p hp' => hL1 p (hp.mem_iff.mp hp')
            have rs := ra.sorted
            have e6 : sortD (L'.map fun q => tI q.2) = (sortT (dd l)).map tI := by rw [e5, sortD_tups, sortT_congr pm']
            have m2 := m1.grow (o := SetTO X.prog X.w a L) hfa
            exact q (.ref p) G1 _ (Sub.refl _) (m2.grow hfp) ⟨p, _, rfl, m2.gfree hfp, m2.notin hfp, upd_same, .lst (by rw [← e6]; exact rs)⟩
      | _ => cases e
end
end Lf

set_option Elab.async false
set_option linter.all false
set_option maxRecDepth 100000
set_option maxHeartbeats 4000000
/-! Lay16: own defs, their calls. -/
namespace Lf
open PySem PySem.Spec PyProof.Rows L2

/-- what a def answers -/
abbrev DenF := List Wv → Mem → Ans Rv
def spD (K : PySem.W.Frag) (F : DenF) : Sp := fun vs H Q _ => ∃ (G : Hp) (i : List Addr) (ws : List Wv) (M : Mem), RpWs K G i vs ws ∧ MemR K G H i M ∧ Ask K W0 (ResR K) G i [] Q (F ws M)
/-- a thing that the def made goes out as new; the memory is as long as it was -/
def retR (n : Nat) (r : Rv) (M : Mem) : Ans Rv := match r with
  | .w (.r l) => if l < n then .val (.w (.r l)) (M.take n) else (match M[l]? with
    | some c => .val (.own c) (M.take n)
    | none => .bad)
  | r => .val r (M.take n)
def endR (n : Nat) : SAns → Ans Rv
  | .next _ M => .val (.w (.d .none)) (M.take n)
  | .ret r M => retR n r M
  | .exc x _ M => .exc x (M.take n)
  | _ => .bad
def fnD (nl np : Nat) (body : DenS) : DenF := fun ws M => if ws.length = np then endR M.length (body (ws.map some ++ List.replicate (nl - np) none) M) else .bad
section
variable {K : PySem.W.Frag} {G G' H H' : Hp} {i i' : List Addr} {M M' : Mem}
theorem take_pre (p : i <+: i') (n : Nat) (h : i.length = n) : i'.take n = i := by
  obtain ⟨t, rfl⟩ := p
  rw [← h]
  simp
theorem RpWs.env {vs : List V} {ws : List Wv} (r : RpWs K G i vs ws) (n : Nat) : EnvR K G i (ws.map some ++ List.replicate n none) (vs.map some ++ List.replicate n none) := by
  have hl := r.length
  refine ⟨by simp [hl], fun j w q => ?_⟩
  by_cases hj : j < ws.length
  · rw [List.getElem?_append_left (by simpa using hj)] at q
    rw [List.getElem?_append_left (by simpa [hl] using hj)]
    clear hl hj
    induction r generalizing j with
    | nil => simp at q
    | cons h t ih =>
      cases j with
      | zero => simp at q; subst q; exact ⟨_, by simp, h⟩
      | succ j => exact ih j (by simpa using q)
  · rw [List.getElem?_append_right (by simpa using hj)] at q
    have := List.getElem?_eq_some_iff.mp q
    obtain ⟨_, e⟩ := this
    simp at e
theorem ResR.cut {v : V} {r : Rv} {W : WX} {s : L2.St} {Q : VK} (p : i <+: i') (hlen : i.length = M.length) (e : Sub G G') (m : MemR K G' H' i' M') (h : ResR K G' H' i' v r) (q : Ask K W (ResR K) G i s Q (retR M.length r M')) : Q v H' := by
  have mc := m.cut (n := M.length)
  rw [take_pre p _ hlen] at mc
  have low : ∀ {l : Nat} {a : Addr}, l < M.length → i'[l]? = some a → i[l]? = some a := fun {l a} hl ha => by
    obtain ⟨t, rfl⟩ := p
    rw [List.getElem?_append_left (by omega)] at ha
    exact ha
  cases r with
  | own c =>
    obtain ⟨a, o, rfl, h1, h2, h3, h4⟩ := h
    exact q _ G' H' e mc ⟨a, o, rfl, h1, fun z => h2 (p.subset z), h3, h4⟩
  | w x =>
    cases x with
    | d x => exact q _ G' H' e mc h
    | f a => exact q _ G' H' e mc h
    | k xs => exact q _ G' H' e mc h
    | r l =>
      obtain ⟨a, h1, rfl⟩ := h
      have q : Ask K W (ResR K) G i s Q (if l < M.length then .val (.w (.r l)) (M'.take M.length) else (match M'[l]? with
        | some c => .val (.own c) (M'.take M.length)
        | none => .bad)) := q
      split at q
      · rename_i hl
        exact q _ G' H' e mc ⟨a, low hl h1, rfl⟩
      · rename_i hl
        cases hc : M'[l]? with
        | none => rw [hc] at q; exact q.elim
        | some c =>
          rw [hc] at q
          obtain ⟨o, h3, h4⟩ := m.at_ l a c h1 hc
          refine q _ G' H' e mc ⟨a, o, rfl, m.fr a (List.mem_of_getElem? h1), fun z => ?_, h3, h4⟩
          obtain ⟨j, hj, ej⟩ := List.getElem_of_mem z
          have e2 : i'[j]? = some a := get_pre p (by rw [List.getElem?_eq_getElem hj, ej])
          obtain ⟨q1, e3⟩ := List.getElem?_eq_some_iff.mp h1
          obtain ⟨q2, e4⟩ := List.getElem?_eq_some_iff.mp e2
          have := (List.getElem_inj m.nd).mp (e3.trans e4.symm)
          omega
end
/-! ### a def keeps its promise; nothing is raised -/
section
variable {P : Program} {w : World} {K : PySem.W.Frag} {mg : Str → Option Value} {base : Heap} {x qual : Str} {params : Arguments} {body : List Stmt} {scope : Scope} {f : Addr} {fd : FuncData}
theorem fn_ok {N ps : List Str} {k : Nat} {fs : DenS} (F : FunD K x qual params body scope [] [] f fd) (S : FnScope N ps scope)
    (hb : ∀ (cdv : Value) (A : Around) (outer : List Env) (s : Shared) (H : Hp) (E : XK), Room k (A.deeper (envOfC qual scope s.heap.objs.size f cdv)) → PSs (cxOf CX0 P w K mg base N qual scope f cdv A outer s H E).nox body (tDS K W0 fs)) :
    FnOk P w K mg base CX0 (k + 1) f fd ps (spD K (fnD N.length ps.length fs)) := by
  refine F.ok S (fun vs H Q E h => ?_) (fun cdv A outer s H vs Q E hr h => ⟨_, PSs.nox (hb cdv A outer s H E hr), ?_⟩)
  · obtain ⟨G, i, ws, M, r, m, q⟩ := h
    unfold fnD at q
    split at q
    · rename_i hl
      rw [r.length]
      exact hl
    · exact q.elim
  · obtain ⟨G, i, ws, M, r, m, q⟩ := h
    unfold fnD at q
    split at q
    · rename_i hl
      refine ⟨G, i, ws.map some ++ List.replicate (N.length - ps.length) none, M, ?_, m, ?_⟩
      · unfold L2.start
        rw [show N.length - vs.length = N.length - ps.length by rw [r.length, hl]]
        exact r.env _
      · unfold endR at q
        cases hb2 : fs (ws.map some ++ List.replicate (N.length - ps.length) none) M with
        | next e M' =>
          rw [hb2] at q
          intro s' G' i' H' h1 h2 h3 h4
          have mc := h4.cut (n := M.length)
          rw [take_pre h2 _ m.len] at mc
          exact q _ G' H' h1 mc .non
        | ret r' M' =>
          rw [hb2] at q
          intro v G' i' H' h1 h2 h3 h4
          exact ResR.cut h2 m.len h1 h3 h4 q
        | exc x' e M' =>
          rw [hb2] at q
          intro cls d s' G' i' H' h1 h2 h3 h4 h5
          have mc := h4.cut (n := M.length)
          rw [take_pre h2 _ m.len] at mc
          exact q cls d G' H' h1 mc h5
        | brk e M' => rw [hb2] at q; exact q.elim
        | cont e M' => rw [hb2] at q; exact q.elim
        | bad => rw [hb2] at q; exact q.elim
    · exact q.elim
end

/-- a def that can be called by its name -/
structure Cl (P : Program) (w : World) (K : PySem.W.Frag) (mg : Str → Option Value) (base : Heap) (k : Nat) (x : Str) (F : DenF) : Prop where
  ex : ∃ (f : Addr) (fd : FuncData) (ps : List Str), mg x = some (.ref f) ∧ PySem.W.keepIn K (.ref f) = true ∧ Binds K fd ps [] ∧ FnOk P w K mg base CX0 k f fd ps (spD K F)
theorem Cl.mono {P : Program} {w : World} {K : PySem.W.Frag} {mg : Str → Option Value} {base : Heap} {j k : Nat} {x : Str} {F : DenF} (c : Cl P w K mg base j x F) (h : j ≤ k) : Cl P w K mg base k x F := by
  obtain ⟨f, fd, ps, h1, h2, h3, h4⟩ := c.ex
  exact ⟨f, fd, ps, h1, h2, h3, h4.mono h⟩
theorem Cl.of {P : Program} {w : World} {K : PySem.W.Frag} {mg : Str → Option Value} {base : Heap} {x qual : Str} {params : Arguments} {body : List Stmt} {scope : Scope} {f : Addr} {fd : FuncData} {N ps : List Str} {k : Nat} {fs : DenS}
    (F : FunD K x qual params body scope [] [] f fd) (S : FnScope N ps scope) (hm : mg x = some (.ref f))
    (hbd : ∀ (kV doc pm : Value) (an : Option Addr) (cdv ct : Value) (us : List Value), us.length = ps.length → bindArgs (PySem.W.fnOf x qual params body scope .none kV doc pm an cdv ct) ⟨us, []⟩ = pure (ps.zip us))
    (hb : ∀ (cdv : Value) (A : Around) (outer : List Env) (s : Shared) (H : Hp) (E : XK), Room k (A.deeper (envOfC qual scope s.heap.objs.size f cdv)) → PSs (cxOf CX0 P w K mg base N qual scope f cdv A outer s H E).nox body (tDS K W0 fs)) :
    Cl P w K mg base (k + 1) x (fnD N.length ps.length fs) := ⟨f, fd, ps, hm, F.kp, F.bindsN hbd, fn_ok F S hb⟩
theorem Ask.st0 {A B : Type} {K : PySem.W.Frag} {Rel : Hp → Hp → List Addr → B → A → Prop} {G : Hp} {i : List Addr} {s s' : L2.St} {Q : B → Hp → Prop} {a : Ans A} (h : Ask K W0 Rel G i s Q a) : Ask K W0 Rel G i s' Q a := by
  cases a with
  | val _ _ => exact h
  | exc _ _ => exact h
  | bad => exact h
@[simp] def dCall (F : DenF) (fa : En → Mem → Ans (List Wv)) : Den := fun e M => (fa e M).bind F
section
variable {X : Cx} {fa : En → Mem → Ans (List Wv)} {pos p : Pos} {x : Str} {F : DenF}
theorem d_call {j k : Nat} {e : Expr} {es : List Expr} (c : Cl X.prog X.w X.K X.mg X.base j x F) (hr : Room k X.A) (hjk : j ≤ k) (ha : PA X (e :: es) (tDA X.K W0 fa)) (hg : Gl X x := by rfl) (hdb : (x == ("__debug__" : Str)) = false := by decide)
    (he : starEach (e :: es) X.env = (false, eval e X.env) :: starEach es X.env := by rfl) (hpl : (backTo pos (starEach es X.env)).any (·.1) = false := by rfl) :
    PE X (.Call (.Name x p) (e :: es) [] pos) (tD X.K W0 (dCall F fa)) := by
  obtain ⟨f, fd, ps, h1, h2, h3, h4⟩ := c.ex
  refine PE.weak (pe_call h4 (hr.mono hjk) hg h1 h2 h3 .nil (E := E0) pass0 ha hdb he hpl) fun s H Q q => ?_
  obtain ⟨G, i, e, M, he, hm, q⟩ := q
  refine tG.go he hm q fun vs ws M1 G1 H1 s1 m1 r1 q => ?_
  rw [List.append_nil]
  exact ⟨G1, i, ws, M1, r1, m1, q.st0⟩
theorem d_call0 {j k : Nat} (c : Cl X.prog X.w X.K X.mg X.base j x F) (hr : Room k X.A) (hjk : j ≤ k) (hg : Gl X x := by rfl) (hdb : (x == ("__debug__" : Str)) = false := by decide) :
    PE X (.Call (.Name x p) [] [] pos) (tD X.K W0 (dCall F aNil)) := by
  obtain ⟨f, fd, ps, h1, h2, h3, h4⟩ := c.ex
  refine PE.weak (pe_call0 h4 (hr.mono hjk) hg h1 h2 h3 .nil (E := E0) pass0 hdb) fun s H Q q => ?_
  obtain ⟨G, i, e, M, he, hm, q⟩ := q
  exact ⟨G, i, [], M, .nil, hm, q.st0⟩
end
/-- the law's def, at its end: the script is a list of numbers, the answer is True -/
theorem law_sp {K : PySem.W.Frag} {F : DenF} {H : Hp} {a : Addr} {ns : List Int} {E : XK} (hF : ∃ M, F [.k (ns.map .int)] [] = .val (.w (.d (.bool true))) M) (h : SqL K H a (ns.map V.int)) : spD K F [.ref a] H (fun v _ => v = .bl true) E := by
  obtain ⟨M, hF⟩ := hF
  refine ⟨H, [], [.k (ns.map .int)], [], .cons ⟨a, _, rfl, h, RpAll.ofInts ns⟩ .nil, ⟨Sub.refl _, List.nodup_nil, rfl, (fun b hb => by cases hb), fun l b c e _ => by simp at e⟩, ?_⟩
  rw [hF]
  intro v G' H' h1 h2 h3
  exact bl_of h3
end Lf

set_option Elab.async false
set_option linter.all false
set_option maxRecDepth 100000
set_option maxHeartbeats 4000000
/-! Lay17: short names for printed texts. -/
namespace Lf
open PySem PySem.Spec PyProof.Rows L2
section
variable {X : Cx} {W : WX}
theorem dv (j : Nat) {x : Str} {pos : Pos} (hN : X.N[j]? = some x := by rfl) (hv : Vis X.env.scope x := by first | exact Or.inl rfl | exact Or.inr (Or.inl rfl) | exact Or.inr (Or.inr rfl)) (hd : (x == ("__debug__" : Str)) = false := by decide) (hcd : (x == ("__classdict__" : Str)) = false := by decide) :
    PE X (.Name x pos) (tD X.K W (dVar j)) := d_var hN hv hd hcd
theorem gn (j : Nat) {x : Str} {pos : Pos} (hN : X.N.Nodup) (hi : X.N[j]? = some x := by rfl) (hx : Loc X.env.scope x := by first | exact Or.inl rfl | exact Or.inr rfl) (hf : X.fn x = true ∨ X.env.scope.names.lookup x = some .local := by first | exact .inl rfl | exact .inr rfl) : PG X (.Name x pos) (gName j) := pg_name hN hi hx hf
theorem cl_bad {P : Program} {w : World} {K : PySem.W.Frag} {mg : Str → Option Value} {base : Heap} {k : Nat} {x qual : Str} {params : Arguments} {body : List Stmt} {scope : Scope} {f : Addr} {fd : FuncData} {ps : List Str}
    (F : FunD K x qual params body scope [] [] f fd) (hm : mg x = some (.ref f))
    (hbd : ∀ (kV doc pm : Value) (an : Option Addr) (cdv ct : Value) (us : List Value), us.length = ps.length → bindArgs (PySem.W.fnOf x qual params body scope .none kV doc pm an cdv ct) ⟨us, []⟩ = pure (ps.zip us)) : Cl P w K mg base k x (fun _ _ => .bad) :=
  ⟨f, fd, ps, hm, F.kp, F.bindsN hbd, fun vs H Q E h => by obtain ⟨_, _, _, _, _, _, q⟩ := h; exact q.elim, fun A outer s H args us vs Q E _ _ _ _ h => by obtain ⟨_, _, _, _, _, _, q⟩ := h; exact q.elim⟩
end
end Lf

set_option Elab.async false
set_option linter.all false
set_option maxRecDepth 100000
set_option maxHeartbeats 4000000
/-! Lay18: how denotations are worked out. -/
namespace Lf
open PySem PySem.Spec PyProof.Rows L2
/-- a comprehension whose parts leave the memory alone -/
theorem lcD_eval {chk : Mem → Bool} {tg : PyData → En → Option En} {tt : DenT} {elt : Den} {e : En} {M : Mem} (p : PyData → Bool) (g : PyData → PyData) : ∀ (items acc : List PyData),
    (∀ acc, chk (M ++ [.list acc]) = true) →
    (∀ acc x, x ∈ items → ∃ e1, tg x e = some e1 ∧ tt e1 (M ++ [.list acc]) = .val (p x) (M ++ [.list acc]) ∧ (p x = true → ∃ r, elt e1 (M ++ [.list acc]) = .val r (M ++ [.list acc]) ∧ r.fz = .d (g x))) →
    acc.length + items.length ≤ sizeLine →
    lcD M.length chk tg tt elt e items (M ++ [.list acc]) = .val (.own (.list (acc ++ (items.filter p).map g))) M
  | [], acc, hc, h, hl => by
    unfold lcD
    rw [if_pos (hc acc)]
    simp at hl
    simp [hl]
  | x :: xs, acc, hc, h, hl => by
    unfold lcD
    rw [if_pos (hc acc)]
    obtain ⟨e1, h1, h2, h3⟩ := h acc x List.mem_cons_self
    rw [List.length_cons] at hl
    simp only [h1, h2]
    cases hp : p x with
    | false =>
      simp only []
      rw [lcD_eval p g xs acc hc (fun acc y hy => h acc y (List.mem_cons_of_mem _ hy)) (by omega), List.filter_cons, hp]
      rfl
    | true =>
      obtain ⟨r, h4, h5⟩ := h3 hp
      have hm : (M ++ [PyData.list acc])[M.length]? = some (.list acc) := by simp
      have hlt : acc.length < sizeLine := by omega
      have hs : (M ++ [PyData.list acc]).set M.length (.list (acc ++ [g x])) = M ++ [.list (acc ++ [g x])] := by simp
      simp only [h4, h5, hm]
      rw [if_pos hlt, hs]
      rw [lcD_eval p g xs (acc ++ [g x]) hc (fun acc y hy => h acc y (List.mem_cons_of_mem _ hy)) (by simp; omega), List.filter_cons, hp]
      simp
theorem lc_eval {it : En → Mem → Ans Items} {vs : List Nat} {tg : PyData → En → Option En} {tt : DenT} {elt : Den} {e : En} {M M0 : Mem} {items : List PyData} {chk : Mem → Bool} (p : PyData → Bool) (g : PyData → PyData)
    (hi : it e M0 = .val (items, chk) M) (hc : ∀ acc, chk (M ++ [.list acc]) = true) (hl : items.length ≤ sizeLine)
    (h : ∀ acc x, x ∈ items → ∃ e1, tg x (wipeE e vs) = some e1 ∧ tt e1 (M ++ [.list acc]) = .val (p x) (M ++ [.list acc]) ∧ (p x = true → ∃ r, elt e1 (M ++ [.list acc]) = .val r (M ++ [.list acc]) ∧ r.fz = .d (g x))) :
    dLc it vs tg tt elt e M0 = .val (.own (.list ((items.filter p).map g))) M := by
  unfold dLc
  rw [hi]
  show lcD M.length chk tg tt elt (wipeE e vs) items (M ++ [.list []]) = _
  rw [lcD_eval p g items [] hc h (by simpa using hl)]
  simp
/-- .. without a test -/
theorem lc_map {it : En → Mem → Ans Items} {vs : List Nat} {tg : PyData → En → Option En} {elt : Den} {e : En} {M M0 : Mem} {items : List PyData} {chk : Mem → Bool} (g : PyData → PyData)
    (hi : it e M0 = .val (items, chk) M) (hc : ∀ acc, chk (M ++ [.list acc]) = true) (hl : items.length ≤ sizeLine)
    (h : ∀ acc x, x ∈ items → ∃ e1, tg x (wipeE e vs) = some e1 ∧ ∃ r, elt e1 (M ++ [.list acc]) = .val r (M ++ [.list acc]) ∧ r.fz = .d (g x)) :
    dLc it vs tg tTrue elt e M0 = .val (.own (.list (items.map g))) M := by
  rw [lc_eval (fun _ => true) g hi hc hl fun acc x hx => ?_, List.filter_eq_self.mpr fun _ _ => rfl]
  obtain ⟨e1, h1, h2⟩ := h acc x hx
  exact ⟨e1, h1, rfl, fun _ => h2⟩
/-- a loop that runs through -/
theorem for_inv {chk : Mem → Bool} {tg : PyData → En → Option En} {body : DenS} (R : List PyData → En → Mem → Prop) : ∀ (items done : List PyData) (e : En) (M : Mem), R done e M →
    (∀ d x r e M, done ++ items = d ++ x :: r → R d e M → chk M = true ∧ ∃ e1, tg x e = some e1 ∧ ∃ e2 M2, body e1 M = .next e2 M2 ∧ R (d ++ [x]) e2 M2) →
    (∀ e M, R (done ++ items) e M → chk M = true) → ∃ e' M', forD chk tg body items e M = .next e' M' ∧ R (done ++ items) e' M'
  | [], done, e, M, h0, hs, hc => by
    unfold forD
    rw [List.append_nil] at hc ⊢
    rw [if_pos (hc e M h0)]
    exact ⟨e, M, rfl, h0⟩
  | x :: xs, done, e, M, h0, hs, hc => by
    unfold forD
    obtain ⟨h1, e1, h2, e2, M2, h3, h4⟩ := hs done x xs e M rfl h0
    rw [if_pos h1]
    simp only [h2, h3]
    have ea : done ++ x :: xs = (done ++ [x]) ++ xs := by simp
    rw [ea] at hs hc ⊢
    exact for_inv R xs (done ++ [x]) e2 M2 h4 hs hc
theorem for_run {it : En → Mem → Ans Items} {tg : PyData → En → Option En} {body : DenS} {e : En} {M M0 : Mem} {items : List PyData} {chk : Mem → Bool} (R : List PyData → En → Mem → Prop) (hi : it e M0 = .val (items, chk) M) (h0 : R [] e M)
    (hs : ∀ d x r e M, items = d ++ x :: r → R d e M → chk M = true ∧ ∃ e1, tg x e = some e1 ∧ ∃ e2 M2, body e1 M = .next e2 M2 ∧ R (d ++ [x]) e2 M2) (hc : ∀ e M, R items e M → chk M = true) :
    ∃ e' M', sFor it tg body e M0 = .next e' M' ∧ R items e' M' := by
  unfold sFor
  rw [hi]
  exact for_inv R items [] e M h0 (by simpa using hs) (by simpa using hc)
theorem seq_next {f g : DenS} {e e' : En} {M M' : Mem} (h : f e M = .next e' M') : sSeq f g e M = g e' M' := by
  unfold sSeq
  rw [h]
  rfl
theorem fn_eval {nl np : Nat} {body : DenS} {ws : List Wv} {M : Mem} {a : Ans Rv} (hl : ws.length = np) (h : endR M.length (body (ws.map some ++ List.replicate (nl - np) none) M) = a) : fnD nl np body ws M = a := by
  unfold fnD
  rw [if_pos hl, h]
theorem take_self (M : Mem) : M.take M.length = M := List.take_length

@[simp] theorem sh_int (n : Int) : SeqAt.shaped (.int n) = true := by simp [SeqAt.shaped, PyData.canLay0, PyData.depth]
@[simp] theorem sh_bool (n : Bool) : SeqAt.shaped (.bool n) = true := by simp [SeqAt.shaped, PyData.canLay0, PyData.depth]
@[simp] theorem sh_none : SeqAt.shaped .none = true := by simp [SeqAt.shaped, PyData.canLay0, PyData.depth]
@[simp] theorem eqv_int (a b : Int) : PyData.eqv (.int a) (.int b) = decide (a = b) := by simp [PyData.eqv, Bool.beq_eq_decide_eq]
@[simp] theorem eqv_bool (a b : Bool) : PyData.eqv (.bool a) (.bool b) = decide (a = b) := by cases a <;> cases b <;> simp [PyData.eqv]
/-- a place in a list, known -/
theorem atI_ok {A : Type} {xs : List A} {n : Int} {x : A} (h0 : 0 ≤ n) (h : xs[n.toNat]? = some x) : atI xs n = some x := by
  have hl := (List.getElem?_eq_some_iff.mp h).1
  unfold atI ixN
  rw [if_pos h0, if_pos (by omega)]
  exact h
@[simp] theorem atI_0 {A : Type} (x : A) (xs : List A) : atI (x :: xs) 0 = some x := atI_ok (by omega) rfl
@[simp] theorem atI_1 {A : Type} (x y : A) (xs : List A) : atI (x :: y :: xs) 1 = some y := atI_ok (by omega) rfl
@[simp] theorem atI_2 {A : Type} (x y z : A) (xs : List A) : atI (x :: y :: z :: xs) 2 = some z := atI_ok (by omega) rfl
@[simp] theorem ixN_0 (n : Nat) : ixN (n + 1) 0 = some 0 := by
  unfold ixN
  rw [if_pos (by omega), if_pos (by omega)]; rfl
theorem ixN_ok {n : Nat} {j : Int} (h0 : 0 ≤ j) (h : j < n) : ixN n j = some j.toNat := by
  unfold ixN
  rw [if_pos h0, if_pos h]
theorem boolsD_fun {A : Type} (q : A → Bool) : ∀ l : List A, boolsD (l.map fun x => .bool (q x)) = some (l.map q)
  | [] => rfl
  | x :: l => by
    rw [List.map_cons]
    show (match boolsD (l.map fun x => .bool (q x)) with
      | some ns => some (q x :: ns)
      | none => none) = _
    rw [boolsD_fun q l]; rfl
theorem intsD_fun {A : Type} (q : A → Int) : ∀ l : List A, intsD (l.map fun x => .int (q x)) = some (l.map q)
  | [] => rfl
  | x :: l => by
    rw [List.map_cons]
    show (match intsD (l.map fun x => .int (q x)) with
      | some ns => some (q x :: ns)
      | none => none) = _
    rw [intsD_fun q l]; rfl
/-- all of truths -/
theorem lc_all {it : En → Mem → Ans Items} {vs : List Nat} {tg : PyData → En → Option En} {elt : Den} {e : En} {M M0 : Mem} {items : List PyData} {chk : Mem → Bool} (q : PyData → Bool)
    (hi : it e M0 = .val (items, chk) M) (hc : ∀ acc, chk (M ++ [.list acc]) = true) (hl : items.length ≤ sizeLine)
    (h : ∀ acc x, x ∈ items → ∃ e1, tg x (wipeE e vs) = some e1 ∧ elt e1 (M ++ [.list acc]) = .val (vB (q x)) (M ++ [.list acc])) :
    ∃ L bs, dLc it vs tg tTrue elt e M0 = .val (.own (.list L)) M ∧ boolsD L = some bs ∧ bs.all id = items.all q := by
  refine ⟨_, _, lc_map (fun x => .bool (q x)) hi hc hl fun acc x hx => ?_, boolsD_fun q items, ?_⟩
  · obtain ⟨e1, h1, h2⟩ := h acc x hx
    exact ⟨e1, h1, _, h2, rfl⟩
  · rw [List.all_map]; rfl
theorem lc_ints {it : En → Mem → Ans Items} {vs : List Nat} {tg : PyData → En → Option En} {elt : Den} {e : En} {M M0 : Mem} {items : List PyData} {chk : Mem → Bool} (q : PyData → Int)
    (hi : it e M0 = .val (items, chk) M) (hc : ∀ acc, chk (M ++ [.list acc]) = true) (hl : items.length ≤ sizeLine)
    (h : ∀ acc x, x ∈ items → ∃ e1, tg x (wipeE e vs) = some e1 ∧ elt e1 (M ++ [.list acc]) = .val (vI (q x)) (M ++ [.list acc])) :
    ∃ L, dLc it vs tg tTrue elt e M0 = .val (.own (.list L)) M ∧ intsD L = some (items.map q) ∧ L = (items.map q).map .int := by
  refine ⟨_, lc_map (fun x => .int (q x)) hi hc hl fun acc x hx => ?_, intsD_fun q items, by rw [List.map_map]; rfl⟩
  obtain ⟨e1, h1, h2⟩ := h acc x hx
  exact ⟨e1, h1, _, h2, rfl⟩
theorem for_invA {A : Type} {f : A → PyData} {chk : Mem → Bool} {tg : PyData → En → Option En} {body : DenS} (R : List A → En → Mem → Prop) : ∀ (items done : List A) (e : En) (M : Mem), R done e M →
    (∀ d x r e M, done ++ items = d ++ x :: r → R d e M → chk M = true ∧ ∃ e1, tg (f x) e = some e1 ∧ ∃ e2 M2, body e1 M = .next e2 M2 ∧ R (d ++ [x]) e2 M2) →
    (∀ e M, R (done ++ items) e M → chk M = true) → ∃ e' M', forD chk tg body (items.map f) e M = .next e' M' ∧ R (done ++ items) e' M'
  | [], done, e, M, h0, hs, hc => by
    rw [List.map_nil]
    unfold forD
    rw [List.append_nil] at hc ⊢
    rw [if_pos (hc e M h0)]
    exact ⟨e, M, rfl, h0⟩
  | x :: xs, done, e, M, h0, hs, hc => by
    rw [List.map_cons]
    unfold forD
    obtain ⟨h1, e1, h2, e2, M2, h3, h4⟩ := hs done x xs e M rfl h0
    rw [if_pos h1]
    simp only [h2, h3]
    have ea : done ++ x :: xs = (done ++ [x]) ++ xs := by simp
    rw [ea] at hs hc ⊢
    exact for_invA R xs (done ++ [x]) e2 M2 h4 hs hc
theorem for_map {A : Type} (f : A → PyData) (l : List A) {it : En → Mem → Ans Items} {tg : PyData → En → Option En} {body : DenS} {e : En} {M M0 : Mem} {chk : Mem → Bool} (R : List A → En → Mem → Prop) (hi : it e M0 = .val (l.map f, chk) M) (h0 : R [] e M)
    (hs : ∀ d x r e M, l = d ++ x :: r → R d e M → chk M = true ∧ ∃ e1, tg (f x) e = some e1 ∧ ∃ e2 M2, body e1 M = .next e2 M2 ∧ R (d ++ [x]) e2 M2) (hc : ∀ e M, R l e M → chk M = true) :
    ∃ e' M', sFor it tg body e M0 = .next e' M' ∧ R l e' M' := by
  unfold sFor
  rw [hi]
  exact for_invA R l [] e M h0 (by simpa using hs) (by simpa using hc)
end Lf

set_option Elab.async false
set_option linter.all false
set_option maxRecDepth 100000
/-! printed by gen.py: what each def of the law answers -/
namespace Lw
open PySem PySem.Spec PyProof.Rows L2 Lf
def B_is_whole : DenS := (sRet (dAnd (dIsi ["int"] (dVar 0)) (dNot (dIsi ["bool"] (dVar 0)))))
def F_is_whole : DenF := fnD 1 1 B_is_whole
def B_is_from : DenS := (sRet (dAnd (dCall F_is_whole (aCons (dVar 0) aNil)) (dChain leF leF (dVar 1) (dVar 0) (dVar 2))))
def F_is_from : DenF := fnD 3 3 B_is_from
def B_are_rising : DenS := (sSeq (sIf (tOrD (tNotD (tst (dIsi ["tuple"] (dVar 1)))) (tNotD (tst (dCB (one allF) (aCons (dLc (iSeq (dVar 1)) [2] (tgN 2) tTrue (dCall F_is_from (aCons (dVar 2) (aCons (dC (.int 0)) (aCons (dBin subF (dVar 0) (dC (.int 1))) aNil))))) aNil))))) (sRet (dC (.bool false))) sNext)
    (sRet (dCB (one allF) (aCons (dLc (iZip (aCons (dVar 1) (aCons (dSl (dVar 1) (pYes (dC (.int 1))) pNo) aNil))) [2, 3] (tgT [2, 3]) tTrue (dBin ltF (dVar 2) (dVar 3))) aNil))))
def F_are_rising : DenF := fnD 4 2 B_are_rising
def B_are_faces : DenS := (sSeq (sIf (tOrD (tNotD (tst (dIsi ["tuple"] (dVar 2)))) (tNotD (tst (dChain leF leF (dC (.int 1)) (dCB (one lenF) (aCons (dVar 2) aNil)) (dC (.int 70)))))) (sRet (dC (.bool false))) sNext)
    (sSeq (sIf (tNotD (tst (dCB (one allF) (aCons (dLc (iSeq (dVar 2)) [3] (tgN 3) tTrue (dAnd (dCall F_are_rising (aCons (dVar 0) (aCons (dVar 3) aNil))) (dBin eqF (dCB (one lenF) (aCons (dVar 3) aNil)) (dVar 1)))) aNil)))) (sRet (dC (.bool false))) sNext)
    (sRet (dCB (one allF) (aCons (dLc (iZip (aCons (dVar 2) (aCons (dSl (dVar 2) (pYes (dC (.int 1))) pNo) aNil))) [4, 5] (tgT [4, 5]) tTrue (dBin ltF (dVar 4) (dVar 5))) aNil)))))
def F_are_faces : DenF := fnD 6 3 B_are_faces
def B_is_stack : DenS := (sSeq (sIf (tOrD (tNotD (tst (dIsi ["tuple"] (dVar 0)))) (tst (dBin neF (dCB (one lenF) (aCons (dVar 0) aNil)) (dC (.int 3))))) (sRet (dC (.bool false))) sNext)
    (sSeq (sAsgT (tgT [1, 2, 3]) (dVar 0))
    (sSeq (sIf (tOrD (tNotD (tst (dCall F_is_from (aCons (dVar 1) (aCons (dC (.int 1)) (aCons (dC (.int 8)) aNil)))))) (tNotD (tst (dCall F_is_from (aCons (dVar 2) (aCons (dC (.int 0)) (aCons (dCB (two fun a b => vI (if b < a then b else a)) (aCons (dVar 1) (aCons (dC (.int 4)) aNil))) aNil))))))) (sRet (dC (.bool false))) sNext)
    (sRet (dCall F_are_faces (aCons (dVar 1) (aCons (dVar 2) (aCons (dVar 3) aNil))))))))
def F_is_stack : DenF := fnD 4 1 B_is_stack
def B_must_stack : DenS := (sIf (tNotD (tst (dCall F_is_stack (aCons (dVar 0) aNil)))) sBad sNext)
def F_must_stack : DenF := fnD 1 1 B_must_stack
def B_picked : DenS := (sSeq (sAsg 2 false (dLst (aCons (dTup aNil) aNil)))
    (sSeq (sFor (iSeq (dVar 0)) (tgN 3) (sAsg 2 false (dBin addF (dVar 2) (dLc (iSeq (dVar 2)) [4] (tgN 4) (tst (dBin ltF (dCB (one lenF) (aCons (dVar 4) aNil)) (dVar 1))) (dBin addF (dVar 4) (dTup (aCons (dVar 3) aNil)))))))
    (sRet (dLc (iSeq (dVar 2)) [4] (tgN 4) (tst (dBin eqF (dCB (one lenF) (aCons (dVar 4) aNil)) (dVar 1))) (dVar 4)))))
def F_picked : DenF := fnD 5 2 B_picked
def B_all_parts : DenS := (sSeq (sAsg 2 true dDict)
    (sSeq (sFor (iSeq (dIx (dVar 0) (dC (.int 2)))) (tgN 3) (sFor (iSeq (dCall F_picked (aCons (dVar 3) (aCons (dVar 1) aNil)))) (tgN 4) (sSet (dC (.bool true)) (dVar 2) (dVar 4))))
    (sRet (dCB (one sortF) (aCons (dVar 2) aNil)))))
def F_all_parts : DenF := fnD 5 2 B_all_parts
def B_counts_of : DenS := (sRet (dCB (one tupleF) (aCons (dLc (iRange (dBin addF (dIx (dVar 0) (dC (.int 1))) (dC (.int 1)))) [1] (tgN 1) tTrue (dCB (one lenF) (aCons (dCall F_all_parts (aCons (dVar 0) (aCons (dVar 1) aNil))) aNil))) aNil)))
def F_counts_of : DenF := fnD 2 1 B_counts_of
def B_counts : DenS := (sSeq (sDrop (dCall F_must_stack (aCons (dVar 0) aNil)))
    (sRet (dCall F_counts_of (aCons (dVar 0) aNil))))
def F_counts : DenF := fnD 1 1 B_counts
def B_picks : DenS := (sSeq (sAsg 2 false (dC (.int 1)))
    (sSeq (sFor (iRange (dVar 1)) (tgN 3) (sAsg 2 false (dBin fdivF (dBin mulF (dVar 2) (dBin subF (dVar 0) (dVar 3))) (dBin addF (dVar 3) (dC (.int 1))))))
    (sRet (dVar 2))))
def F_picks : DenF := fnD 4 2 B_picks
def B_sign_of : DenS := (sRet (dBin subF (dC (.int 1)) (dBin mulF (dC (.int 2)) (dBin modF (dVar 0) (dC (.int 2))))))
def F_sign_of : DenF := fnD 1 1 B_sign_of
def B_told_of : DenS := (sSeq (sAsg 1 false (dIx (dVar 0) (dC (.int 1))))
    (sSeq (sAsg 2 false (dCall F_counts_of (aCons (dVar 0) aNil)))
    (sSeq (sAsg 3 true (dLst aNil))
    (sSeq (sFor (iRange (dBin addF (dVar 1) (dC (.int 1)))) (tgN 4) (sDrop (dMt appF (dVar 3) (aCons (dCB (one sumF) (aCons (dLc (iRange (dBin addF (dVar 4) (dC (.int 1)))) [5] (tgN 5) tTrue (dBin mulF (dBin mulF (dCall F_sign_of (aCons (dBin subF (dVar 4) (dVar 5)) aNil)) (dCall F_picks (aCons (dBin subF (dVar 1) (dVar 5)) (aCons (dBin subF (dVar 1) (dVar 4)) aNil)))) (dIx (dVar 2) (dVar 5)))) aNil)) aNil))))
    (sRet (dCB (one tupleF) (aCons (dVar 3) aNil)))))))
def F_told_of : DenF := fnD 6 1 B_told_of
def B_told : DenS := (sSeq (sDrop (dCall F_must_stack (aCons (dVar 0) aNil)))
    (sRet (dCall F_told_of (aCons (dVar 0) aNil))))
def F_told : DenF := fnD 1 1 B_told
def B_counts_from : DenS := (sSeq (sIf (tOrD (tNotD (tst (dIsi ["tuple"] (dVar 0)))) (tNotD (tst (dChain leF leF (dC (.int 1)) (dCB (one lenF) (aCons (dVar 0) aNil)) (dC (.int 5)))))) sBad sNext)
    (sSeq (sIf (tNotD (tst (dCB (one allF) (aCons (dLc (iSeq (dVar 0)) [2] (tgN 2) tTrue (dCall F_is_from (aCons (dVar 2) (aCons (dBin subF (dC (.int 0)) (dC (.int 1000000))) (aCons (dC (.int 1000000)) aNil))))) aNil)))) sBad sNext)
    (sSeq (sAsg 1 false (dBin subF (dCB (one lenF) (aCons (dVar 0) aNil)) (dC (.int 1))))
    (sRet (dCB (one tupleF) (aCons (dLc (iRange (dBin addF (dVar 1) (dC (.int 1)))) [3] (tgN 3) tTrue (dCB (one sumF) (aCons (dLc (iRange (dBin addF (dVar 3) (dC (.int 1)))) [4] (tgN 4) tTrue (dBin mulF (dCall F_picks (aCons (dBin subF (dVar 1) (dVar 4)) (aCons (dBin subF (dVar 3) (dVar 4)) aNil))) (dIx (dVar 0) (dVar 4)))) aNil))) aNil))))))
def F_counts_from : DenF := fnD 5 1 B_counts_from
def F_law_same : Nat → DenF
  | 0 => fun _ _ => .bad
  | n + 1 => fnD 4 2 (sSeq (sIf (tst (dIsN (dVar 1))) (sRet (dIsN (dVar 0))) sNext)
    (sSeq (sIf (tst (dIsi ["list", "tuple"] (dVar 1))) (sSeq (sIf (tst (dBin neF (dIsi ["list"] (dVar 1)) (dIsi ["list"] (dVar 0)))) (sRet (dC (.bool false))) sNext)
    (sSeq (sIf (tOrD (tst (dBin neF (dIsi ["tuple"] (dVar 1)) (dIsi ["tuple"] (dVar 0)))) (tst (dBin neF (dCB (one lenF) (aCons (dVar 0) aNil)) (dCB (one lenF) (aCons (dVar 1) aNil))))) (sRet (dC (.bool false))) sNext)
    (sRet (dCB (one allF) (aCons (dLc (iZip (aCons (dVar 0) (aCons (dVar 1) aNil))) [2, 3] (tgT [2, 3]) tTrue (dCall (F_law_same n) (aCons (dVar 2) (aCons (dVar 3) aNil)))) aNil))))) sNext)
    (sSeq (sIf (tst (dIsi ["str"] (dVar 1))) (sRet (dAnd (dIsi ["str"] (dVar 0)) (dBin eqF (dVar 0) (dVar 1)))) sNext)
    (sSeq (sIf (tst (dBin neF (dIsi ["bool"] (dVar 0)) (dIsi ["bool"] (dVar 1)))) (sRet (dC (.bool false))) sNext)
    (sRet (dAnd (dIsi ["int"] (dVar 0)) (dBin eqF (dVar 0) (dVar 1))))))))
def B_law_cell : DenS := (sSeq (sIf (tst (dBin ltF (dVar 1) (dCB (one lenF) (aCons (dVar 0) aNil)))) (sRet (dIx (dVar 0) (dVar 1))) sNext)
    (sRet (dC (.int 0))))
def F_law_cell : DenF := fnD 2 2 B_law_cell
def B_law_pen : DenS := (sRet (dLst (aCons (dVar 0) (aCons (dCB (one intF) (aCons (dBin geF (dVar 0) (dBin powF (dC (.int 10)) (dC (.int 18)))) aNil)) aNil))))
def F_law_pen : DenF := fnD 1 1 B_law_pen
def B_law_draw : DenS := (sSeq (sIf (tst (dBin eqF (dIx (dVar 0) (dC (.int 1))) (dC (.int 1)))) (sSeq (sAsg 2 false (dBin modF (dIx (dVar 0) (dC (.int 0))) (dVar 1)))
    (sSeq (sSet (dBin fdivF (dIx (dVar 0) (dC (.int 0))) (dVar 1)) (dVar 0) (dC (.int 0)))
    (sRet (dVar 2)))) sNext)
    (sSeq (sSet (dBin modF (dBin addF (dBin mulF (dBin modF (dIx (dVar 0) (dC (.int 0))) (dC (.int 2147483629))) (dC (.int 48271))) (dC (.int 11))) (dC (.int 2147483629))) (dVar 0) (dC (.int 0)))
    (sRet (dBin modF (dBin fdivF (dBin modF (dBin addF (dBin mulF (dIx (dVar 0) (dC (.int 0))) (dIx (dVar 0) (dC (.int 0)))) (dBin mulF (dC (.int 40692)) (dIx (dVar 0) (dC (.int 0))))) (dC (.int 2147483647))) (dC (.int 8))) (dVar 1)))))
def F_law_draw : DenF := fnD 3 2 B_law_draw
def B_law_all : DenS := (sSeq (sAsg 2 false (dLst (aCons (dTup aNil) aNil)))
    (sSeq (sFor (iRange (dVar 0)) (tgN 3) (sAsg 2 false (dBin addF (dVar 2) (dLc (iSeq (dVar 2)) [4] (tgN 4) (tst (dBin ltF (dCB (one lenF) (aCons (dVar 4) aNil)) (dVar 1))) (dBin addF (dVar 4) (dTup (aCons (dVar 3) aNil)))))))
    (sRet (dCB (one sortF) (aCons (dLc (iSeq (dVar 2)) [4] (tgN 4) (tst (dBin eqF (dCB (one lenF) (aCons (dVar 4) aNil)) (dVar 1))) (dVar 4)) aNil)))))
def F_law_all : DenF := fnD 5 2 B_law_all
def B_law_stack : DenS := (sSeq (sAsg 2 false (dCall F_law_draw (aCons (dVar 0) (aCons (dC (.int 7)) aNil))))
    (sSeq (sAsg 3 false (dIx (dLst (aCons (dC (.int 5)) (aCons (dC (.int 4)) (aCons (dC (.int 6)) (aCons (dC (.int 3)) (aCons (dC (.int 7)) (aCons (dC (.int 8)) (aCons (dC (.int 2)) (aCons (dC (.int 1)) aNil))))))))) (dCall F_law_draw (aCons (dVar 0) (aCons (dC (.int 8)) aNil)))))
    (sSeq (sAsg 4 false (dCB (two fun a b => vI (if b < a then b else a)) (aCons (dVar 3) (aCons (dIx (dLst (aCons (dC (.int 2)) (aCons (dC (.int 3)) (aCons (dC (.int 1)) (aCons (dC (.int 4)) (aCons (dC (.int 3)) (aCons (dC (.int 2)) (aCons (dC (.int 0)) aNil)))))))) (dCall F_law_draw (aCons (dVar 0) (aCons (dC (.int 7)) aNil)))) aNil))))
    (sSeq (sAsg 5 false (dCall F_law_all (aCons (dVar 3) (aCons (dVar 4) aNil))))
    (sSeq (sAsg 6 true (dLst (aCons (dIx (dVar 5) (dCall F_law_draw (aCons (dVar 0) (aCons (dCB (one lenF) (aCons (dVar 5) aNil)) aNil)))) aNil)))
    (sSeq (sFor (iRange (dCall F_law_draw (aCons (dVar 0) (aCons (dVar 1) aNil)))) (tgN 7) (sSeq (sAsg 8 false (dIx (dVar 6) (dCall F_law_draw (aCons (dVar 0) (aCons (dCB (one lenF) (aCons (dVar 6) aNil)) aNil)))))
    (sIf (tOrD (tst (dBin eqF (dVar 2) (dC (.int 0)))) (tOrD (tst (dBin eqF (dVar 4) (dC (.int 0)))) (tst (dBin eqF (dVar 4) (dVar 3))))) (sDrop (dMt appF (dVar 6) (aCons (dIx (dVar 5) (dCall F_law_draw (aCons (dVar 0) (aCons (dCB (one lenF) (aCons (dVar 5) aNil)) aNil)))) aNil))) (sSeq (sAsg 9 false (dIx (dVar 8) (dCall F_law_draw (aCons (dVar 0) (aCons (dVar 4) aNil)))))
    (sSeq (sAsg 10 false (dLc (iRange (dVar 3)) [13] (tgN 13) (tst (dBin (inF true) (dVar 13) (dVar 8))) (dVar 13)))
    (sSeq (sAsg 11 false (dIx (dVar 10) (dCall F_law_draw (aCons (dVar 0) (aCons (dBin subF (dVar 3) (dVar 4)) aNil)))))
    (sSeq (sAsg 12 false (dLc (iSeq (dVar 8)) [13] (tgN 13) (tst (dBin neF (dVar 13) (dVar 9))) (dVar 13)))
    (sDrop (dMt appF (dVar 6) (aCons (dCB (one tupleF) (aCons (dCB (one sortF) (aCons (dBin addF (dVar 12) (dLst (aCons (dVar 11) aNil))) aNil)) aNil)) aNil))))))))))
    (sSeq (sIf (tAndD (tst (dBin eqF (dVar 2) (dC (.int 6)))) (tAndD (tst (dBin ltF (dVar 4) (dVar 3))) (tst (dBin ltF (dVar 4) (dVar 1))))) (sAsg 6 true (dCall F_law_all (aCons (dBin addF (dVar 4) (dC (.int 1))) (aCons (dVar 4) aNil)))) sNext)
    (sRet (dTup (aCons (dVar 3) (aCons (dVar 4) (aCons (dCB (one tupleF) (aCons (dCB (one setF) (aCons (dVar 6) aNil)) aNil)) aNil))))))))))))
def F_law_stack : DenF := fnD 14 2 B_law_stack
def B_law_within : DenS := (sRet (dBin eqF (dLc (iSeq (dVar 0)) [2] (tgN 2) (tst (dBin (inF true) (dVar 2) (dVar 1))) (dVar 2)) (dLst aNil)))
def F_law_within : DenF := fnD 3 2 B_law_within
def B_law_parts : DenS := (sSeq (sAsg 2 true (dLst aNil))
    (sSeq (sFor (iSeq (dCall F_law_all (aCons (dIx (dVar 0) (dC (.int 0))) (aCons (dVar 1) aNil)))) (tgN 3) (sIf (tst (dBin neF (dLc (iSeq (dIx (dVar 0) (dC (.int 2)))) [4] (tgN 4) (tst (dCall F_law_within (aCons (dVar 3) (aCons (dVar 4) aNil)))) (dVar 4)) (dLst aNil))) (sDrop (dMt appF (dVar 2) (aCons (dVar 3) aNil))) sNext))
    (sRet (dVar 2))))
def F_law_parts : DenF := fnD 5 2 B_law_parts
def B_law_told : DenS := (sSeq (sAsg 1 true (dLst aNil))
    (sSeq (sFor (iRange (dBin addF (dIx (dVar 0) (dC (.int 1))) (dC (.int 1)))) (tgN 2) (sSeq (sAsg 1 true (dLc (iZip (aCons (dBin addF (dVar 1) (dLst (aCons (dC (.int 0)) aNil))) (aCons (dBin addF (dLst (aCons (dC (.int 0)) aNil)) (dVar 1)) aNil))) [3, 4] (tgT [3, 4]) tTrue (dBin subF (dVar 3) (dVar 4))))
    (sSet (dBin addF (dIx (dVar 1) (dVar 2)) (dCB (one lenF) (aCons (dCall F_law_parts (aCons (dVar 0) (aCons (dVar 2) aNil))) aNil))) (dVar 1) (dVar 2))))
    (sRet (dCB (one tupleF) (aCons (dVar 1) aNil)))))
def F_law_told : DenF := fnD 5 1 B_law_told
def B_law_powers : DenS := (sSeq (sAsg 1 true (dBin mulF (dLst (aCons (dC (.int 0)) aNil)) (dCB (one lenF) (aCons (dVar 0) aNil))))
    (sSeq (sFor (iEnum (aCons (dVar 0) aNil)) (tgT [2, 3]) (sSeq (sAsg 4 false (dLst (aCons (dVar 3) aNil)))
    (sSeq (sFor (iRange (dBin subF (dBin subF (dCB (one lenF) (aCons (dVar 0) aNil)) (dC (.int 1))) (dVar 2))) (tgN 5) (sAsg 4 false (dLc (iZip (aCons (dBin addF (dVar 4) (dLst (aCons (dC (.int 0)) aNil))) (aCons (dBin addF (dLst (aCons (dC (.int 0)) aNil)) (dVar 4)) aNil))) [8, 9] (tgT [8, 9]) tTrue (dBin addF (dVar 8) (dVar 9)))))
    (sFor (iEnum (aCons (dVar 4) aNil)) (tgT [6, 7]) (sSet (dBin addF (dIx (dVar 1) (dBin addF (dVar 2) (dVar 6))) (dVar 7)) (dVar 1) (dBin addF (dVar 2) (dVar 6)))))))
    (sRet (dCB (one tupleF) (aCons (dVar 1) aNil)))))
def F_law_powers : DenF := fnD 10 1 B_law_powers
def B_law_numbers_of : DenS := (sSeq (sAsg 1 true (dLst aNil))
    (sSeq (sFor (iRange (dBin addF (dC (.int 1)) (dCall F_law_draw (aCons (dVar 0) (aCons (dC (.int 5)) aNil))))) (tgN 2) (sSeq (sAsg 3 false (dIx (dLst (aCons (dC (.int 10)) (aCons (dBin addF (dBin powF (dC (.int 10)) (dC (.int 6))) (dC (.int 1))) aNil))) (dCall F_law_draw (aCons (dVar 0) (aCons (dC (.int 2)) aNil)))))
    (sDrop (dMt appF (dVar 1) (aCons (dBin mulF (dIx (dLst (aCons (dC (.int 1)) (aCons (dNeg (dC (.int 1))) aNil))) (dCall F_law_draw (aCons (dVar 0) (aCons (dC (.int 2)) aNil)))) (dCall F_law_draw (aCons (dVar 0) (aCons (dVar 3) aNil)))) aNil)))))
    (sRet (dCB (one tupleF) (aCons (dVar 1) aNil)))))
def F_law_numbers_of : DenF := fnD 4 1 B_law_numbers_of
def B_law : DenS := (sSeq (sFor (iSeq (dLst (aCons (dTup (aCons (dC (.int 1)) aNil)) (aCons (dTup (aCons (dC (.int 1)) (aCons (dC (.int 0)) aNil))) (aCons (dTup (aCons (dC (.int 0)) (aCons (dBin powF (dC (.int 10)) (dC (.int 6))) (aCons (dNeg (dBin powF (dC (.int 10)) (dC (.int 6)))) aNil)))) (aCons (dTup (aCons (dC (.int 1)) (aCons (dC (.int 4)) (aCons (dC (.int 6)) (aCons (dC (.int 4)) (aCons (dC (.int 1)) aNil)))))) aNil)))))) (tgN 1) (sIf (tNotD (tst (dCall (F_law_same 8) (aCons (dCall F_counts_from (aCons (dVar 1) aNil)) (aCons (dCall F_law_powers (aCons (dVar 1) aNil)) aNil))))) (sRet (dC (.bool false))) sNext))
    (sSeq (sFor (iSeq (dBin addF (dLst (aCons (dCall F_law_cell (aCons (dVar 0) (aCons (dC (.int 0)) aNil))) aNil)) (dSl (dVar 0) (pYes (dC (.int 1))) (pYes (dC (.int 8)))))) (tgN 2) (sSeq (sAsg 3 true (dCall F_law_pen (aCons (dVar 2) aNil)))
    (sSeq (sAsg 4 false (dCall F_law_stack (aCons (dVar 3) (aCons (dC (.int 16)) aNil))))
    (sSeq (sAsg 5 false (dCall F_told (aCons (dVar 4) aNil)))
    (sSeq (sIf (tNotD (tst (dCall (F_law_same 8) (aCons (dVar 5) (aCons (dCall F_law_told (aCons (dVar 4) aNil)) aNil))))) (sRet (dC (.bool false))) sNext)
    (sSeq (sIf (tNotD (tst (dCall (F_law_same 8) (aCons (dCall F_counts_from (aCons (dVar 5) aNil)) (aCons (dCall F_counts (aCons (dVar 4) aNil)) aNil))))) (sRet (dC (.bool false))) sNext)
    (sFor (iRange (dC (.int 3))) (tgN 6) (sSeq (sAsg 1 false (dCall F_law_numbers_of (aCons (dVar 3) aNil)))
    (sIf (tNotD (tst (dCall (F_law_same 8) (aCons (dCall F_counts_from (aCons (dVar 1) aNil)) (aCons (dCall F_law_powers (aCons (dVar 1) aNil)) aNil))))) (sRet (dC (.bool false))) sNext)))))))))
    (sRet (dC (.bool true)))))
def F_law : DenF := fnD 7 1 B_law
end Lw

set_option Elab.async false
set_option linter.all false
set_option maxRecDepth 100000
set_option maxHeartbeats 1000000
/-! Pu1: rows, their parts; plain lists, no program. -/
namespace Pu
open Lf L2
/-- one step: each part found may take x too -/
def grow (m : Int) (found : List (List Int)) (x : Int) : List (List Int) := found ++ (found.filter fun o => decide ((o.length : Int) < m)).map (· ++ [x])
def subs (m : Int) (row : List Int) : List (List Int) := row.foldl (grow m) [[]]
def picked (row : List Int) (m : Int) : List (List Int) := (subs m row).filter fun o => decide ((o.length : Int) = m)
theorem mem_grow {m : Int} {found : List (List Int)} {t : Int} {x : List Int} : x ∈ grow m found t ↔ x ∈ found ∨ ∃ y ∈ found, (y.length : Int) < m ∧ x = y ++ [t] := by
  unfold grow
  rw [List.mem_append, List.mem_map]
  constructor
  · rintro (h | ⟨y, h, rfl⟩)
    · exact .inl h
    · rw [List.mem_filter] at h
      exact .inr ⟨y, h.1, by simpa using h.2, rfl⟩
  · rintro (h | ⟨y, h1, h2, rfl⟩)
    · exact .inl h
    · exact .inr ⟨y, List.mem_filter.mpr ⟨h1, by simpa using h2⟩, rfl⟩
theorem mem_fold {m : Int} {x : List Int} : ∀ (row : List Int) (found : List (List Int)), x ∈ row.foldl (grow m) found ↔ ∃ y ∈ found, ∃ z, z.Sublist row ∧ x = y ++ z ∧ (z = [] ∨ (x.length : Int) ≤ m)
  | [], found => by
    constructor
    · intro h
      exact ⟨x, h, [], List.Sublist.refl _, by simp, .inl rfl⟩
    · rintro ⟨y, hy, z, hz, rfl, _⟩
      rw [List.sublist_nil.mp hz, List.append_nil]
      exact hy
  | t :: row, found => by
    rw [List.foldl_cons, mem_fold row]
    constructor
    · rintro ⟨y', hy, z', hz, rfl, hm⟩
      rcases mem_grow.mp hy with hy2 | ⟨y, hy2, hl, rfl⟩
      · exact ⟨y', hy2, z', hz.cons t, rfl, hm⟩
      · refine ⟨y, hy2, t :: z', hz.cons_cons t, by simp, .inr ?_⟩
        rcases hm with rfl | hm
        · simp; omega
        · exact hm
    · rintro ⟨y, hy, z, hz, rfl, hm⟩
      cases hz with
      | cons _ hz => exact ⟨y, mem_grow.mpr (.inl hy), z, hz, rfl, hm⟩
      | @cons_cons z' _ _ hz =>
        have hm : ((y ++ t :: z').length : Int) ≤ m := by
          rcases hm with h | h
          · cases h
          · exact h
        refine ⟨y ++ [t], mem_grow.mpr (.inr ⟨y, hy, ?_, rfl⟩), z', hz, by simp, .inr (by simpa using hm)⟩
        simp at hm; omega
theorem mem_subs {m : Int} (h0 : 0 ≤ m) {x row : List Int} : x ∈ subs m row ↔ x.Sublist row ∧ (x.length : Int) ≤ m := by
  unfold subs
  rw [mem_fold]
  constructor
  · rintro ⟨y, hy, z, hz, rfl, hm⟩
    simp at hy
    subst hy
    refine ⟨by simpa using hz, ?_⟩
    rcases hm with rfl | hm
    · simpa using h0
    · exact hm
  · rintro ⟨h1, h2⟩
    exact ⟨[], by simp, x, h1, by simp, .inr h2⟩
theorem mem_picked {m : Int} (h0 : 0 ≤ m) {x row : List Int} : x ∈ picked row m ↔ x.Sublist row ∧ (x.length : Int) = m := by
  unfold picked
  rw [List.mem_filter, mem_subs h0]
  simp only [decide_eq_true_eq]
  constructor
  · rintro ⟨⟨a, _⟩, b⟩; exact ⟨a, b⟩
  · rintro ⟨a, b⟩; exact ⟨⟨a, by omega⟩, b⟩
theorem nodup_grow {m : Int} {found : List (List Int)} {t : Int} (h : found.Nodup) (ht : ∀ o ∈ found, t ∉ o) : (grow m found t).Nodup := by
  unfold grow
  rw [List.nodup_append]
  refine ⟨h, ?_, ?_⟩
  · refine List.pairwise_map.mpr (List.Pairwise.imp (fun {a b} hab e => hab ?_) (h.filter _))
    exact (List.append_inj_left' e rfl)
  · intro a ha b hb e
    obtain ⟨y, _, rfl⟩ := List.mem_map.mp hb
    exact ht a ha (by rw [e]; simp)
theorem nodup_fold {m : Int} : ∀ (row : List Int) (found : List (List Int)), found.Nodup → row.Nodup → (∀ o ∈ found, ∀ t ∈ row, t ∉ o) → (row.foldl (grow m) found).Nodup
  | [], found, h, _, _ => h
  | t :: row, found, h, hr, ht => by
    rw [List.foldl_cons]
    rw [List.nodup_cons] at hr
    refine nodup_fold row _ (nodup_grow h fun o ho => ht o ho t List.mem_cons_self) hr.2 fun o ho s hs => ?_
    rcases mem_grow.mp ho with ho | ⟨y, hy, _, rfl⟩
    · exact ht o ho s (List.mem_cons_of_mem _ hs)
    · intro z
      rcases List.mem_append.mp z with z | z
      · exact ht y hy s (List.mem_cons_of_mem _ hs) z
      · have : s = t := by simpa using z
        exact hr.1 (this ▸ hs)
theorem nodup_picked {m : Int} {row : List Int} (h : row.Nodup) : (picked row m).Nodup := (nodup_fold row [[]] (by simp) h (by simp)).filter _
/-- rising -/
abbrev Rising (f : List Int) : Prop := f.Pairwise (· < ·)
theorem Rising.nodup {f : List Int} (h : Rising f) : f.Nodup := h.imp fun {a b} hab e => by omega
theorem rising_sub : ∀ (y x : List Int), Rising x → Rising y → (∀ a ∈ x, a ∈ y) → x.Sublist y
  | [], x, _, _, h => by
    cases x with
    | nil => exact List.Sublist.refl _
    | cons a r => exact absurd (h a List.mem_cons_self) (by simp)
  | b :: y, [], _, _, _ => List.nil_sublist _
  | b :: y, a :: x, hx, hy, h => by
    have hx' := List.pairwise_cons.mp hx
    have hy' := List.pairwise_cons.mp hy
    rcases List.mem_cons.mp (h a List.mem_cons_self) with e | ha
    · subst e
      refine (rising_sub y x hx'.2 hy'.2 fun c hc => ?_).cons_cons a
      rcases List.mem_cons.mp (h c (List.mem_cons_of_mem _ hc)) with e | z
      · have := hx'.1 c hc; omega
      · exact z
    · refine (rising_sub y (a :: x) hx hy'.2 fun c hc => ?_).cons b
      have hba := hy'.1 a ha
      rcases List.mem_cons.mp (h c hc) with e | z
      · rcases List.mem_cons.mp hc with e2 | e2
        · omega
        · have := hx'.1 c e2; omega
      · exact z
/-- 0 .. n - 1 -/
def rgI (n : Int) : List Int := (List.range n.toNat).map fun (j : Nat) => (j : Int)
theorem mem_rgI {n a : Int} : a ∈ rgI n ↔ 0 ≤ a ∧ a < n := by
  unfold rgI
  rw [List.mem_map]
  constructor
  · rintro ⟨j, hj, rfl⟩
    have := List.mem_range.mp hj
    omega
  · intro h
    exact ⟨a.toNat, List.mem_range.mpr (by omega), by omega⟩
theorem rising_rgI (n : Int) : Rising (rgI n) := by
  unfold rgI
  refine List.pairwise_map.mpr (List.Pairwise.imp (fun {a b} h => ?_) List.pairwise_lt_range)
  omega
theorem length_rgI (n : Int) : (rgI n).length = n.toNat := by simp [rgI]
theorem rgD_rgI (n : Int) : rgD 0 n = (rgI n).map PySem.PyData.int := by
  unfold rgD rgI
  rw [List.map_map]
  simp
/-- all rising rows of k out of 0 .. n - 1 -/
def allL (n k : Int) : List (List Int) := sortT (picked (rgI n) k)
structure Face (n k : Int) (f : List Int) : Prop where
  up : Rising f
  inn : ∀ a ∈ f, 0 ≤ a ∧ a < n
  len : (f.length : Int) = k
theorem mem_allL {n k : Int} (h0 : 0 ≤ k) {f : List Int} : f ∈ allL n k ↔ Face n k f := by
  unfold allL
  rw [(sortT_perm _).mem_iff, mem_picked h0]
  constructor
  · rintro ⟨h1, h2⟩
    exact ⟨(rising_rgI n).sublist h1, fun a ha => mem_rgI.mp (h1.subset ha), h2⟩
  · intro h
    exact ⟨rising_sub _ _ h.up (rising_rgI n) fun a ha => mem_rgI.mpr (h.inn a ha), h.len⟩
theorem nodup_allL (n k : Int) : (allL n k).Nodup := (sortT_perm _).nodup_iff.mpr (nodup_picked (rising_rgI n).nodup)
theorem allL_ne {n k : Int} (h0 : 0 ≤ k) (h : k ≤ n) : allL n k ≠ [] := by
  have : rgI k ∈ allL n k := (mem_allL h0).mpr ⟨rising_rgI k, fun a ha => by have := mem_rgI.mp ha; omega, by rw [length_rgI]; omega⟩
  intro e
  rw [e] at this
  cases this
/-! ### the parts of a stack -/
def within (p f : List Int) : Bool := p.all fun a => f.contains a
def partsL (fs : List (List Int)) (m : Int) : List (List Int) := sortT (dd (fs.flatMap fun f => picked f m))
def lawParts (n : Int) (fs : List (List Int)) (m : Int) : List (List Int) := (allL n m).filter fun p => fs.any fun f => within p f
theorem within_iff {p f : List Int} : within p f = true ↔ ∀ a ∈ p, a ∈ f := by
  unfold within
  rw [List.all_eq_true]
  constructor
  · intro h a ha; simpa using h a ha
  · intro h a ha; simpa using h a ha
theorem parts_eq {n k m : Int} {fs : List (List Int)} (h0 : 0 ≤ m) (hf : ∀ f ∈ fs, Face n k f) : partsL fs m = lawParts n fs m := by
  have ps : (partsL fs m).Perm (lawParts n fs m) := by
    refine (List.perm_ext_iff_of_nodup ((sortT_perm _).nodup_iff.mpr (nodup_dd _)) ((nodup_allL n m).filter _)).mpr fun x => ?_
    show x ∈ sortT (dd (fs.flatMap fun f => picked f m)) ↔ x ∈ (allL n m).filter fun p => fs.any fun f => within p f
    rw [(sortT_perm _).mem_iff, mem_dd, List.mem_flatMap, List.mem_filter, mem_allL h0, List.any_eq_true]
    constructor
    · rintro ⟨f, hfm, hx⟩
      obtain ⟨hs, hl⟩ := (mem_picked h0).mp hx
      have ff := hf f hfm
      exact ⟨⟨ff.up.sublist hs, fun a ha => ff.inn a (hs.subset ha), hl⟩, f, hfm, within_iff.mpr fun a ha => hs.subset ha⟩
    · rintro ⟨hx, f, hfm, hw⟩
      exact ⟨f, hfm, (mem_picked h0).mpr ⟨rising_sub _ _ hx.up (hf f hfm).up (within_iff.mp hw), hx.len⟩⟩
  exact sorted_eq ps (sortT_sorted _) ((sortT_sorted _).filter _)
theorem allL_few : ∀ n ∈ [(0 : Int), 1, 2, 3, 4, 5, 6, 7, 8], ∀ m ∈ [(0 : Int), 1, 2, 3, 4, 5], (picked (rgI n) m).length ≤ 70 := by decide +kernel
theorem allL_le {n m : Int} (hn : 0 ≤ n ∧ n ≤ 8) (hm : 0 ≤ m ∧ m ≤ 5) : (allL n m).length ≤ 70 := by
  unfold allL
  rw [(sortT_perm _).length_eq]
  refine allL_few n ?_ m ?_
  · have : n = 0 ∨ n = 1 ∨ n = 2 ∨ n = 3 ∨ n = 4 ∨ n = 5 ∨ n = 6 ∨ n = 7 ∨ n = 8 := by omega
    simpa using this
  · have : m = 0 ∨ m = 1 ∨ m = 2 ∨ m = 3 ∨ m = 4 ∨ m = 5 := by omega
    simpa using this
theorem subs_few {n : Int} (hn : 0 ≤ n ∧ n ≤ 8) : True := trivial
/-! ### a stack -/
structure Stk (n k : Int) (fs : List (List Int)) : Prop where
  n1 : 1 ≤ n
  n8 : n ≤ 8
  k0 : 0 ≤ k
  kn : k ≤ n
  k4 : k ≤ 4
  ne : fs ≠ []
  few : fs.length ≤ 70
  face : ∀ f ∈ fs, Face n k f
  up : fs.Pairwise (· < ·)
/-- a stack as data -/
def stkD (n k : Int) (fs : List (List Int)) : PySem.PyData := .tuple [.int n, .int k, .tuple (fs.map tI)]
theorem lexLt_eq : ∀ a b : List Int, HT.lexLt a b = decide (a < b)
  | [], [] => by simp [HT.lexLt]
  | [], y :: ys => by simp [HT.lexLt]
  | x :: xs, [] => by simp [HT.lexLt]
  | x :: xs, y :: ys => by
    rw [HT.lexLt, lexLt_eq xs ys]
    by_cases h : x = y
    · subst h; simp [List.cons_lt_cons_iff]
    · simp [h, List.cons_lt_cons_iff]
theorem lt_of_le_ne {a b : List Int} (h : leT a b = true) (ne : a ≠ b) : a < b := by
  unfold leT at h
  have h : a ≤ b := by simpa using h
  by_cases h2 : a < b
  · exact h2
  · exact absurd (List.le_antisymm h (List.not_lt.mp h2)) ne
end Pu

set_option Elab.async false
set_option linter.all false
set_option maxRecDepth 100000
set_option maxHeartbeats 1000000
namespace Lw
open PySem PySem.Spec PyProof.Rows L2 Lf
@[simp] def isW : PyData → Bool
  | .int _ => true
  | _ => false
theorem E_is_whole (x : PyData) (M : Mem) : F_is_whole [.d x] M = .val (vB (isW x)) M := by
  refine fn_eval rfl ?_
  cases x <;> simp [B_is_whole, endR, retR]
theorem E_is_from (x lo hi : Int) (M : Mem) : F_is_from [.d (.int x), .d (.int lo), .d (.int hi)] M = .val (vB (decide (lo ≤ x) && decide (x ≤ hi))) M := by
  refine fn_eval rfl ?_
  simp [B_is_from, endR, retR, E_is_whole]
  by_cases h : lo ≤ x <;> simp [h, endR, retR]
/-- the pen: a number and a way -/
def pen (c b : Int) : PyData := .list [.int c, .int b]
theorem E_law_draw {M : Mem} {l : Nat} {c b n : Int} (hM : M[l]? = some (pen c b)) (h0 : 0 < n) (h1 : n < 2 ^ 64) : ∃ v c', 0 ≤ v ∧ v < n ∧ F_law_draw [.r l, .d (.int n)] M = .val (vI v) (M.set l (pen c' b)) := by
  have hn : n.natAbs.log2 < 9000 := by
    have : n.natAbs < 2 ^ 64 := by omega
    have : n.natAbs.log2 ≤ 64 := by
      by_cases hz : n.natAbs = 0
      · rw [hz]; decide
      · have := (Nat.log2_lt hz).mpr this
        omega
    omega
  have gs : ∀ x, (M.set l x)[l]? = some x := fun x => List.getElem?_set_self (List.getElem?_eq_some_iff.mp hM).1
  have gt : ∀ x, (M.set l x).take M.length = M.set l x := fun x => List.take_of_length_le (by rw [List.length_set]; exact Nat.le_refl _)
  by_cases hb : b = 1
  · subst hb
    refine ⟨c % n, c / n, Int.emod_nonneg _ (by omega), Int.emod_lt_of_pos _ h0, fn_eval rfl ?_⟩
    simp [B_law_draw, endR, retR, hM, pen, h0, hn, gs, gt]
  · generalize hp : (c % 2147483629 * 48271 + 11) % 2147483629 = p
    have hp1 : p.natAbs < 18446744073709551616 := by omega
    have h8 : Nat.log2 8 < 9000 := by decide +kernel
    refine ⟨(p * p + 40692 * p) % 2147483647 / 8 % n, p, Int.emod_nonneg _ (by omega), Int.emod_lt_of_pos _ h0, fn_eval rfl ?_⟩
    simp [B_law_draw, endR, retR, hM, pen, h0, hn, gs, gt, hb, hp, hp1, h8]
theorem E_law_cell (ns : List Int) (M : Mem) : ∃ c : Int, F_law_cell [.k (ns.map .int), .d (.int 0)] M = .val (vI c) M := by
  cases ns with
  | nil => exact ⟨0, fn_eval rfl (by simp [B_law_cell, endR, retR])⟩
  | cons c r => exact ⟨c, fn_eval rfl (by simp [B_law_cell, endR, retR])⟩
theorem E_law_pen (c : Int) (M : Mem) : ∃ b : Int, F_law_pen [.d (.int c)] M = .val (.own (pen c b)) M := by
  refine ⟨if 10 ^ 18 ≤ c then 1 else 0, fn_eval rfl ?_⟩
  have hp : (10 : Int) ^ (Int.toNat 18) = 10 ^ 18 := rfl
  by_cases h : (1000000000000000000 : Int) ≤ c <;> simp [B_law_pen, endR, retR, lstR, sizeLine, pen, h, hp]
theorem E_same_int (n : Nat) (a : Int) (M : Mem) : F_law_same (n + 1) [.d (.int a), .d (.int a)] M = .val (vB true) M := by
  unfold F_law_same
  refine fn_eval rfl ?_
  simp [endR, retR]
theorem zip_self (a : List PyData) : ∀ x ∈ List.zipWith pairD a a, ∃ y ∈ a, x = pairD y y := by
  induction a with
  | nil => intro x hx; simp at hx
  | cons y r ih =>
    intro x hx
    rw [List.zipWith_cons_cons] at hx
    rcases List.mem_cons.mp hx with rfl | hx
    · exact ⟨y, List.mem_cons_self, rfl⟩
    · obtain ⟨z, hz, e⟩ := ih x hx
      exact ⟨z, List.mem_cons_of_mem _ hz, e⟩
theorem E_same_tup (n : Nat) (a : List Int) (M : Mem) (hl : a.length ≤ sizeLine) : F_law_same (n + 2) [.d (.tuple (a.map .int)), .d (.tuple (a.map .int))] M = .val (vB true) M := by
  unfold F_law_same
  refine fn_eval rfl ?_
  obtain ⟨L, bs, key, hb, ha⟩ : ∃ L bs, dLc (iZip (aCons (dVar 0) (aCons (dVar 1) aNil))) [2, 3] (tgT [2, 3]) tTrue (dCall (F_law_same (n + 1)) (aCons (dVar 2) (aCons (dVar 3) aNil))) [some (.d (.tuple (a.map .int))), some (.d (.tuple (a.map .int))), none, none] M = .val (.own (.list L)) M ∧ boolsD L = some bs ∧ bs.all id = (List.zipWith Lf.pairD (a.map .int) (a.map .int)).all fun _ => true := by
    refine lc_all (fun _ => true) (chk := fun _ => true) ?_ (fun _ => rfl) (by simpa using hl) fun acc x hx => ?_
    · simp
    · obtain ⟨y, hy, rfl⟩ := zip_self _ x hx
      obtain ⟨m, _, rfl⟩ := List.mem_map.mp hy
      refine ⟨[some (.d (.tuple (a.map .int))), some (.d (.tuple (a.map .int))), some (.d (.int m)), some (.d (.int m))], by simp [Lf.pairD], ?_⟩
      simp [E_same_int]
  have ha2 : bs.all id = true := by rw [ha]; simp
  simp only [List.all_eq_true, id_eq] at ha2
  simp [key, hb, endR, retR]
  exact fun h => by simpa using ha2 false h
end Lw

set_option Elab.async false
set_option linter.all false
set_option maxRecDepth 100000
set_option maxHeartbeats 1000000
namespace Lw
open PySem PySem.Spec PyProof.Rows L2 Lf Pu
theorem length_grow (m : Int) (found : List (List Int)) (x : Int) : (grow m found x).length ≤ 2 * found.length := by
  unfold grow
  have := List.length_filter_le (fun o : List Int => decide ((o.length : Int) < m)) found
  simp
  omega
theorem length_fold (m : Int) : ∀ (row : List Int) (found : List (List Int)), (row.foldl (grow m) found).length ≤ 2 ^ row.length * found.length
  | [], found => by simp
  | x :: row, found => by
    rw [List.foldl_cons, List.length_cons, Nat.pow_succ]
    have h1 := length_fold m row (grow m found x)
    have h2 := length_grow m found x
    calc _ ≤ 2 ^ row.length * (grow m found x).length := h1
      _ ≤ 2 ^ row.length * (2 * found.length) := Nat.mul_le_mul_left _ h2
      _ = 2 ^ row.length * 2 * found.length := by rw [Nat.mul_assoc]
/-- the comprehension of a step -/
theorem grow_lc {v0 v4 : Option Wv} {m x : Int} {found : List (List Int)} {M : Mem} (hl : found.length ≤ sizeLine) (ho : ∀ o ∈ found, o.length < sizeLine) :
    dLc (iSeq (dVar 2)) [4] (tgN 4) (tst (dBin ltF (dCB (one lenF) (aCons (dVar 4) aNil)) (dVar 1))) (dBin addF (dVar 4) (dTup (aCons (dVar 3) aNil))) [v0, some (.d (.int m)), some (.d (.list (found.map tI))), some (.d (.int x)), v4] M
      = .val (.own (.list (((found.filter fun o => decide ((o.length : Int) < m)).map (· ++ [x])).map tI))) M := by
  rw [lc_eval (items := found.map tI) (chk := fun _ => true) (M := M) (fun d => match d with | .tuple ds => decide ((ds.length : Int) < m) | _ => false) (fun d => match d with | .tuple ds => .tuple (ds ++ [.int x]) | d => d) (by simp) (fun _ => rfl) (by simpa using hl) fun acc d hd => ?_]
  · rw [List.filter_map, List.map_map, List.map_map]
    have e1 : ((fun d => match d with | .tuple ds => decide ((ds.length : Int) < m) | _ => false : PyData → Bool) ∘ tI) = fun o => decide ((o.length : Int) < m) := by
      funext o; simp [tI]
    rw [e1]
    congr 3
    refine List.map_congr_left fun o _ => ?_
    simp [tI]
  · obtain ⟨o, hom, rfl⟩ := List.mem_map.mp hd
    have := ho o hom
    refine ⟨[v0, some (.d (.int m)), some (.d (.list (found.map tI))), some (.d (.int x)), some (.d (tI o))], by simp, ?_, fun _ => ⟨.w (.d (.tuple (o.map .int ++ [.int x]))), ?_, rfl⟩⟩
    · simp [tI]
    · simp [tI, tupR, show o.length + 1 ≤ sizeLine by omega, show 1 ≤ sizeLine by decide]
/-- the comprehension at the end -/
theorem same_lc {v0 v3 v4 : Option Wv} {m : Int} {found : List (List Int)} {M : Mem} (hl : found.length ≤ sizeLine) :
    dLc (iSeq (dVar 2)) [4] (tgN 4) (tst (dBin eqF (dCB (one lenF) (aCons (dVar 4) aNil)) (dVar 1))) (dVar 4) [v0, some (.d (.int m)), some (.d (.list (found.map tI))), v3, v4] M
      = .val (.own (.list ((found.filter fun o => decide ((o.length : Int) = m)).map tI))) M := by
  rw [lc_eval (items := found.map tI) (chk := fun _ => true) (M := M) (fun d => match d with | .tuple ds => decide ((ds.length : Int) = m) | _ => false) (fun d => d) (by simp) (fun _ => rfl) (by simpa using hl) fun acc d hd => ?_]
  · rw [List.filter_map, List.map_map]
    have e1 : ((fun d => match d with | .tuple ds => decide ((ds.length : Int) = m) | _ => false : PyData → Bool) ∘ tI) = fun o => decide ((o.length : Int) = m) := by
      funext o; simp [tI]
    rw [e1]
    rfl
  · obtain ⟨o, hom, rfl⟩ := List.mem_map.mp hd
    refine ⟨[v0, some (.d (.int m)), some (.d (.list (found.map tI))), v3, some (.d (tI o))], by simp, ?_, fun _ => ⟨.w (.d (tI o)), by simp, rfl⟩⟩
    simp [tI]
/-- the loop of picked and of _law_all -/
theorem grow_for {it : En → Mem → Ans Items} {v0 v3 v4 : Option Wv} {m : Int} {row : List Int} {M : Mem} (hi : it [v0, some (.d (.int m)), some (.d (.list [.tuple []])), v3, v4] M = .val (row.map .int, fun _ => true) M) (hr : row.length ≤ 10) :
    ∃ v3' v4', sFor it (tgN 3) (sAsg 2 false (dBin addF (dVar 2) (dLc (iSeq (dVar 2)) [4] (tgN 4) (tst (dBin ltF (dCB (one lenF) (aCons (dVar 4) aNil)) (dVar 1))) (dBin addF (dVar 4) (dTup (aCons (dVar 3) aNil)))))) [v0, some (.d (.int m)), some (.d (.list [.tuple []])), v3, v4] M
      = .next [v0, some (.d (.int m)), some (.d (.list ((subs m row).map tI))), v3', v4'] M := by
  have hs : ∀ d x r e M1, row = d ++ x :: r → (∃ v3 v4, M1 = M ∧ e = [v0, some (.d (.int m)), some (.d (.list ((subs m d).map tI))), v3, v4]) → (fun _ : Mem => true) M1 = true ∧ ∃ e1, tgN 3 (.int x) e = some e1 ∧ ∃ e2 M2,
      sAsg 2 false (dBin addF (dVar 2) (dLc (iSeq (dVar 2)) [4] (tgN 4) (tst (dBin ltF (dCB (one lenF) (aCons (dVar 4) aNil)) (dVar 1))) (dBin addF (dVar 4) (dTup (aCons (dVar 3) aNil))))) e1 M1 = .next e2 M2 ∧ ∃ v3 v4, M2 = M ∧ e2 = [v0, some (.d (.int m)), some (.d (.list ((subs m (d ++ [x])).map tI))), v3, v4] := by
    intro ns xi rest e M1 hrow hR
    obtain ⟨v3, v4, rfl, rfl⟩ := hR
    have hlen : ns.length < 10 := by
      rw [hrow] at hr
      simp at hr
      omega
    have hf : (subs m ns).length ≤ 2 ^ 10 := by
      have := length_fold m ns [[]]
      have h2 : 2 ^ ns.length ≤ 2 ^ 10 := Nat.pow_le_pow_right (by decide) (by omega)
      unfold subs
      simp at this
      omega
    have ho : ∀ o ∈ subs m ns, o.length < sizeLine := fun o hom => by
      obtain ⟨y, hy, z, hz, e, _⟩ := (mem_fold ns [[]]).mp hom
      simp at hy
      subst hy
      have := hz.length_le
      rw [e, sizeLine]
      simp
      omega
    refine ⟨rfl, _, rfl, [v0, some (.d (.int m)), some (.d (.list ((subs m (ns ++ [xi])).map tI))), some (.d (.int xi)), v4], M1, ?_, some (.d (.int xi)), v4, rfl, rfl⟩
    have hg := grow_lc (v0 := v0) (v4 := v4) (m := m) (x := xi) (M := M1) (show (subs m ns).length ≤ sizeLine by rw [sizeLine]; omega) ho
    simp only [sAsg, dBin, dVar, tgN, List.set, List.getElem?_cons_zero, List.getElem?_cons_succ, Ans.bind, hg]
    have hlen2 : ((subs m ns).filter fun o => decide ((o.length : Int) < m)).length ≤ 2 ^ 10 := Nat.le_trans (List.length_filter_le _ _) hf
    have hz : (subs m ns).length + ((subs m ns).filter fun o => decide ((o.length : Int) < m)).length ≤ sizeLine := by rw [sizeLine]; omega
    simp only [opR, Rv.fz, Wv.rd, addF, List.length_map]
    rw [if_pos hz]
    have e : subs m (ns ++ [xi]) = grow m (subs m ns) xi := by unfold subs; rw [List.foldl_append]; rfl
    rw [e]
    unfold grow
    rw [List.map_append]
    rfl
  obtain ⟨e', M', h1, v3', v4', h3, h4⟩ := for_map PyData.int row (fun done e M' => ∃ v3 v4, M' = M ∧ e = [v0, some (.d (.int m)), some (.d (.list ((subs m done).map tI))), v3, v4]) hi ⟨v3, v4, rfl, rfl⟩ hs (fun _ _ _ => rfl)
  subst h3 h4
  exact ⟨v3', v4', h1⟩
end Lw

set_option Elab.async false
set_option linter.all false
set_option maxRecDepth 100000
set_option maxHeartbeats 1000000
namespace Lw
open PySem PySem.Spec PyProof.Rows L2 Lf Pu
theorem E_picked {row : List Int} {m : Int} {M : Mem} (hr : row.length ≤ 10) : F_picked [.d (.tuple (row.map .int)), .d (.int m)] M = .val (.own (.list ((picked row m).map tI))) M := by
  refine fn_eval rfl ?_
  obtain ⟨v3, v4, hfor⟩ := grow_for (it := iSeq (dVar 0)) (v0 := some (.d (.tuple (row.map .int)))) (v3 := none) (v4 := none) (m := m) (row := row) (M := M) (by simp) hr
  have hf : (subs m row).length ≤ 2 ^ 10 := by
    have := length_fold m row [[]]
    have h2 : 2 ^ row.length ≤ 2 ^ 10 := Nat.pow_le_pow_right (by decide) (by omega)
    unfold subs
    simp at this
    omega
  have hs := same_lc (v0 := some (.d (.tuple (row.map .int)))) (v3 := v3) (v4 := v4) (m := m) (M := M) (found := subs m row) (by rw [sizeLine]; omega)
  unfold B_picked
  rw [seq_next (e' := [some (.d (.tuple (row.map .int))), some (.d (.int m)), some (.d (.list [.tuple []])), none, none]) (M' := M) (by simp [lstR, tupR, sizeLine]), seq_next hfor]
  simp only [sRet, hs, Ans.go, endR, retR, List.take_length]
  rfl
theorem ne_nil_or {row : List Int} {k : Int} (hk : 0 ≤ k) (hn : row.Nodup) : (picked row k).length ≤ 1 ∨ ∀ x ∈ picked row k, x ≠ [] := by
  by_cases h : k = 0
  · refine .inl ?_
    subst h
    have h1 : ∀ x ∈ picked row 0, x = [] := fun x hx => by
      have := ((mem_picked (by omega)).mp hx).2
      exact List.length_eq_zero_iff.mp (by omega)
    have h2 := nodup_picked (m := 0) hn
    cases hp : picked row 0 with
    | nil => simp
    | cons a r =>
      cases r with
      | nil => simp
      | cons b r =>
        rw [hp] at h1 h2
        have e1 := h1 a (by simp)
        have e2 := h1 b (by simp)
        simp [e1, e2] at h2
  · refine .inr fun x hx e => ?_
    have := ((mem_picked hk).mp hx).2
    rw [e] at this
    simp at this
    omega
theorem picked_len {row : List Int} {m : Int} (hr : row.length ≤ 10) : (picked row m).length ≤ 2 ^ 10 := by
  have := length_fold m row [[]]
  have h2 : 2 ^ row.length ≤ 2 ^ 10 := Nat.pow_le_pow_right (by decide) (by omega)
  have h3 := List.length_filter_le (fun o : List Int => decide ((o.length : Int) = m)) (subs m row)
  unfold picked
  unfold subs at h3 ⊢
  simp at this
  omega
theorem E_law_all {n k : Int} {M : Mem} (hn : 0 ≤ n ∧ n ≤ 10) (hk : 0 ≤ k) : F_law_all [.d (.int n), .d (.int k)] M = .val (.own (.list ((allL n k).map tI))) M := by
  refine fn_eval rfl ?_
  have hr : (rgI n).length ≤ 10 := by rw [length_rgI]; omega
  have hrg : -(2 ^ 62) ≤ n ∧ n < 2 ^ 62 := by omega
  obtain ⟨v3, v4, hfor⟩ := grow_for (it := iRange (dVar 0)) (v0 := some (.d (.int n))) (v3 := none) (v4 := none) (m := k) (row := rgI n) (M := M) (by rw [← rgD_rgI]; simp; omega) hr
  have hf : (subs k (rgI n)).length ≤ 2 ^ 10 := by
    have := length_fold k (rgI n) [[]]
    have h2 : 2 ^ (rgI n).length ≤ 2 ^ 10 := Nat.pow_le_pow_right (by decide) (by omega)
    unfold subs
    simp at this
    omega
  have hs := same_lc (v0 := some (.d (.int n))) (v3 := v3) (v4 := v4) (m := k) (M := M) (found := subs k (rgI n)) (by rw [sizeLine]; omega)
  have hok : sortOk ((picked (rgI n) k).map tI) = true := sortOk_tups (by have := picked_len (m := k) hr; rw [sizeLine]; omega) (ne_nil_or hk (rising_rgI n).nodup)
  unfold B_law_all
  rw [seq_next (e' := [some (.d (.int n)), some (.d (.int k)), some (.d (.list [.tuple []])), none, none]) (M' := M) (by simp [lstR, tupR, sizeLine]), seq_next hfor]
  have e0 : ((subs k (rgI n)).filter fun o => decide ((o.length : Int) = k)) = picked (rgI n) k := rfl
  rw [e0] at hs
  simp only [sRet, dCB, aCons, aNil, hs, Ans.bind, Rv.fz, cbR, one, Wv.rdK, Option.bind, sortF]
  rw [if_pos hok, sortD_tups]
  simp only [Ans.go, endR, retR, List.take_length]
  rfl
theorem sh_ints (ns : List Int) : SeqAt.shaped (.list (ns.map .int)) = true := by
  have := Lf.depthAll_ints ns
  simp [SeqAt.shaped, PyData.canLay0, PyData.depth, canLay_ints]
  omega
theorem sh_tI (ns : List Int) : SeqAt.shaped (tI ns) = true := by
  have := Lf.depthAll_ints ns
  simp [tI, SeqAt.shaped, PyData.canLay0, PyData.depth, canLay_ints]
  omega
theorem depthAll_tups : ∀ a : List (List Int), PyData.depthAll (a.map tI) ≤ 3
  | [] => by simp [PyData.depthAll]
  | x :: a => by
    have := depthAll_tups a
    have h2 := Lf.depthAll_ints x
    rw [List.map_cons]
    simp only [PyData.depthAll, PyData.depth, tI]
    omega
theorem sh_tups (l : List (List Int)) : SeqAt.shaped (.list (l.map tI)) = true := by
  have := depthAll_tups l
  simp [SeqAt.shaped, PyData.canLay0, PyData.depth, canLay_tups]
  omega
@[simp] theorem eqv_nil (d : PyData) (ds : List PyData) : PyData.eqv (.list (d :: ds)) (.list []) = false := by simp [PyData.eqv, PyData.eqvAll]
@[simp] theorem eqv_nil2 : PyData.eqv (.list []) (.list []) = true := by simp [PyData.eqv, PyData.eqvAll]
@[simp] theorem sh_nil : SeqAt.shaped (.list []) = true := sh_ints []
theorem any_eqv_ints (x : Int) (f : List Int) : (f.map PyData.int).any (fun z => PyData.eqv z (.int x)) = f.contains x := by
  rw [List.any_map, List.contains_eq_any_beq]
  congr 1
  funext y
  simp [Bool.beq_eq_decide_eq, eq_comm]
theorem E_law_within {p f : List Int} {M : Mem} (hp : p.length ≤ sizeLine) : F_law_within [.d (.tuple (p.map .int)), .d (.tuple (f.map .int))] M = .val (vB (within p f)) M := by
  refine fn_eval rfl ?_
  have key : dLc (iSeq (dVar 0)) [2] (tgN 2) (tst (dBin (inF true) (dVar 2) (dVar 1))) (dVar 2) [some (.d (.tuple (p.map .int))), some (.d (.tuple (f.map .int))), none] M = .val (.own (.list ((p.filter fun a => !f.contains a).map .int))) M := by
    rw [lc_eval (items := p.map .int) (chk := fun _ => true) (M := M) (fun d => match d with | .int a => !f.contains a | _ => false) (fun d => d) (by simp) (fun _ => rfl) (by simpa using hp) fun acc d hd => ?_]
    · rw [List.filter_map, List.map_map]
      rfl
    · obtain ⟨a, _, rfl⟩ := List.mem_map.mp hd
      refine ⟨[some (.d (.tuple (p.map .int))), some (.d (.tuple (f.map .int))), some (.d (.int a))], by simp, ?_, fun _ => ⟨.w (.d (.int a)), by simp, rfl⟩⟩
      have h1 := canLay_ints f
      have h2 := any_eqv_ints a f
      simp only [tst, dBin, dVar, List.getElem?_cons_zero, List.getElem?_cons_succ, Ans.bind, opR, Rv.fz, Wv.rd, inF, sh_int, h1, and_self, if_true, h2]
      rfl
  have hs := sh_ints (p.filter fun a => !f.contains a)
  have hw : within p f = PyData.eqv (.list ((p.filter fun a => !f.contains a).map .int)) (.list []) := by
    cases hq : p.filter fun a => !f.contains a with
    | nil =>
      rw [List.map_nil, eqv_nil2, within_iff]
      intro a ha
      have := List.filter_eq_nil_iff.mp hq a ha
      simpa using this
    | cons a r =>
      rw [List.map_cons, eqv_nil]
      have hm : a ∈ p.filter fun a => !f.contains a := by rw [hq]; exact List.mem_cons_self
      rw [List.mem_filter] at hm
      rw [Bool.eq_false_iff]
      intro h
      have := within_iff.mp h a hm.1
      simp at hm
      exact hm.2 this
  rw [hw]
  unfold B_law_within
  simp only [sRet, dBin, key, Ans.bind, dLst, aNil, lstR, dats, List.length_nil, Nat.zero_le, if_true, opR, Rv.fz, Wv.rd, eqF, hs, sh_nil, and_self, Ans.go, endR, retR, List.take_length, List.map_cons, List.map_nil, List.cons_append, List.nil_append, List.replicate]
  rfl
end Lw

set_option Elab.async false
set_option linter.all false
set_option maxRecDepth 100000
set_option maxHeartbeats 1000000
namespace Lw
open PySem PySem.Spec PyProof.Rows L2 Lf Pu
/-- the dict that marks parts -/
def markD (ks : List (List Int)) : List (PyData × PyData) := ks.map fun o => (tI o, .bool true)
theorem beqD_tI (a b : List Int) : beqD (tI a) (tI b) = decide (a = b) := by
  by_cases h : a = b
  · rw [decide_eq_true h]; exact beqD_iff.mpr (by rw [h])
  · rw [decide_eq_false h, Bool.eq_false_iff]; exact fun z => h (tI_inj (beqD_iff.mp z))
theorem put_mark (ks : List (List Int)) (o : List Int) : putD (tI o) (.bool true) (markD ks) = markD (if o ∈ ks then ks else ks ++ [o]) := by
  unfold putD markD
  have e1 : ((ks.map fun o => (tI o, PyData.bool true)).any fun p => beqD p.1 (tI o)) = decide (o ∈ ks) := by
    rw [List.any_map]
    rw [Bool.eq_iff_iff]
    simp only [List.any_eq_true, Function.comp, beqD_tI, decide_eq_true_eq]
    constructor
    · rintro ⟨x, hx, rfl⟩; exact hx
    · intro h; exact ⟨o, h, rfl⟩
  rw [e1]
  by_cases h : o ∈ ks
  · rw [if_pos (decide_eq_true h), if_pos h, List.map_map]
    refine List.map_congr_left fun x _ => ?_
    simp only [Function.comp, beqD_tI]
    split <;> rfl
  · rw [if_neg (by simpa using h), if_neg h, List.map_append]
    rfl
theorem keyT_ints : ∀ o : List Int, (keyT (o.map .int)).isSome = true
  | [] => rfl
  | x :: o => by
    rw [List.map_cons]
    unfold keyT
    have := keyT_ints o
    cases h : keyT (o.map .int) with
    | none => rw [h] at this; cases this
    | some k => simp [key1]
theorem tupKeys_mark : ∀ ks : List (List Int), tupKeys (markD ks) = true
  | [] => rfl
  | o :: ks => by
    show tupKeys ((tI o, .bool true) :: markD ks) = true
    unfold tI
    simp only [tupKeys]
    exact tupKeys_mark ks
theorem keyOk_mark (o : List Int) (ks : List (List Int)) : keyOk (tI o) (markD ks) = true := by
  show ((keyT (o.map .int)).isSome && tupKeys (markD ks)) = true
  rw [keyT_ints, tupKeys_mark]
  rfl
theorem E_all_parts {n k m : Int} {fs : List (List Int)} {M : Mem} (S : Stk n k fs) (hm : 0 ≤ m) (hmk : m ≤ k) : F_all_parts [.d (stkD n k fs), .d (.int m)] M = .val (.own (.list ((partsL fs m).map tI))) M := by
  refine fn_eval rfl ?_
  have hlenf : ∀ f ∈ fs, f.length ≤ 10 := fun f hf => by have := (S.face f hf).len; have := S.k4; omega
  -- the inner loop
  have inner : ∀ (f : List Int) (v3 v4 : Option Wv) (ks : List (List Int)), f.length ≤ 10 → ks.length ≤ 70 * 2 ^ 10 → ks.Nodup →
      ∃ v4' ks', sFor (iSeq (dCall F_picked (aCons (dVar 3) (aCons (dVar 1) aNil)))) (tgN 4) (sSet (dC (.bool true)) (dVar 2) (dVar 4)) [some (.d (stkD n k fs)), some (.d (.int m)), some (.r M.length), some (.d (tI f)), v4] (M ++ [.dict (markD ks)])
        = .next [some (.d (stkD n k fs)), some (.d (.int m)), some (.r M.length), some (.d (tI f)), v4'] (M ++ [.dict (markD ks')]) ∧ ks'.Nodup ∧ (∀ x, x ∈ ks' ↔ x ∈ ks ∨ x ∈ picked f m) ∧ ks'.length ≤ ks.length + 2 ^ 10 := by
    intro f v3 v4 ks hf hks hnd
    have hpl := picked_len (m := m) hf
    have hs : ∀ d x r e M1, picked f m = d ++ x :: r → (∃ v4' ks', e = [some (.d (stkD n k fs)), some (.d (.int m)), some (.r M.length), some (.d (tI f)), v4'] ∧ M1 = M ++ [.dict (markD ks')] ∧ ks'.Nodup ∧ (∀ x, x ∈ ks' ↔ x ∈ ks ∨ x ∈ d) ∧ ks'.length ≤ ks.length + d.length) →
        (fun _ : Mem => true) M1 = true ∧ ∃ e1, tgN 4 (tI x) e = some e1 ∧ ∃ e2 M2, sSet (dC (.bool true)) (dVar 2) (dVar 4) e1 M1 = .next e2 M2 ∧ ∃ v4' ks', e2 = [some (.d (stkD n k fs)), some (.d (.int m)), some (.r M.length), some (.d (tI f)), v4'] ∧ M2 = M ++ [.dict (markD ks')] ∧ ks'.Nodup ∧ (∀ y, y ∈ ks' ↔ y ∈ ks ∨ y ∈ d ++ [x]) ∧ ks'.length ≤ ks.length + (d ++ [x]).length := by
      rintro d x r e M1 hd ⟨v4', ks', rfl, rfl, h1, h2, h3⟩
      have hdl : d.length < (picked f m).length := by rw [hd]; simp
      have hl : (markD ks').length < sizeLine := by unfold markD; rw [List.length_map, sizeLine]; omega
      refine ⟨rfl, _, rfl, [some (.d (stkD n k fs)), some (.d (.int m)), some (.r M.length), some (.d (tI f)), some (.d (tI x))], M ++ [.dict (markD (if x ∈ ks' then ks' else ks' ++ [x]))], ?_, some (.d (tI x)), _, rfl, rfl, ?_, ?_, ?_⟩
      · have hk := keyOk_mark x ks'
        have hM : (M ++ [PyData.dict (markD ks')])[M.length]? = some (.dict (markD ks')) := by simp
        have hset : ∀ c, (M ++ [PyData.dict (markD ks')]).set M.length c = M ++ [c] := fun c => by simp
        show setR (.r M.length) (.d (tI x)) (.d (.bool true)) [some (.d (stkD n k fs)), some (.d (.int m)), some (.r M.length), some (.d (tI f)), some (.d (tI x))] (M ++ [.dict (markD ks')]) = _
        unfold setR
        simp only [hM]
        rw [if_pos ⟨hk, hl⟩, put_mark, hset]
      · split
        · exact h1
        · rename_i hx
          rw [List.nodup_append]
          exact ⟨h1, by simp, fun a ha b hb e => hx (by have : b = x := by simpa using hb
                                                        rw [← this, ← e]; exact ha)⟩
      · intro y
        split
        · rename_i hx
          rw [h2, List.mem_append]
          constructor
          · rintro (z | z)
            · exact .inl z
            · exact .inr (.inl z)
          · rintro (z | z | z)
            · exact .inl z
            · exact .inr z
            · have : y = x := by simpa using z
              subst this
              exact (h2 y).mp hx
        · rw [List.mem_append, h2, List.mem_append]
          constructor
          · rintro ((z | z) | z)
            · exact .inl z
            · exact .inr (.inl z)
            · exact .inr (.inr z)
          · rintro (z | z | z)
            · exact .inl (.inl z)
            · exact .inl (.inr z)
            · exact .inr z
      · split <;> simp <;> omega
    have hit : iSeq (dCall F_picked (aCons (dVar 3) (aCons (dVar 1) aNil))) [some (.d (stkD n k fs)), some (.d (.int m)), some (.r M.length), some (.d (tI f)), v4] (M ++ [.dict (markD ks)]) = .val ((picked f m).map tI, fun _ => true) (M ++ [.dict (markD ks)]) := by
      have hp := E_picked (m := m) (M := M ++ [.dict (markD ks)]) hf
      simp only [iSeq, dCall, aCons, dVar, List.getElem?_cons_zero, List.getElem?_cons_succ, Ans.bind, aNil, Rv.fz]
      unfold tI
      rw [hp]
      rfl
    obtain ⟨e', M', h1, v4', ks', rfl, rfl, h4, h5, h6⟩ := for_map tI (picked f m) _ hit ⟨v4, ks, rfl, rfl, hnd, fun x => by simp, by simp⟩ hs (fun _ _ _ => rfl)
    exact ⟨v4', ks', h1, h4, h5, by omega⟩
  -- the outer loop
  have hs : ∀ d x r e M1, fs = d ++ x :: r → (∃ v3 v4 ks, e = [some (.d (stkD n k fs)), some (.d (.int m)), some (.r M.length), v3, v4] ∧ M1 = M ++ [.dict (markD ks)] ∧ ks.Nodup ∧ (∀ x, x ∈ ks ↔ x ∈ d.flatMap fun f => picked f m) ∧ ks.length ≤ 2 ^ 10 * d.length) →
      (fun _ : Mem => true) M1 = true ∧ ∃ e1, tgN 3 (tI x) e = some e1 ∧ ∃ e2 M2, sFor (iSeq (dCall F_picked (aCons (dVar 3) (aCons (dVar 1) aNil)))) (tgN 4) (sSet (dC (.bool true)) (dVar 2) (dVar 4)) e1 M1 = .next e2 M2 ∧
        ∃ v3 v4 ks, e2 = [some (.d (stkD n k fs)), some (.d (.int m)), some (.r M.length), v3, v4] ∧ M2 = M ++ [.dict (markD ks)] ∧ ks.Nodup ∧ (∀ y, y ∈ ks ↔ y ∈ (d ++ [x]).flatMap fun f => picked f m) ∧ ks.length ≤ 2 ^ 10 * (d ++ [x]).length := by
    rintro d x r e M1 hd ⟨v3, v4, ks, rfl, rfl, h1, h2, h3⟩
    have hdl : d.length < fs.length := by rw [hd]; simp
    have := S.few
    obtain ⟨v4', ks', g1, g2, g3, g4⟩ := inner x v3 v4 ks (hlenf x (by rw [hd]; simp)) (by omega) h1
    refine ⟨rfl, _, rfl, _, _, g1, _, _, ks', rfl, rfl, g2, fun y => ?_, by simp; omega⟩
    rw [g3, h2]
    simp
  have hit : iSeq (dIx (dVar 0) (dC (.int 2))) [some (.d (stkD n k fs)), some (.d (.int m)), some (.r M.length), none, none] (M ++ [.dict (markD [])]) = .val (fs.map tI, fun _ => true) (M ++ [.dict (markD [])]) := by
    simp [stkD]
  obtain ⟨e', M', h1, v3, v4, ks, rfl, rfl, h4, h5, h6⟩ := for_map tI fs (fun d e M1 => ∃ v3 v4 ks, e = [some (.d (stkD n k fs)), some (.d (.int m)), some (.r M.length), v3, v4] ∧ M1 = M ++ [.dict (markD ks)] ∧ ks.Nodup ∧ (∀ x, x ∈ ks ↔ x ∈ d.flatMap fun f => picked f m) ∧ ks.length ≤ 2 ^ 10 * d.length) hit
    ⟨none, none, [], rfl, rfl, List.nodup_nil, fun x => by simp, by simp⟩ hs (fun _ _ _ => rfl)
  unfold B_all_parts
  rw [seq_next (e' := [some (.d (stkD n k fs)), some (.d (.int m)), some (.r M.length), none, none]) (M' := M ++ [.dict (markD [])]) (by simp [markD]), seq_next h1]
  have hpm : ks.Perm (dd (fs.flatMap fun f => picked f m)) := (List.perm_ext_iff_of_nodup h4 (nodup_dd _)).mpr fun x => by rw [h5, mem_dd]
  have hne : ks ≠ [] := fun e => by
    cases hfs : fs with
    | nil => exact S.ne hfs
    | cons f r =>
      have hf := S.face f (by rw [hfs]; simp)
      have hx : f.take m.toNat ∈ ks := (h5 _).mpr (by
        rw [hfs, List.flatMap_cons, List.mem_append]
        refine .inl ((mem_picked hm).mpr ⟨List.take_sublist _ _, ?_⟩)
        have := hf.len
        rw [List.length_take]
        omega)
      rw [e] at hx
      cases hx
  have hfst : (markD ks).map Prod.fst = ks.map tI := by unfold markD; rw [List.map_map]; rfl
  have hok : sortOk (ks.map tI) = true := by
    have := S.few
    refine sortOk_tups (by rw [sizeLine]; omega) ?_
    by_cases h0 : m = 0
    · refine .inl ?_
      have h1 : ∀ x ∈ ks, x = [] := fun x hx => by
        obtain ⟨f, _, hx⟩ := List.mem_flatMap.mp ((h5 x).mp hx)
        have := ((mem_picked hm).mp hx).2
        exact List.length_eq_zero_iff.mp (by omega)
      cases hk : ks with
      | nil => simp
      | cons a r =>
        cases r with
        | nil => simp
        | cons b r =>
          rw [hk] at h1 h4
          have e1 := h1 a (by simp)
          have e2 := h1 b (by simp)
          simp [e1, e2] at h4
    · refine .inr fun x hx e => ?_
      obtain ⟨f, _, hx⟩ := List.mem_flatMap.mp ((h5 x).mp hx)
      have := ((mem_picked hm).mp hx).2
      rw [e] at this
      simp at this
      omega
  have hmne : markD ks ≠ [] := fun e => hne (by unfold markD at e; exact List.map_eq_nil_iff.mp e)
  have htk := tupKeys_mark ks
  have hM : (M ++ [PyData.dict (markD ks)])[M.length]? = some (.dict (markD ks)) := by simp
  simp only [sRet, dCB, aCons, aNil, dVar, List.getElem?_cons_zero, List.getElem?_cons_succ, Ans.bind, Rv.fz, cbR, one, Wv.rdK, hM, Option.bind, sortF]
  rw [hfst, if_pos ⟨hmne, htk, hok⟩, sortD_tups, sortT_congr hpm]
  simp only [Ans.go, endR, retR]
  rw [List.take_append_of_le_length (Nat.le_refl _), List.take_length]
  rfl
end Lw

set_option Elab.async false
set_option linter.all false
set_option maxRecDepth 100000
set_option maxHeartbeats 1000000
namespace Lw
open PySem PySem.Spec PyProof.Rows L2 Lf Pu
theorem cut_1 {A : Type} (xs : List A) : Lf.cutD xs (some 1) none = xs.drop 1 := by
  unfold Lf.cutD
  cases xs with
  | nil => simp
  | cons x r => 
    have e1 : HT.sIx (x :: r).length 0 (some 1) = 1 := by simp [HT.sIx]
    have e2 : HT.sIx (x :: r).length (x :: r).length none = (x :: r).length := by simp [HT.sIx]
    rw [e1, e2]
    simp
theorem zip_tail {A : Type} {g : A → PyData} {R : A → A → Prop} : ∀ {l : List A}, l.Pairwise R → ∀ x ∈ List.zipWith Lf.pairD (l.map g) ((l.map g).drop 1), ∃ a b, a ∈ l ∧ b ∈ l ∧ R a b ∧ x = Lf.pairD (g a) (g b)
  | [], _, x, hx => by simp at hx
  | [a], _, x, hx => by simp at hx
  | a :: b :: r, h, x, hx => by
    have h' := List.pairwise_cons.mp h
    simp only [List.map_cons, List.drop_succ_cons, List.drop_zero, List.zipWith_cons_cons, List.mem_cons] at hx
    rcases hx with rfl | hx
    · exact ⟨a, b, by simp, by simp, h'.1 b (by simp), rfl⟩
    · obtain ⟨c, d, hc, hd, hr, e⟩ := zip_tail (g := g) h'.2 x (by simpa using hx)
      exact ⟨c, d, List.mem_cons_of_mem _ hc, List.mem_cons_of_mem _ hd, hr, e⟩
theorem E_are_rising {n k : Int} {f : List Int} {M : Mem} (F : Face n k f) (hl : f.length ≤ sizeLine) : F_are_rising [.d (.int n), .d (.tuple (f.map .int))] M = .val (vB true) M := by
  refine fn_eval rfl ?_
  obtain ⟨L, bs, key, hb, ha⟩ : ∃ L bs, dLc (iSeq (dVar 1)) [2] (tgN 2) tTrue (dCall F_is_from (aCons (dVar 2) (aCons (dC (.int 0)) (aCons (dBin subF (dVar 0) (dC (.int 1))) aNil)))) [some (.d (.int n)), some (.d (.tuple (f.map .int))), none, none] M = .val (.own (.list L)) M ∧ boolsD L = some bs ∧ bs.all id = (f.map PyData.int).all fun _ => true := by
    refine lc_all (fun _ => true) (chk := fun _ => true) (by simp) (fun _ => rfl) (by simpa using hl) fun acc x hx => ?_
    obtain ⟨a, ham, rfl⟩ := List.mem_map.mp hx
    have := F.inn a ham
    refine ⟨[some (.d (.int n)), some (.d (.tuple (f.map .int))), some (.d (.int a)), none], by simp, ?_⟩
    simp [E_is_from]
    omega
  obtain ⟨L2, bs2, key2, hb2, ha2⟩ : ∃ L bs, dLc (iZip (aCons (dVar 1) (aCons (dSl (dVar 1) (pYes (dC (.int 1))) pNo) aNil))) [2, 3] (tgT [2, 3]) tTrue (dBin ltF (dVar 2) (dVar 3)) [some (.d (.int n)), some (.d (.tuple (f.map .int))), none, none] M = .val (.own (.list L)) M ∧ boolsD L = some bs ∧ bs.all id = (List.zipWith Lf.pairD (f.map PyData.int) ((f.map PyData.int).drop 1)).all fun _ => true := by
    refine lc_all (fun _ => true) (chk := fun _ => true) ?_ (fun _ => rfl) (by simp; omega) fun acc x hx => ?_
    · simp [cut_1]
    · obtain ⟨a, b, _, _, hab, rfl⟩ := zip_tail F.up x hx
      refine ⟨[some (.d (.int n)), some (.d (.tuple (f.map .int))), some (.d (.int a)), some (.d (.int b))], by simp [Lf.pairD], ?_⟩
      simp [hab]
  have hf : ¬ false ∈ bs := fun h => by
    have : bs.all id = true := by rw [ha]; simp
    simpa using List.all_eq_true.mp this false h
  have hf2 : ¬ false ∈ bs2 := fun h => by
    have : bs2.all id = true := by rw [ha2]; simp
    simpa using List.all_eq_true.mp this false h
  simp [B_are_rising, key, hb, hf, key2, hb2, hf2, endR, retR]
theorem E_are_faces {n k : Int} {fs : List (List Int)} {M : Mem} (S : Stk n k fs) : F_are_faces [.d (.int n), .d (.int k), .d (.tuple (fs.map tI))] M = .val (vB true) M := by
  refine fn_eval rfl ?_
  have hfew := S.few
  have h1 : 1 ≤ fs.length := by
    have := S.ne
    cases hq : fs with
    | nil => exact absurd hq this
    | cons a r => simp
  obtain ⟨L, bs, key, hb, ha⟩ : ∃ L bs, dLc (iSeq (dVar 2)) [3] (tgN 3) tTrue (dAnd (dCall F_are_rising (aCons (dVar 0) (aCons (dVar 3) aNil))) (dBin eqF (dCB (one lenF) (aCons (dVar 3) aNil)) (dVar 1))) [some (.d (.int n)), some (.d (.int k)), some (.d (.tuple (fs.map tI))), none, none, none] M = .val (.own (.list L)) M ∧ boolsD L = some bs ∧ bs.all id = (fs.map tI).all fun _ => true := by
    refine lc_all (fun _ => true) (chk := fun _ => true) (by simp) (fun _ => rfl) (by simp [sizeLine]; omega) fun acc x hx => ?_
    obtain ⟨a, ham, rfl⟩ := List.mem_map.mp hx
    have F := S.face a ham
    have hk := F.len
    have hk4 := S.k4
    have hE := E_are_rising (M := M ++ [.list acc]) F (by rw [sizeLine]; omega)
    refine ⟨[some (.d (.int n)), some (.d (.int k)), some (.d (.tuple (fs.map tI))), some (.d (.tuple (a.map .int))), none, none], by simp [tI], ?_⟩
    simp [hE, hk]
  obtain ⟨L2, bs2, key2, hb2, ha2⟩ : ∃ L bs, dLc (iZip (aCons (dVar 2) (aCons (dSl (dVar 2) (pYes (dC (.int 1))) pNo) aNil))) [4, 5] (tgT [4, 5]) tTrue (dBin ltF (dVar 4) (dVar 5)) [some (.d (.int n)), some (.d (.int k)), some (.d (.tuple (fs.map tI))), none, none, none] M = .val (.own (.list L)) M ∧ boolsD L = some bs ∧ bs.all id = (List.zipWith Lf.pairD (fs.map tI) ((fs.map tI).drop 1)).all fun _ => true := by
    refine lc_all (fun _ => true) (chk := fun _ => true) ?_ (fun _ => rfl) (by simp [sizeLine]; omega) fun acc x hx => ?_
    · simp [cut_1]
    · obtain ⟨a, b, _, _, hab, rfl⟩ := zip_tail S.up x hx
      refine ⟨[some (.d (.int n)), some (.d (.int k)), some (.d (.tuple (fs.map tI))), none, some (.d (.tuple (a.map .int))), some (.d (.tuple (b.map .int)))], by simp [Lf.pairD, tI], ?_⟩
      simp [Lf.ints_map, lexLt_eq, hab]
  have hf : ¬ false ∈ bs := fun h => by
    have : bs.all id = true := by rw [ha]; simp
    simpa using List.all_eq_true.mp this false h
  have hf2 : ¬ false ∈ bs2 := fun h => by
    have : bs2.all id = true := by rw [ha2]; simp
    simpa using List.all_eq_true.mp this false h
  have h1' : (1 : Int) ≤ fs.length := by omega
  have h2' : (fs.length : Int) ≤ 70 := by omega
  simp [B_are_faces, key, hb, hf, key2, hb2, hf2, endR, retR, h1', h2']
theorem E_is_stack {n k : Int} {fs : List (List Int)} {M : Mem} (S : Stk n k fs) : F_is_stack [.d (stkD n k fs)] M = .val (vB true) M := by
  refine fn_eval rfl ?_
  have hE := E_are_faces (M := M) S
  have h1 := S.n1
  have h2 := S.n8
  have h3 := S.k0
  have h4 := S.kn
  have h5 := S.k4
  have hmin : k ≤ if (4 : Int) < n then 4 else n := by split <;> omega
  simp [B_is_stack, stkD, E_is_from, h1, h2, h3, hmin, hE, endR, retR]
theorem E_must_stack {n k : Int} {fs : List (List Int)} {M : Mem} (S : Stk n k fs) : F_must_stack [.d (stkD n k fs)] M = .val (.w (.d .none)) M := by
  refine fn_eval rfl ?_
  have hE := E_is_stack (M := M) S
  simp [B_must_stack, hE, endR, retR]
end Lw

set_option Elab.async false
set_option linter.all false
set_option maxRecDepth 100000
set_option maxHeartbeats 1000000
namespace Lw
open PySem PySem.Spec PyProof.Rows L2 Lf Pu
theorem within_lc {n k m : Int} {fs : List (List Int)} {p : List Int} {v2 v4 : Option Wv} {M : Mem} (hf : fs.length ≤ 70) (hp : p.length ≤ sizeLine) :
    dLc (iSeq (dIx (dVar 0) (dC (.int 2)))) [4] (tgN 4) (tst (dCall F_law_within (aCons (dVar 3) (aCons (dVar 4) aNil)))) (dVar 4) [some (.d (stkD n k fs)), some (.d (.int m)), v2, some (.d (tI p)), v4] M
      = .val (.own (.list ((fs.filter fun f => within p f).map tI))) M := by
  rw [lc_eval (items := fs.map tI) (chk := fun _ => true) (M := M) (fun d => match d with | .tuple ds => (match intsD ds with | some f => within p f | none => false) | _ => false) (fun d => d) (by simp [stkD]) (fun _ => rfl) (by simp [sizeLine]; omega) fun acc d hd => ?_]
  · rw [List.filter_map, List.map_map]
    have e1 : ((fun d => match d with | .tuple ds => (match intsD ds with | some f => within p f | none => false) | _ => false : PyData → Bool) ∘ tI) = fun f => within p f := by
      funext o; simp [tI, Lf.ints_map]
    rw [e1]
    rfl
  · obtain ⟨f, _, rfl⟩ := List.mem_map.mp hd
    refine ⟨[some (.d (stkD n k fs)), some (.d (.int m)), v2, some (.d (tI p)), some (.d (tI f))], by simp, ?_, fun _ => ⟨.w (.d (tI f)), by simp, rfl⟩⟩
    have hE := E_law_within (p := p) (f := f) (M := M ++ [.list acc]) hp
    simp [tI, Lf.ints_map, hE]
theorem eqv_any (fs : List (List Int)) (q : List Int → Bool) : PyData.eqv (.list ((fs.filter q).map tI)) (.list []) = !fs.any q := by
  cases h : fs.filter q with
  | nil =>
    rw [List.map_nil, eqv_nil2]
    have : fs.any q = false := by
      rw [Bool.eq_false_iff]
      intro z
      obtain ⟨x, hx, hq⟩ := List.any_eq_true.mp z
      exact List.filter_eq_nil_iff.mp h x hx hq
    rw [this]; rfl
  | cons a r =>
    rw [List.map_cons, eqv_nil]
    have hm : a ∈ fs.filter q := by rw [h]; exact List.mem_cons_self
    rw [List.mem_filter] at hm
    rw [List.any_eq_true.mpr ⟨a, hm.1, hm.2⟩]; rfl
theorem E_law_parts {n k m : Int} {fs : List (List Int)} {M : Mem} (S : Stk n k fs) (hm : 0 ≤ m) (hm5 : m ≤ 5) : F_law_parts [.d (stkD n k fs), .d (.int m)] M = .val (.own (.list ((lawParts n fs m).map tI))) M := by
  refine fn_eval rfl ?_
  have hn1 := S.n1
  have hn8 := S.n8
  have hall : (allL n m).length ≤ 70 := allL_le (by omega) (by omega)
  have hs : ∀ d x r e M1, allL n m = d ++ x :: r → (∃ v3 v4, e = [some (.d (stkD n k fs)), some (.d (.int m)), some (.r M.length), v3, v4] ∧ M1 = M ++ [.list ((d.filter fun p => fs.any fun f => within p f).map tI)]) →
      (fun _ : Mem => true) M1 = true ∧ ∃ e1, tgN 3 (tI x) e = some e1 ∧ ∃ e2 M2, sIf (tst (dBin neF (dLc (iSeq (dIx (dVar 0) (dC (.int 2)))) [4] (tgN 4) (tst (dCall F_law_within (aCons (dVar 3) (aCons (dVar 4) aNil)))) (dVar 4)) (dLst aNil))) (sDrop (dMt appF (dVar 2) (aCons (dVar 3) aNil))) sNext e1 M1 = .next e2 M2 ∧
        ∃ v3 v4, e2 = [some (.d (stkD n k fs)), some (.d (.int m)), some (.r M.length), v3, v4] ∧ M2 = M ++ [.list (((d ++ [x]).filter fun p => fs.any fun f => within p f).map tI)] := by
    rintro d x r e M1 hd ⟨v3, v4, rfl, rfl⟩
    have hx : x ∈ allL n m := by rw [hd]; simp
    have hxl := ((mem_allL hm).mp hx).len
    have hdl : d.length < 70 := by have : d.length < (allL n m).length := by rw [hd]; simp
                                   omega
    have key := within_lc (n := n) (k := k) (m := m) (p := x) (v2 := some (.r M.length)) (v4 := v4) (M := M ++ [.list ((d.filter fun p => fs.any fun f => within p f).map tI)]) S.few (by rw [sizeLine]; omega)
    have hsh := sh_tups (fs.filter fun f => within x f)
    have hq := eqv_any fs fun f => within x f
    refine ⟨rfl, _, rfl, [some (.d (stkD n k fs)), some (.d (.int m)), some (.r M.length), some (.d (tI x)), v4], M ++ [.list (((d ++ [x]).filter fun p => fs.any fun f => within p f).map tI)], ?_, some (.d (tI x)), v4, rfl, rfl⟩
    have hM : (M ++ [PyData.list ((d.filter fun p => fs.any fun f => within p f).map tI)])[M.length]? = some (.list ((d.filter fun p => fs.any fun f => within p f).map tI)) := by simp
    have hset : ∀ c, (M ++ [PyData.list ((d.filter fun p => fs.any fun f => within p f).map tI)]).set M.length c = M ++ [c] := fun c => by simp
    have hl : ((d.filter fun p => fs.any fun f => within p f).map tI).length < sizeLine := by
      have := List.length_filter_le (fun p => fs.any fun f => within p f) d
      rw [List.length_map, sizeLine]; omega
    have el : [some (Wv.d (stkD n k fs)), some (.d (.int m)), some (.r M.length), v3, v4].set 3 (some (.d (tI x))) = [some (Wv.d (stkD n k fs)), some (.d (.int m)), some (.r M.length), some (.d (tI x)), v4] := rfl
    simp only [sIf, tst, dBin, el, key, Ans.bind, dLst, aNil, lstR, dats, List.length_nil, Nat.zero_le, if_true, opR, Rv.fz, Wv.rd, neF, hsh, sh_nil, and_self, asB, vB, hq, Bool.not_not, Ans.go]
    rw [List.filter_append]
    cases ha : fs.any fun f => within x f with
    | true =>
      have ef : [x].filter (fun p => fs.any fun f => within p f) = [x] := by simp [ha]
      rw [ef]
      simp only [if_true, sDrop, dMt, dVar, List.getElem?_cons_zero, List.getElem?_cons_succ, Ans.bind, Rv.fz, isL, hM, aCons, aNil, mtR, appF]
      rw [if_pos hl]
      simp only [hset, Ans.go, List.map_append, List.map_cons, List.map_nil]
    | false =>
      have ef : [x].filter (fun p => fs.any fun f => within p f) = [] := by simp [ha]
      rw [ef, List.append_nil]
      simp
  have hit : iSeq (dCall F_law_all (aCons (dIx (dVar 0) (dC (.int 0))) (aCons (dVar 1) aNil))) [some (.d (stkD n k fs)), some (.d (.int m)), some (.r M.length), none, none] (M ++ [.list []]) = .val ((allL n m).map tI, fun _ => true) (M ++ [.list []]) := by
    have hE := E_law_all (n := n) (k := m) (M := M ++ [.list []]) (by omega) hm
    simp [stkD, hE]
  obtain ⟨e', M', h1, v3, v4, rfl, rfl⟩ := for_map tI (allL n m) (fun d e M1 => ∃ v3 v4, e = [some (.d (stkD n k fs)), some (.d (.int m)), some (.r M.length), v3, v4] ∧ M1 = M ++ [.list ((d.filter fun p => fs.any fun f => within p f).map tI)]) hit ⟨none, none, rfl, rfl⟩ hs (fun _ _ _ => rfl)
  unfold B_law_parts
  rw [seq_next (e' := [some (.d (stkD n k fs)), some (.d (.int m)), some (.r M.length), none, none]) (M' := M ++ [.list []]) (by simp [lstR]), seq_next h1]
  have e0 : ((allL n m).filter fun p => fs.any fun f => within p f) = lawParts n fs m := rfl
  rw [e0]
  simp [endR, retR]
/-- the counts of a stack -/
def cnt (fs : List (List Int)) (m : Int) : Int := (partsL fs m).length
def cnts (k : Int) (fs : List (List Int)) : List Int := (rgI (k + 1)).map (cnt fs)
theorem cnt_law {n k m : Int} {fs : List (List Int)} (S : Stk n k fs) (hm : 0 ≤ m) : cnt fs m = (lawParts n fs m).length := by
  unfold cnt
  rw [parts_eq hm S.face]
theorem cnt_le {n k m : Int} {fs : List (List Int)} (S : Stk n k fs) (hm : 0 ≤ m) (hm5 : m ≤ 5) : 0 ≤ cnt fs m ∧ cnt fs m ≤ 70 := by
  rw [cnt_law S hm]
  have h1 := List.length_filter_le (fun p => fs.any fun f => within p f) (allL n m)
  have h2 := allL_le (n := n) (m := m) ⟨by have := S.n1; omega, S.n8⟩ ⟨hm, hm5⟩
  unfold lawParts
  omega
theorem E_counts_of {n k : Int} {fs : List (List Int)} {M : Mem} (S : Stk n k fs) : F_counts_of [.d (stkD n k fs)] M = .val (.w (.d (.tuple ((cnts k fs).map .int)))) M := by
  refine fn_eval rfl ?_
  have hk0 := S.k0
  have hk4 := S.k4
  obtain ⟨L, key, _, hL⟩ : ∃ L, dLc (iRange (dBin addF (dIx (dVar 0) (dC (.int 1))) (dC (.int 1)))) [1] (tgN 1) tTrue (dCB (one lenF) (aCons (dCall F_all_parts (aCons (dVar 0) (aCons (dVar 1) aNil))) aNil)) [some (.d (stkD n k fs)), none] M = .val (.own (.list L)) M ∧ intsD L = some (((rgI (k + 1)).map PyData.int).map fun d => match d with | .int m => cnt fs m | _ => 0) ∧ L = (((rgI (k + 1)).map PyData.int).map fun d => match d with | .int m => cnt fs m | _ => 0).map .int := by
    refine lc_ints (fun d => match d with | .int m => cnt fs m | _ => 0) (chk := fun _ => true) ?_ (fun _ => rfl) (by simp [length_rgI, sizeLine]; omega) fun acc x hx => ?_
    · rw [← rgD_rgI]
      simp [stkD]
      omega
    · obtain ⟨m, hm, rfl⟩ := List.mem_map.mp hx
      have hm := mem_rgI.mp hm
      have hE := E_all_parts (M := M ++ [.list acc]) S hm.1 (by omega)
      refine ⟨[some (.d (stkD n k fs)), some (.d (.int m))], by simp, ?_⟩
      simp [hE, cnt]
  have hL2 : L = (cnts k fs).map .int := by
    rw [hL]
    simp only [cnts, List.map_map]
    rfl
  simp [B_counts_of, key, hL2, endR, retR]
theorem E_counts {n k : Int} {fs : List (List Int)} {M : Mem} (S : Stk n k fs) : F_counts [.d (stkD n k fs)] M = .val (.w (.d (.tuple ((cnts k fs).map .int)))) M := by
  refine fn_eval rfl ?_
  have h1 := E_must_stack (M := M) S
  have h2 := E_counts_of (M := M) S
  simp [B_counts, h1, h2, endR, retR]
end Lw

set_option Elab.async false
set_option linter.all false
set_option maxRecDepth 100000
set_option maxHeartbeats 1000000
namespace Lw
open PySem PySem.Spec PyProof.Rows L2 Lf Pu
def picksP (a b : Int) : Int := (rgI b).foldl (fun found one => found * (a - one) / (one + 1)) 1
theorem log_small {n : Int} (h0 : 0 < n) (h1 : n < 2 ^ 64) : n.natAbs.log2 < 9000 := by
  have : n.natAbs < 2 ^ 64 := by omega
  have : n.natAbs.log2 ≤ 64 := by
    by_cases hz : n.natAbs = 0
    · rw [hz]; decide
    · have := (Nat.log2_lt hz).mpr this
      omega
  omega
theorem E_picks {a b : Int} {M : Mem} (ha : -1000 ≤ a ∧ a ≤ 1000) (hb : -1000 ≤ b ∧ b ≤ 1000) : F_picks [.d (.int a), .d (.int b)] M = .val (vI (picksP a b)) M := by
  refine fn_eval rfl ?_
  have hs : ∀ d x r e M1, rgI b = d ++ x :: r → (∃ v3, e = [some (.d (.int a)), some (.d (.int b)), some (.d (.int (d.foldl (fun found one => found * (a - one) / (one + 1)) 1))), v3] ∧ M1 = M) →
      (fun _ : Mem => true) M1 = true ∧ ∃ e1, tgN 3 (.int x) e = some e1 ∧ ∃ e2 M2, sAsg 2 false (dBin fdivF (dBin mulF (dVar 2) (dBin subF (dVar 0) (dVar 3))) (dBin addF (dVar 3) (dC (.int 1)))) e1 M1 = .next e2 M2 ∧
        ∃ v3, e2 = [some (.d (.int a)), some (.d (.int b)), some (.d (.int ((d ++ [x]).foldl (fun found one => found * (a - one) / (one + 1)) 1))), v3] ∧ M2 = M := by
    rintro d x r e M1 hd ⟨v3, rfl, rfl⟩
    have hx : 0 ≤ x ∧ x < b := mem_rgI.mp (by rw [hd]; simp)
    have hlog := log_small (n := x + 1) (by omega) (by omega)
    refine ⟨rfl, _, rfl, [some (.d (.int a)), some (.d (.int b)), some (.d (.int ((d ++ [x]).foldl (fun found one => found * (a - one) / (one + 1)) 1))), some (.d (.int x))], M1, ?_, some (.d (.int x)), rfl, rfl⟩
    rw [List.foldl_append]
    have h1 : (a - x).natAbs < 18446744073709551616 := by omega
    have h3 : 0 < x + 1 := by omega
    simp [h1, h3, hlog]
  obtain ⟨e', M', h1, v3, rfl, rfl⟩ := for_map PyData.int (rgI b) (fun d e M1 => ∃ v3, e = [some (.d (.int a)), some (.d (.int b)), some (.d (.int (d.foldl (fun found one => found * (a - one) / (one + 1)) 1))), v3] ∧ M1 = M) (it := iRange (dVar 1)) (e := [some (.d (.int a)), some (.d (.int b)), some (.d (.int 1)), none]) (M := M) (M0 := M) (chk := fun _ => true)
    (by rw [← rgD_rgI]; simp; omega) ⟨none, rfl, rfl⟩ hs (fun _ _ _ => rfl)
  unfold B_picks
  rw [seq_next (e' := [some (.d (.int a)), some (.d (.int b)), some (.d (.int 1)), none]) (M' := M') (by simp), seq_next h1]
  simp [endR, retR, picksP]

def sgn (n : Int) : Int := 1 - 2 * (n % 2)
theorem E_sign_of {a : Int} {M : Mem} : F_sign_of [.d (.int a)] M = .val (vI (sgn a)) M := by
  refine fn_eval rfl ?_
  simp [B_sign_of, sgn, endR, retR]
def toldAt (k : Int) (c : List Int) (i : Int) : Int := ((rgI (i + 1)).map fun j => sgn (i - j) * picksP (k - j) (k - i) * c.getD j.toNat 0).sum
def toldP (k : Int) (c : List Int) : List Int := (rgI (k + 1)).map (toldAt k c)
theorem at_ints {c : List Int} {j : Int} (h0 : 0 ≤ j) (h : j < c.length) : atI (c.map PyData.int) j = some (.int (c.getD j.toNat 0)) := by
  have hl : j.toNat < c.length := by omega
  refine atI_ok h0 ?_
  rw [List.getElem?_map, List.getD_eq_getElem?_getD, List.getElem?_eq_getElem hl]
  rfl
theorem sum_lc {k i : Int} {c : List Int} {v0 v3 v5 : Option Wv} {M : Mem} (hk : 0 ≤ k ∧ k ≤ 100) (hi : 0 ≤ i ∧ i ≤ k) (hc : (c.length : Int) = k + 1) (hb : ∀ x ∈ c, -1000000000 ≤ x ∧ x ≤ 1000000000) :
    ∃ L, dLc (iRange (dBin addF (dVar 4) (dC (.int 1)))) [5] (tgN 5) tTrue (dBin mulF (dBin mulF (dCall F_sign_of (aCons (dBin subF (dVar 4) (dVar 5)) aNil)) (dCall F_picks (aCons (dBin subF (dVar 1) (dVar 5)) (aCons (dBin subF (dVar 1) (dVar 4)) aNil)))) (dIx (dVar 2) (dVar 5)))
      [v0, some (.d (.int k)), some (.d (.tuple (c.map .int))), v3, some (.d (.int i)), v5] M = .val (.own (.list L)) M ∧ intsD L = some ((rgI (i + 1)).map fun j => sgn (i - j) * picksP (k - j) (k - i) * c.getD j.toNat 0) := by
  obtain ⟨L, key, h1, h2⟩ := lc_ints (it := iRange (dBin addF (dVar 4) (dC (.int 1)))) (vs := [5]) (tg := tgN 5) (elt := dBin mulF (dBin mulF (dCall F_sign_of (aCons (dBin subF (dVar 4) (dVar 5)) aNil)) (dCall F_picks (aCons (dBin subF (dVar 1) (dVar 5)) (aCons (dBin subF (dVar 1) (dVar 4)) aNil)))) (dIx (dVar 2) (dVar 5)))
    (e := [v0, some (.d (.int k)), some (.d (.tuple (c.map .int))), v3, some (.d (.int i)), v5]) (M := M) (M0 := M) (items := (rgI (i + 1)).map PyData.int) (chk := fun _ => true) (fun d => match d with | .int j => sgn (i - j) * picksP (k - j) (k - i) * c.getD j.toNat 0 | _ => 0)
    (by rw [← rgD_rgI]; simp; omega) (fun _ => rfl) (by simp [length_rgI, sizeLine]; omega) (fun acc x hx => by
      obtain ⟨j, hj, rfl⟩ := List.mem_map.mp hx
      have hj := mem_rgI.mp hj
      have hp := E_picks (a := k - j) (b := k - i) (M := M ++ [.list acc]) (by omega) (by omega)
      have hs := E_sign_of (a := i - j) (M := M ++ [.list acc])
      have ha := at_ints (c := c) (j := j) (by omega) (by omega)
      have hsg : (sgn (i - j)).natAbs < 2 ^ 64 := by unfold sgn; omega
      have hcj : (c.getD j.toNat 0).natAbs < 2 ^ 64 := by
        have hl : j.toNat < c.length := by omega
        have := hb (c.getD j.toNat 0) (by rw [List.getD_eq_getElem?_getD, List.getElem?_eq_getElem hl]; exact List.getElem_mem hl)
        omega
      refine ⟨[v0, some (.d (.int k)), some (.d (.tuple (c.map .int))), v3, some (.d (.int i)), some (.d (.int j))], by simp, ?_⟩
      simp only [dBin, dCall, aCons, dVar, List.getElem?_cons_zero, List.getElem?_cons_succ, Ans.bind, aNil, opR, Rv.fz, Wv.rd, subF, int2, vI, hs, hp, mulF, hsg, and_self, true_or, if_true, dIx, ixR, Wv.rdK, ha, hcj, or_true])
  refine ⟨L, key, ?_⟩
  rw [h1, List.map_map]
  rfl
theorem E_told_of {n k : Int} {fs : List (List Int)} {M : Mem} (S : Stk n k fs) : F_told_of [.d (stkD n k fs)] M = .val (.w (.d (.tuple ((toldP k (cnts k fs)).map .int)))) M := by
  refine fn_eval rfl ?_
  have hk0 := S.k0
  have hk4 := S.k4
  have hcl : ((cnts k fs).length : Int) = k + 1 := by unfold cnts; rw [List.length_map, length_rgI]; omega
  have hcb : ∀ x ∈ cnts k fs, -1000000000 ≤ x ∧ x ≤ 1000000000 := fun x hx => by
    obtain ⟨m, hm, rfl⟩ := List.mem_map.mp hx
    have hm := mem_rgI.mp hm
    have := cnt_le S hm.1 (by omega)
    omega
  have hs : ∀ d x r e M1, rgI (k + 1) = d ++ x :: r → (∃ v4 v5, e = [some (.d (stkD n k fs)), some (.d (.int k)), some (.d (.tuple ((cnts k fs).map .int))), some (.r M.length), v4, v5] ∧ M1 = M ++ [.list ((d.map (toldAt k (cnts k fs))).map .int)]) →
      (fun _ : Mem => true) M1 = true ∧ ∃ e1, tgN 4 (.int x) e = some e1 ∧ ∃ e2 M2, sDrop (dMt appF (dVar 3) (aCons (dCB (one sumF) (aCons (dLc (iRange (dBin addF (dVar 4) (dC (.int 1)))) [5] (tgN 5) tTrue (dBin mulF (dBin mulF (dCall F_sign_of (aCons (dBin subF (dVar 4) (dVar 5)) aNil)) (dCall F_picks (aCons (dBin subF (dVar 1) (dVar 5)) (aCons (dBin subF (dVar 1) (dVar 4)) aNil)))) (dIx (dVar 2) (dVar 5)))) aNil)) aNil)) e1 M1 = .next e2 M2 ∧
        ∃ v4 v5, e2 = [some (.d (stkD n k fs)), some (.d (.int k)), some (.d (.tuple ((cnts k fs).map .int))), some (.r M.length), v4, v5] ∧ M2 = M ++ [.list (((d ++ [x]).map (toldAt k (cnts k fs))).map .int)] := by
    rintro d x r e M1 hd ⟨v4, v5, rfl, rfl⟩
    have hx : 0 ≤ x ∧ x < k + 1 := mem_rgI.mp (by rw [hd]; simp)
    have hdl : d.length < 10 := by
      have h1 : d.length < (rgI (k + 1)).length := by rw [hd]; simp
      rw [length_rgI] at h1
      omega
    obtain ⟨L, key, hL⟩ := sum_lc (k := k) (i := x) (c := cnts k fs) (v0 := some (.d (stkD n k fs))) (v3 := some (.r M.length)) (v5 := v5) (M := M ++ [.list ((d.map (toldAt k (cnts k fs))).map .int)]) (by omega) (by omega) hcl hcb
    have hM : (M ++ [PyData.list ((d.map (toldAt k (cnts k fs))).map .int)])[M.length]? = some (.list ((d.map (toldAt k (cnts k fs))).map .int)) := by simp
    have hset : ∀ c, (M ++ [PyData.list ((d.map (toldAt k (cnts k fs))).map .int)]).set M.length c = M ++ [c] := fun c => by simp
    have hl : ((d.map (toldAt k (cnts k fs))).map PyData.int).length < sizeLine := by
      rw [List.length_map, List.length_map, sizeLine]; omega
    refine ⟨rfl, _, rfl, [some (.d (stkD n k fs)), some (.d (.int k)), some (.d (.tuple ((cnts k fs).map .int))), some (.r M.length), some (.d (.int x)), v5], M ++ [.list (((d ++ [x]).map (toldAt k (cnts k fs))).map .int)], ?_, some (.d (.int x)), v5, rfl, rfl⟩
    have el : [some (Wv.d (stkD n k fs)), some (.d (.int k)), some (.d (.tuple ((cnts k fs).map .int))), some (.r M.length), v4, v5].set 4 (some (.d (.int x))) = [some (Wv.d (stkD n k fs)), some (.d (.int k)), some (.d (.tuple ((cnts k fs).map .int))), some (.r M.length), some (.d (.int x)), v5] := rfl
    rw [el]
    simp only [sDrop, dMt, dVar, List.getElem?_cons_zero, List.getElem?_cons_succ, Ans.bind, Rv.fz, isL, hM, if_true, aCons, aNil, dCB, key, cbR, one, Wv.rdK, Option.bind, sumF, hL, Option.map, vI, mtR, appF]
    rw [if_pos hl]
    simp only [hset, Ans.go, List.map_append, List.map_cons, List.map_nil]
    rfl
  have hit : iRange (dBin addF (dVar 1) (dC (.int 1))) [some (.d (stkD n k fs)), some (.d (.int k)), some (.d (.tuple ((cnts k fs).map .int))), some (.r M.length), none, none] (M ++ [.list []]) = .val ((rgI (k + 1)).map .int, fun _ => true) (M ++ [.list []]) := by
    rw [← rgD_rgI]
    simp
    omega
  obtain ⟨e', M', h1, v4, v5, rfl, rfl⟩ := for_map PyData.int (rgI (k + 1)) (fun d e M1 => ∃ v4 v5, e = [some (.d (stkD n k fs)), some (.d (.int k)), some (.d (.tuple ((cnts k fs).map .int))), some (.r M.length), v4, v5] ∧ M1 = M ++ [.list ((d.map (toldAt k (cnts k fs))).map .int)]) hit ⟨none, none, rfl, rfl⟩ hs (fun _ _ _ => rfl)
  have hcn := E_counts_of (M := M) S
  unfold B_told_of
  rw [seq_next (e' := [some (.d (stkD n k fs)), some (.d (.int k)), none, none, none, none]) (M' := M) (by simp [stkD]),
    seq_next (e' := [some (.d (stkD n k fs)), some (.d (.int k)), some (.d (.tuple ((cnts k fs).map .int))), none, none, none]) (M' := M) (by simp [hcn]),
    seq_next (e' := [some (.d (stkD n k fs)), some (.d (.int k)), some (.d (.tuple ((cnts k fs).map .int))), some (.r M.length), none, none]) (M' := M ++ [.list []]) (by simp [lstR]), seq_next h1]
  simp [endR, retR, toldP]
theorem E_told {n k : Int} {fs : List (List Int)} {M : Mem} (S : Stk n k fs) : F_told [.d (stkD n k fs)] M = .val (.w (.d (.tuple ((toldP k (cnts k fs)).map .int)))) M := by
  refine fn_eval rfl ?_
  have h1 := E_must_stack (M := M) S
  have h2 := E_told_of (M := M) S
  simp [B_told, h1, h2, endR, retR]
end Lw

set_option Elab.async false
set_option linter.all false
set_option maxRecDepth 100000
set_option maxHeartbeats 1000000
namespace Lw
open PySem PySem.Spec PyProof.Rows L2 Lf Pu
theorem range_eval {f : Den} {e : En} {M M1 : Mem} {n : Int} (h : f e M = .val (vI n) M1) (h1 : -1000000 ≤ n ∧ n ≤ 1000000) : iRange f e M = .val ((rgI n).map .int, fun _ => true) M1 := by
  have h2 : n.natAbs < 2 ^ 62 := by omega
  unfold iRange
  rw [h]
  simp only [vI, Ans.bind, asI]
  rw [if_pos h2, rgD_rgI]
def cfAt (k : Int) (row : List Int) (j : Int) : Int := ((rgI (j + 1)).map fun i => picksP (k - i) (j - i) * row.getD i.toNat 0).sum
def cfP (row : List Int) : List Int := (rgI (row.length - 1 + 1)).map (cfAt (row.length - 1) row)
theorem cf_lc {k j : Int} {row : List Int} {v2 v4 : Option Wv} {M : Mem} (hk : 0 ≤ k ∧ k ≤ 100) (hj : 0 ≤ j ∧ j ≤ k) (hc : (row.length : Int) = k + 1) (hb : ∀ x ∈ row, -1000000 ≤ x ∧ x ≤ 1000000) :
    ∃ L, dLc (iRange (dBin addF (dVar 3) (dC (.int 1)))) [4] (tgN 4) tTrue (dBin mulF (dCall F_picks (aCons (dBin subF (dVar 1) (dVar 4)) (aCons (dBin subF (dVar 3) (dVar 4)) aNil))) (dIx (dVar 0) (dVar 4)))
      [some (.d (.tuple (row.map .int))), some (.d (.int k)), v2, some (.d (.int j)), v4] M = .val (.own (.list L)) M ∧ intsD L = some ((rgI (j + 1)).map fun i => picksP (k - i) (j - i) * row.getD i.toNat 0) := by
  obtain ⟨L, key, h1, h2⟩ := lc_ints (it := iRange (dBin addF (dVar 3) (dC (.int 1)))) (vs := [4]) (tg := tgN 4) (elt := dBin mulF (dCall F_picks (aCons (dBin subF (dVar 1) (dVar 4)) (aCons (dBin subF (dVar 3) (dVar 4)) aNil))) (dIx (dVar 0) (dVar 4)))
    (e := [some (.d (.tuple (row.map .int))), some (.d (.int k)), v2, some (.d (.int j)), v4]) (M := M) (M0 := M) (items := (rgI (j + 1)).map PyData.int) (chk := fun _ => true) (fun d => match d with | .int i => picksP (k - i) (j - i) * row.getD i.toNat 0 | _ => 0)
    (by rw [← rgD_rgI]; simp; omega) (fun _ => rfl) (by simp [length_rgI, sizeLine]; omega) (fun acc x hx => by
      obtain ⟨i, hi, rfl⟩ := List.mem_map.mp hx
      have hi := mem_rgI.mp hi
      have hp := E_picks (a := k - i) (b := j - i) (M := M ++ [.list acc]) (by omega) (by omega)
      have ha := at_ints (c := row) (j := i) (by omega) (by omega)
      have hcj : (row.getD i.toNat 0).natAbs < 2 ^ 64 := by
        have hl : i.toNat < row.length := by omega
        have := hb (row.getD i.toNat 0) (by rw [List.getD_eq_getElem?_getD, List.getElem?_eq_getElem hl]; exact List.getElem_mem hl)
        omega
      refine ⟨[some (.d (.tuple (row.map .int))), some (.d (.int k)), v2, some (.d (.int j)), some (.d (.int i))], by simp, ?_⟩
      simp only [dBin, dCall, aCons, dVar, List.getElem?_cons_zero, List.getElem?_cons_succ, Ans.bind, aNil, opR, Rv.fz, Wv.rd, subF, int2, vI, hp, mulF, and_self, true_or, if_true, dIx, ixR, Wv.rdK, ha, hcj, or_true])
  refine ⟨L, key, ?_⟩
  rw [h1, List.map_map]
  rfl
theorem from_lc {row : List Int} {M : Mem} (h5 : row.length ≤ 5) (hb : ∀ x ∈ row, -1000000 ≤ x ∧ x ≤ 1000000) : ∃ L bs, dLc (iSeq (dVar 0)) [2] (tgN 2) tTrue (dCall F_is_from (aCons (dVar 2) (aCons (dBin subF (dC (.int 0)) (dC (.int 1000000))) (aCons (dC (.int 1000000)) aNil)))) [some (.d (.tuple (row.map .int))), none, none, none, none] M = .val (.own (.list L)) M ∧ boolsD L = some bs ∧ bs.all id = (row.map PyData.int).all fun _ => true := by
    refine lc_all (fun _ => true) (chk := fun _ => true) (by simp) (fun _ => rfl) (by simp [sizeLine]; omega) fun acc x hx => ?_
    obtain ⟨a, ham, rfl⟩ := List.mem_map.mp hx
    have h := hb a ham
    have h2 := E_is_from a (0 - 1000000) 1000000 (M ++ [.list acc])
    have h3 : (decide (0 - 1000000 ≤ a) && decide (a ≤ 1000000)) = true := by
      rw [Bool.and_eq_true, decide_eq_true_eq, decide_eq_true_eq]
      omega
    rw [h3] at h2
    refine ⟨[some (.d (.tuple (row.map .int))), none, some (.d (.int a)), none, none], by simp, ?_⟩
    simp only [dCall, aCons, dVar, List.getElem?_cons_zero, List.getElem?_cons_succ, Ans.bind, dBin, dC, opR, Rv.fz, Wv.rd, subF, int2, vI, aNil]
    exact h2
theorem E_counts_from {row : List Int} {M : Mem} (h1 : 1 ≤ row.length) (h5 : row.length ≤ 5) (hb : ∀ x ∈ row, -1000000 ≤ x ∧ x ≤ 1000000) : F_counts_from [.d (.tuple (row.map .int))] M = .val (.w (.d (.tuple ((cfP row).map .int)))) M := by
  refine fn_eval rfl ?_
  obtain ⟨L, bs, key, hbs, ha⟩ := from_lc (M := M) h5 hb
  have hf : ¬ false ∈ bs := fun h => by
    have : bs.all id = true := by rw [ha]; simp
    simpa using List.all_eq_true.mp this false h
  obtain ⟨L2, key2, _, hL2⟩ := lc_ints (it := iRange (dBin addF (dVar 1) (dC (.int 1)))) (vs := [3]) (tg := tgN 3) (elt := dCB (one sumF) (aCons (dLc (iRange (dBin addF (dVar 3) (dC (.int 1)))) [4] (tgN 4) tTrue (dBin mulF (dCall F_picks (aCons (dBin subF (dVar 1) (dVar 4)) (aCons (dBin subF (dVar 3) (dVar 4)) aNil))) (dIx (dVar 0) (dVar 4)))) aNil))
    (e := [some (.d (.tuple (row.map .int))), some (.d (.int (row.length - 1))), none, none, none]) (M := M) (M0 := M) (items := (rgI (row.length - 1 + 1)).map PyData.int) (chk := fun _ => true) (fun d => match d with | .int j => cfAt (row.length - 1) row j | _ => 0)
    (range_eval (by simp only [dBin, dVar, dC, List.getElem?_cons_zero, List.getElem?_cons_succ, Ans.bind, opR, Rv.fz, Wv.rd, addF]) (by omega)) (fun _ => rfl) (by simp [length_rgI, sizeLine]; omega) (fun acc x hx => by
      obtain ⟨j, hj, rfl⟩ := List.mem_map.mp hx
      have hj := mem_rgI.mp hj
      obtain ⟨L3, key3, hL3⟩ := cf_lc (k := row.length - 1) (j := j) (row := row) (v2 := none) (v4 := none) (M := M ++ [.list acc]) (by omega) (by omega) (by omega) hb
      refine ⟨[some (.d (.tuple (row.map .int))), some (.d (.int (row.length - 1))), none, some (.d (.int j)), none], by simp, ?_⟩
      simp only [dCB, aCons, key3, Ans.bind, aNil, Rv.fz, cbR, one, Wv.rdK, Option.bind, sumF, hL3, Option.map]
      rfl)
  have e0 : L2 = (cfP row).map .int := by
    rw [hL2]
    simp only [cfP, List.map_map]
    rfl
  subst e0
  have h1' : (1 : Int) ≤ row.length := by omega
  have h5' : (row.length : Int) ≤ 5 := by omega
  simp [B_counts_from, key, hbs, hf, h1', h5', key2, endR, retR]
end Lw

set_option Elab.async false
set_option linter.all false
set_option maxRecDepth 100000
set_option maxHeartbeats 1000000
namespace Lw
open PySem PySem.Spec PyProof.Rows L2 Lf Pu
theorem zip_ints {g : Int → Int → Int} : ∀ (a b : List Int), (List.zipWith Lf.pairD (a.map .int) (b.map .int)).map (fun d => match d with | .tuple [.int x, .int y] => PyData.int (g x y) | d => d) = (List.zipWith g a b).map .int
  | [], b => by simp
  | a :: as, [] => by simp
  | a :: as, b :: bs => by
    have := zip_ints (g := g) as bs
    simp only [List.map_cons, List.zipWith_cons_cons]
    rw [this]
    rfl
theorem zip_mem {x : PyData} : ∀ (a b : List Int), x ∈ List.zipWith Lf.pairD (a.map .int) (b.map .int) → ∃ u v, x = .tuple [.int u, .int v]
  | [], b, h => by simp at h
  | a :: as, [], h => by simp at h
  | a :: as, b :: bs, h => by
    simp only [List.map_cons, List.zipWith_cons_cons, List.mem_cons] at h
    rcases h with rfl | h
    · exact ⟨a, b, rfl⟩
    · exact zip_mem as bs h
theorem lc_zip {it : En → Mem → Ans Items} {vs : List Nat} {tg : PyData → En → Option En} {elt : Den} {e : En} {M M0 : Mem} {a b : List Int} {chk : Mem → Bool} (g : Int → Int → Int)
    (hi : it e M0 = .val (List.zipWith Lf.pairD (a.map .int) (b.map .int), chk) M) (hc : ∀ acc, chk (M ++ [.list acc]) = true) (hl : a.length ≤ sizeLine)
    (h : ∀ acc u v, ∃ e1, tg (.tuple [.int u, .int v]) (wipeE e vs) = some e1 ∧ elt e1 (M ++ [.list acc]) = .val (vI (g u v)) (M ++ [.list acc])) :
    dLc it vs tg tTrue elt e M0 = .val (.own (.list ((List.zipWith g a b).map .int))) M := by
  rw [lc_map (fun d => match d with | .tuple [.int x, .int y] => PyData.int (g x y) | d => d) hi hc (by simp; omega) fun acc x hx => ?_, zip_ints]
  obtain ⟨u, v, rfl⟩ := zip_mem a b hx
  obtain ⟨e1, h1, h2⟩ := h acc u v
  exact ⟨e1, h1, _, h2, rfl⟩
theorem rgI_split {n x : Int} {d r : List Int} (h : rgI n = d ++ x :: r) : x = d.length := by
  have h1 : (rgI n)[d.length]? = some x := by rw [h]; simp
  unfold rgI at h1
  rw [List.getElem?_map] at h1
  obtain ⟨j, hj, e⟩ := Option.map_eq_some_iff.mp h1
  have := List.getElem?_eq_some_iff.mp hj
  obtain ⟨_, e2⟩ := this
  simp at e2
  omega
/-! ### _law_told -/
def diffs (row : List Int) : List Int := List.zipWith (· - ·) (row ++ [0]) (0 :: row)
def toldStep (row : List Int) (m : Int) (c : Int) : List Int := (diffs row).set m.toNat ((diffs row).getD m.toNat 0 + c)
def toldL (k : Int) (c : Int → Int) : List Int := (rgI (k + 1)).foldl (fun row m => toldStep row m (c m)) []
theorem length_diffs (row : List Int) : (diffs row).length = row.length + 1 := by simp [diffs]
theorem length_told (c : Int → Int) : ∀ (d row : List Int), (d.foldl (fun row m => toldStep row m (c m)) row).length = row.length + d.length
  | [], row => by simp
  | x :: d, row => by
    rw [List.foldl_cons, length_told c d]
    unfold toldStep
    rw [List.length_set, length_diffs, List.length_cons]
    omega
theorem diffs_lc {v0 v2 v3 v4 : Option Wv} {l : Nat} {row : List Int} {M : Mem} (hM : M[l]? = some (.list (row.map .int))) (hr : row.length ≤ 100) :
    dLc (iZip (aCons (dBin addF (dVar 1) (dLst (aCons (dC (.int 0)) aNil))) (aCons (dBin addF (dLst (aCons (dC (.int 0)) aNil)) (dVar 1)) aNil))) [3, 4] (tgT [3, 4]) tTrue (dBin subF (dVar 3) (dVar 4)) [v0, some (.r l), v2, v3, v4] M
      = .val (.own (.list ((diffs row).map .int))) M := by
  refine lc_zip (a := row ++ [0]) (b := 0 :: row) (M := M) (chk := fun _ => true) (fun u v => u - v) ?_ (fun _ => rfl) (by simp [sizeLine]; omega) fun acc u v => ?_
  · have h1 : row.length + 1 ≤ sizeLine := by rw [sizeLine]; omega
    have h2 : 1 + row.length ≤ sizeLine := by rw [sizeLine]; omega
    have h3 : 1 ≤ sizeLine := by decide
    simp [hM, lstR, h1, h2, h3]
  · refine ⟨[v0, some (.r l), v2, some (.d (.int u)), some (.d (.int v))], by simp, by simp⟩
theorem E_law_told {n k : Int} {fs : List (List Int)} {M : Mem} (S : Stk n k fs) : F_law_told [.d (stkD n k fs)] M = .val (.w (.d (.tuple ((toldL k (cnt fs)).map .int)))) M := by
  refine fn_eval rfl ?_
  have hk0 := S.k0
  have hk4 := S.k4
  have hs : ∀ d x r e M1, rgI (k + 1) = d ++ x :: r → (∃ Mx v2 v3 v4, M <+: Mx ∧ e = [some (.d (stkD n k fs)), some (.r Mx.length), v2, v3, v4] ∧ M1 = Mx ++ [.list ((d.foldl (fun row m => toldStep row m (cnt fs m)) []).map .int)]) →
      (fun _ : Mem => true) M1 = true ∧ ∃ e1, tgN 2 (.int x) e = some e1 ∧ ∃ e2 M2, sSeq (sAsg 1 true (dLc (iZip (aCons (dBin addF (dVar 1) (dLst (aCons (dC (.int 0)) aNil))) (aCons (dBin addF (dLst (aCons (dC (.int 0)) aNil)) (dVar 1)) aNil))) [3, 4] (tgT [3, 4]) tTrue (dBin subF (dVar 3) (dVar 4))))
        (sSet (dBin addF (dIx (dVar 1) (dVar 2)) (dCB (one lenF) (aCons (dCall F_law_parts (aCons (dVar 0) (aCons (dVar 2) aNil))) aNil))) (dVar 1) (dVar 2)) e1 M1 = .next e2 M2 ∧
        ∃ Mx v2 v3 v4, M <+: Mx ∧ e2 = [some (.d (stkD n k fs)), some (.r Mx.length), v2, v3, v4] ∧ M2 = Mx ++ [.list (((d ++ [x]).foldl (fun row m => toldStep row m (cnt fs m)) []).map .int)] := by
    rintro d x r e M1 hd ⟨Mx, v2, v3, v4, hpre, rfl, rfl⟩
    generalize hrow : d.foldl (fun row m => toldStep row m (cnt fs m)) [] = row
    have hrl : row.length = d.length := by rw [← hrow, length_told]; simp
    have hx : 0 ≤ x ∧ x < k + 1 := mem_rgI.mp (by rw [hd]; simp)
    have hxd := rgI_split hd
    have hM : (Mx ++ [PyData.list (row.map .int)])[Mx.length]? = some (.list (row.map .int)) := by simp
    have key := diffs_lc (v0 := some (.d (stkD n k fs))) (v2 := some (.d (.int x))) (v3 := v3) (v4 := v4) hM (by omega)
    have hnext : sAsg 1 true (dLc (iZip (aCons (dBin addF (dVar 1) (dLst (aCons (dC (.int 0)) aNil))) (aCons (dBin addF (dLst (aCons (dC (.int 0)) aNil)) (dVar 1)) aNil))) [3, 4] (tgT [3, 4]) tTrue (dBin subF (dVar 3) (dVar 4))) [some (.d (stkD n k fs)), some (.r Mx.length), some (.d (.int x)), v3, v4] (Mx ++ [.list (row.map .int)])
        = .next [some (.d (stkD n k fs)), some (.r (Mx ++ [PyData.list (row.map .int)]).length), some (.d (.int x)), v3, v4] (Mx ++ [.list (row.map .int)] ++ [.list ((diffs row).map .int)]) := by
      simp only [sAsg, key, Ans.go, asgR]
      rfl
    generalize hMy : Mx ++ [PyData.list (row.map .int)] = My at hnext key
    refine ⟨rfl, _, rfl, [some (.d (stkD n k fs)), some (.r My.length), some (.d (.int x)), v3, v4], My ++ [.list ((toldStep row x (cnt fs x)).map .int)], ?_, My, some (.d (.int x)), v3, v4, ?_, rfl, ?_⟩
    · have el : [some (Wv.d (stkD n k fs)), some (.r Mx.length), v2, v3, v4].set 2 (some (.d (.int x))) = [some (Wv.d (stkD n k fs)), some (.r Mx.length), some (.d (.int x)), v3, v4] := rfl
      rw [el, seq_next hnext]
      have hM2 : (My ++ [PyData.list ((diffs row).map .int)])[My.length]? = some (.list ((diffs row).map .int)) := by simp
      have hset : ∀ c, (My ++ [PyData.list ((diffs row).map .int)]).set My.length c = My ++ [c] := fun c => by simp
      have hdl : ((diffs row).length : Int) = x + 1 := by rw [length_diffs]; omega
      have hat := at_ints (c := diffs row) (j := x) (by omega) (by omega)
      have hE := E_law_parts (M := My ++ [.list ((diffs row).map .int)]) S hx.1 (by omega)
      have hc : ((lawParts n fs x).length : Int) = cnt fs x := (cnt_law S hx.1).symm
      have hix : ixN (diffs row).length x = some x.toNat := ixN_ok hx.1 (by omega)
      simp only [sSet, dBin, dIx, dVar, List.getElem?_cons_zero, List.getElem?_cons_succ, Ans.bind, Rv.fz, ixR, Wv.rdK, hM2, hat, dCB, aCons, dCall, aNil, hE, cbR, one, Option.bind, lenF, List.length_map, hc, vI, opR, Wv.rd, addF, Ans.go, setR, hix, hset]
      unfold toldStep
      rw [List.map_set]
    · rw [← hMy]; exact hpre.trans (List.prefix_append _ _)
    · rw [List.foldl_append, hrow]; rfl
  have hit : iRange (dBin addF (dIx (dVar 0) (dC (.int 1))) (dC (.int 1))) [some (.d (stkD n k fs)), some (.r M.length), none, none, none] (M ++ [.list []]) = .val ((rgI (k + 1)).map .int, fun _ => true) (M ++ [.list []]) :=
    range_eval (by simp [stkD]) (by omega)
  obtain ⟨e', M', h1, Mx, v2, v3, v4, hpre, rfl, rfl⟩ := for_map PyData.int (rgI (k + 1)) (fun d e M1 => ∃ Mx v2 v3 v4, M <+: Mx ∧ e = [some (.d (stkD n k fs)), some (.r Mx.length), v2, v3, v4] ∧ M1 = Mx ++ [.list ((d.foldl (fun row m => toldStep row m (cnt fs m)) []).map .int)]) hit ⟨M, none, none, none, List.prefix_refl _, rfl, rfl⟩ hs (fun _ _ _ => rfl)
  unfold B_law_told
  rw [seq_next (e' := [some (.d (stkD n k fs)), some (.r M.length), none, none, none]) (M' := M ++ [.list []]) (by simp [lstR]), seq_next h1]
  obtain ⟨J, rfl⟩ := hpre
  simp [endR, retR, toldL]
end Lw

set_option Elab.async false
set_option linter.all false
set_option maxRecDepth 100000
set_option maxHeartbeats 1000000
namespace Lw
open PySem PySem.Spec PyProof.Rows L2 Lf Pu
def sums (row : List Int) : List Int := List.zipWith (· + ·) (row ++ [0]) (0 :: row)
def someL (number : Int) : Nat → List Int
  | 0 => [number]
  | t + 1 => sums (someL number t)
def addAt (total : List Int) (place : Nat) (some_ : List (Int × Nat)) : List Int := some_.foldl (fun total p => total.set (place + p.2) (total.getD (place + p.2) 0 + p.1)) total
def powStep (len : Nat) (total : List Int) (p : Int × Nat) : List Int := addAt total p.2 (someL p.1 (len - 1 - p.2)).zipIdx
def powP (row : List Int) : List Int := row.zipIdx.foldl (powStep row.length) (List.replicate row.length 0)
theorem length_sums (row : List Int) : (sums row).length = row.length + 1 := by simp [sums]
theorem length_someL (x : Int) : ∀ t, (someL x t).length = t + 1
  | 0 => rfl
  | t + 1 => by unfold someL; rw [length_sums, length_someL x t]
theorem length_addAt : ∀ (s : List (Int × Nat)) (place : Nat) (total : List Int), (addAt total place s).length = total.length
  | [], _, _ => rfl
  | p :: s, place, total => by
    show (addAt _ place s).length = _
    rw [length_addAt s]
    simp
theorem length_pow (len : Nat) : ∀ (ps : List (Int × Nat)) (total : List Int), (ps.foldl (powStep len) total).length = total.length
  | [], _ => rfl
  | p :: ps, total => by
    rw [List.foldl_cons, length_pow len ps]
    unfold powStep
    rw [length_addAt]
theorem zipIdx_split {A : Type} {l : List A} {d r : List (A × Nat)} {x : A × Nat} (h : l.zipIdx = d ++ x :: r) : x.2 = d.length ∧ d.length < l.length := by
  have h1 : l.zipIdx[d.length]? = some x := by rw [h]; simp
  rw [List.getElem?_zipIdx] at h1
  obtain ⟨a, ha, e⟩ := Option.map_eq_some_iff.mp h1
  have := (List.getElem?_eq_some_iff.mp ha).1
  rw [← e]
  simp
  omega
theorem enum_ints (row : List Int) : enumD (row.map .int) = row.zipIdx.map fun p => Lf.pairD (.int (p.2 : Nat)) (.int p.1) := by
  unfold enumD
  rw [List.zipIdx_map, List.map_map]
  rfl
section
variable {v0 v1 v2 v3 v5 v6 v7 v8 v9 : Option Wv} {M : Mem}
theorem sums_lc {row : List Int} (hr : row.length ≤ 100) :
    dLc (iZip (aCons (dBin addF (dVar 4) (dLst (aCons (dC (.int 0)) aNil))) (aCons (dBin addF (dLst (aCons (dC (.int 0)) aNil)) (dVar 4)) aNil))) [8, 9] (tgT [8, 9]) tTrue (dBin addF (dVar 8) (dVar 9)) [v0, v1, v2, v3, some (.d (.list (row.map .int))), v5, v6, v7, v8, v9] M
      = .val (.own (.list ((sums row).map .int))) M := by
  refine lc_zip (a := row ++ [0]) (b := 0 :: row) (M := M) (chk := fun _ => true) (fun u v => u + v) ?_ (fun _ => rfl) (by simp [sizeLine]; omega) fun acc u v => ?_
  · have h1 : row.length + 1 ≤ sizeLine := by rw [sizeLine]; omega
    have h2 : 1 + row.length ≤ sizeLine := by rw [sizeLine]; omega
    have h3 : 1 ≤ sizeLine := by decide
    simp [lstR, h1, h2, h3]
  · refine ⟨[v0, v1, v2, v3, some (.d (.list (row.map .int))), v5, v6, v7, some (.d (.int u)), some (.d (.int v))], by simp, by simp⟩
/-- the loop of the sums -/
theorem sums_for {row : List Int} {place number : Int} (hr : row.length ≤ 100) (hp : 0 ≤ place ∧ place < row.length) :
    ∃ v5' v8' v9', sFor (iRange (dBin subF (dBin subF (dCB (one lenF) (aCons (dVar 0) aNil)) (dC (.int 1))) (dVar 2))) (tgN 5) (sAsg 4 false (dLc (iZip (aCons (dBin addF (dVar 4) (dLst (aCons (dC (.int 0)) aNil))) (aCons (dBin addF (dLst (aCons (dC (.int 0)) aNil)) (dVar 4)) aNil))) [8, 9] (tgT [8, 9]) tTrue (dBin addF (dVar 8) (dVar 9))))
      [some (.d (.tuple (row.map .int))), v1, some (.d (.int place)), v3, some (.d (.list [.int number])), v5, v6, v7, v8, v9] M
      = .next [some (.d (.tuple (row.map .int))), v1, some (.d (.int place)), v3, some (.d (.list ((someL number (row.length - 1 - place.toNat)).map .int))), v5', v6, v7, v8', v9'] M := by
  have hs : ∀ d x r e M1, rgI (row.length - 1 - place) = d ++ x :: r → (∃ v5 v8 v9, e = [some (.d (.tuple (row.map .int))), v1, some (.d (.int place)), v3, some (.d (.list ((someL number d.length).map .int))), v5, v6, v7, v8, v9] ∧ M1 = M) →
      (fun _ : Mem => true) M1 = true ∧ ∃ e1, tgN 5 (.int x) e = some e1 ∧ ∃ e2 M2, sAsg 4 false (dLc (iZip (aCons (dBin addF (dVar 4) (dLst (aCons (dC (.int 0)) aNil))) (aCons (dBin addF (dLst (aCons (dC (.int 0)) aNil)) (dVar 4)) aNil))) [8, 9] (tgT [8, 9]) tTrue (dBin addF (dVar 8) (dVar 9))) e1 M1 = .next e2 M2 ∧
        ∃ v5 v8 v9, e2 = [some (.d (.tuple (row.map .int))), v1, some (.d (.int place)), v3, some (.d (.list ((someL number (d ++ [x]).length).map .int))), v5, v6, v7, v8, v9] ∧ M2 = M := by
    rintro d x r e M1 hd ⟨v5, v8, v9, rfl, rfl⟩
    have hdl : d.length < (rgI (row.length - 1 - place)).length := by rw [hd]; simp
    rw [length_rgI] at hdl
    have key := sums_lc (v0 := some (.d (.tuple (row.map .int)))) (v1 := v1) (v2 := some (.d (.int place))) (v3 := v3) (v5 := some (.d (.int x))) (v6 := v6) (v7 := v7) (v8 := v8) (v9 := v9) (M := M1) (row := someL number d.length) (by rw [length_someL]; omega)
    refine ⟨rfl, _, rfl, [some (.d (.tuple (row.map .int))), v1, some (.d (.int place)), v3, some (.d (.list ((sums (someL number d.length)).map .int))), some (.d (.int x)), v6, v7, v8, v9], M1, ?_, some (.d (.int x)), v8, v9, ?_, rfl⟩
    · have el : [some (Wv.d (.tuple (row.map .int))), v1, some (.d (.int place)), v3, some (.d (.list ((someL number d.length).map .int))), v5, v6, v7, v8, v9].set 5 (some (.d (.int x))) = [some (Wv.d (.tuple (row.map .int))), v1, some (.d (.int place)), v3, some (.d (.list ((someL number d.length).map .int))), some (.d (.int x)), v6, v7, v8, v9] := rfl
      rw [el]
      simp only [sAsg, key, Ans.go, asgR]
      rfl
    · rw [List.length_append]; rfl
  obtain ⟨e', M', h1, v5', v8', v9', rfl, rfl⟩ := for_map PyData.int (rgI (row.length - 1 - place)) (fun d e M1 => ∃ v5 v8 v9, e = [some (.d (.tuple (row.map .int))), v1, some (.d (.int place)), v3, some (.d (.list ((someL number d.length).map .int))), v5, v6, v7, v8, v9] ∧ M1 = M)
    (it := iRange (dBin subF (dBin subF (dCB (one lenF) (aCons (dVar 0) aNil)) (dC (.int 1))) (dVar 2))) (e := [some (.d (.tuple (row.map .int))), v1, some (.d (.int place)), v3, some (.d (.list [.int number])), v5, v6, v7, v8, v9]) (M := M) (M0 := M) (chk := fun _ => true)
    (range_eval (by simp) (by omega)) ⟨v5, v8, v9, rfl, rfl⟩ hs (fun _ _ _ => rfl)
  refine ⟨v5', v8', v9', ?_⟩
  rw [h1, length_rgI]
  have : ((row.length : Int) - 1 - place).toNat = row.length - 1 - place.toNat := by omega
  rw [this]
/-- the loop that adds -/
theorem add_for {place : Nat} {some_ total : List Int} {Mx : Mem} (hl : place + some_.length ≤ total.length) (hs100 : some_.length ≤ 100) :
    ∃ v6' v7', sFor (iEnum (aCons (dVar 4) aNil)) (tgT [6, 7]) (sSet (dBin addF (dIx (dVar 1) (dBin addF (dVar 2) (dVar 6))) (dVar 7)) (dVar 1) (dBin addF (dVar 2) (dVar 6)))
      [v0, some (.r Mx.length), some (.d (.int (place : Nat))), v3, some (.d (.list (some_.map .int))), v5, v6, v7, v8, v9] (Mx ++ [.list (total.map .int)])
      = .next [v0, some (.r Mx.length), some (.d (.int (place : Nat))), v3, some (.d (.list (some_.map .int))), v5, v6', v7', v8, v9] (Mx ++ [.list ((addAt total place some_.zipIdx).map .int)]) := by
  have hs : ∀ d (x : Int × Nat) r e M1, some_.zipIdx = d ++ x :: r → (∃ v6 v7, e = [v0, some (.r Mx.length), some (.d (.int (place : Nat))), v3, some (.d (.list (some_.map .int))), v5, v6, v7, v8, v9] ∧ M1 = Mx ++ [.list ((addAt total place d).map .int)]) →
      (fun _ : Mem => true) M1 = true ∧ ∃ e1, tgT [6, 7] (Lf.pairD (.int (x.2 : Nat)) (.int x.1)) e = some e1 ∧ ∃ e2 M2, sSet (dBin addF (dIx (dVar 1) (dBin addF (dVar 2) (dVar 6))) (dVar 7)) (dVar 1) (dBin addF (dVar 2) (dVar 6)) e1 M1 = .next e2 M2 ∧
        ∃ v6 v7, e2 = [v0, some (.r Mx.length), some (.d (.int (place : Nat))), v3, some (.d (.list (some_.map .int))), v5, v6, v7, v8, v9] ∧ M2 = Mx ++ [.list ((addAt total place (d ++ [x])).map .int)] := by
    rintro d ⟨a, j⟩ r e M1 hd ⟨v6, v7, rfl, rfl⟩
    obtain ⟨hj, hjl⟩ := zipIdx_split hd
    simp only at hj
    subst hj
    have hal := length_addAt d place total
    have hM : (Mx ++ [PyData.list ((addAt total place d).map .int)])[Mx.length]? = some (.list ((addAt total place d).map .int)) := by simp
    have hset : ∀ c, (Mx ++ [PyData.list ((addAt total place d).map .int)]).set Mx.length c = Mx ++ [c] := fun c => by simp
    have hat := at_ints (c := addAt total place d) (j := (place : Int) + (d.length : Int)) (by omega) (by omega)
    have htn : ((place : Int) + (d.length : Int)).toNat = place + d.length := by omega
    have hix : ixN (addAt total place d).length ((place : Int) + (d.length : Int)) = some (place + d.length) := by rw [ixN_ok (by omega) (by omega), htn]
    rw [htn] at hat
    refine ⟨rfl, [v0, some (.r Mx.length), some (.d (.int (place : Nat))), v3, some (.d (.list (some_.map .int))), v5, some (.d (.int (d.length : Nat))), some (.d (.int a)), v8, v9], rfl, [v0, some (.r Mx.length), some (.d (.int (place : Nat))), v3, some (.d (.list (some_.map .int))), v5, some (.d (.int (d.length : Nat))), some (.d (.int a)), v8, v9], _, ?_, _, _, rfl, rfl⟩
    simp only [sSet, dBin, dIx, dVar, List.getElem?_cons_zero, List.getElem?_cons_succ, Ans.bind, Rv.fz, ixR, opR, Wv.rd, addF, vI, Wv.rdK, hM, hat, Ans.go, setR, List.length_map, hix, hset]
    have e1 : addAt total place (d ++ [(a, d.length)]) = (addAt total place d).set (place + d.length) ((addAt total place d).getD (place + d.length) 0 + a) := by
      unfold addAt; rw [List.foldl_append]; rfl
    rw [e1, List.map_set]
  obtain ⟨e', M', h1, v6', v7', rfl, rfl⟩ := for_map (fun p : Int × Nat => Lf.pairD (.int (p.2 : Nat)) (.int p.1)) some_.zipIdx (fun d e M1 => ∃ v6 v7, e = [v0, some (.r Mx.length), some (.d (.int (place : Nat))), v3, some (.d (.list (some_.map .int))), v5, v6, v7, v8, v9] ∧ M1 = Mx ++ [.list ((addAt total place d).map .int)])
    (it := iEnum (aCons (dVar 4) aNil)) (e := [v0, some (.r Mx.length), some (.d (.int (place : Nat))), v3, some (.d (.list (some_.map .int))), v5, v6, v7, v8, v9]) (M := Mx ++ [.list (total.map .int)]) (M0 := Mx ++ [.list (total.map .int)]) (chk := fun _ => true)
    (by rw [← enum_ints]; rfl) ⟨v6, v7, rfl, rfl⟩ hs (fun _ _ _ => rfl)
  exact ⟨v6', v7', h1⟩
end
theorem E_law_powers {row : List Int} {M : Mem} (hr : row.length ≤ 100) : F_law_powers [.d (.tuple (row.map .int))] M = .val (.w (.d (.tuple ((powP row).map .int)))) M := by
  refine fn_eval rfl ?_
  have hs : ∀ d (x : Int × Nat) r e M1, row.zipIdx = d ++ x :: r → (∃ v2 v3 v4 v5 v6 v7 v8 v9, e = [some (.d (.tuple (row.map .int))), some (.r M.length), v2, v3, v4, v5, v6, v7, v8, v9] ∧ M1 = M ++ [.list ((d.foldl (powStep row.length) (List.replicate row.length 0)).map .int)]) →
      (fun _ : Mem => true) M1 = true ∧ ∃ e1, tgT [2, 3] (Lf.pairD (.int (x.2 : Nat)) (.int x.1)) e = some e1 ∧ ∃ e2 M2, sSeq (sAsg 4 false (dLst (aCons (dVar 3) aNil)))
        (sSeq (sFor (iRange (dBin subF (dBin subF (dCB (one lenF) (aCons (dVar 0) aNil)) (dC (.int 1))) (dVar 2))) (tgN 5) (sAsg 4 false (dLc (iZip (aCons (dBin addF (dVar 4) (dLst (aCons (dC (.int 0)) aNil))) (aCons (dBin addF (dLst (aCons (dC (.int 0)) aNil)) (dVar 4)) aNil))) [8, 9] (tgT [8, 9]) tTrue (dBin addF (dVar 8) (dVar 9)))))
        (sFor (iEnum (aCons (dVar 4) aNil)) (tgT [6, 7]) (sSet (dBin addF (dIx (dVar 1) (dBin addF (dVar 2) (dVar 6))) (dVar 7)) (dVar 1) (dBin addF (dVar 2) (dVar 6))))) e1 M1 = .next e2 M2 ∧
        ∃ v2 v3 v4 v5 v6 v7 v8 v9, e2 = [some (.d (.tuple (row.map .int))), some (.r M.length), v2, v3, v4, v5, v6, v7, v8, v9] ∧ M2 = M ++ [.list (((d ++ [x]).foldl (powStep row.length) (List.replicate row.length 0)).map .int)] := by
    rintro d ⟨a, j⟩ r e M1 hd ⟨v2, v3, v4, v5, v6, v7, v8, v9, rfl, rfl⟩
    obtain ⟨hj, hjl⟩ := zipIdx_split hd
    simp only at hj
    generalize ht : d.foldl (powStep row.length) (List.replicate row.length 0) = total
    have htl : total.length = row.length := by rw [← ht, length_pow]; simp
    obtain ⟨v5', v8', v9', h1⟩ := sums_for (v1 := some (.r M.length)) (v3 := some (.d (.int a))) (v5 := v5) (v6 := v6) (v7 := v7) (v8 := v8) (v9 := v9) (M := M ++ [.list (total.map .int)]) (row := row) (place := (j : Nat)) (number := a) hr (by omega)
    have hsl := length_someL a (row.length - 1 - j)
    obtain ⟨v6', v7', h2⟩ := add_for (v0 := some (.d (.tuple (row.map .int)))) (v3 := some (.d (.int a))) (v5 := v5') (v6 := v6) (v7 := v7) (v8 := v8') (v9 := v9') (place := j) (some_ := someL a (row.length - 1 - j)) (total := total) (Mx := M) (by omega) (by omega)
    refine ⟨rfl, [some (.d (.tuple (row.map .int))), some (.r M.length), some (.d (.int (j : Nat))), some (.d (.int a)), v4, v5, v6, v7, v8, v9], rfl, [some (.d (.tuple (row.map .int))), some (.r M.length), some (.d (.int (j : Nat))), some (.d (.int a)), some (.d (.list ((someL a (row.length - 1 - j)).map .int))), v5', v6', v7', v8', v9'], M ++ [.list (((d ++ [(a, j)]).foldl (powStep row.length) (List.replicate row.length 0)).map .int)], ?_, _, _, _, _, _, _, _, _, rfl, rfl⟩
    · rw [seq_next (e' := [some (.d (.tuple (row.map .int))), some (.r M.length), some (.d (.int (j : Nat))), some (.d (.int a)), some (.d (.list [.int a])), v5, v6, v7, v8, v9]) (M' := M ++ [.list (total.map .int)]) (by simp [lstR, sizeLine]), seq_next h1]
      rw [Int.toNat_natCast, h2, List.foldl_append, ht]
      rfl
  have hit : iEnum (aCons (dVar 0) aNil) [some (.d (.tuple (row.map .int))), some (.r M.length), none, none, none, none, none, none, none, none] (M ++ [.list ((List.replicate row.length (0 : Int)).map .int)]) = .val (row.zipIdx.map fun p => Lf.pairD (.int (p.2 : Nat)) (.int p.1), fun _ => true) (M ++ [.list ((List.replicate row.length (0 : Int)).map .int)]) := by
    rw [← enum_ints]; rfl
  obtain ⟨e', M', h1, v2, v3, v4, v5, v6, v7, v8, v9, rfl, rfl⟩ := for_map (fun p : Int × Nat => Lf.pairD (.int (p.2 : Nat)) (.int p.1)) row.zipIdx (fun d e M1 => ∃ v2 v3 v4 v5 v6 v7 v8 v9, e = [some (.d (.tuple (row.map .int))), some (.r M.length), v2, v3, v4, v5, v6, v7, v8, v9] ∧ M1 = M ++ [.list ((d.foldl (powStep row.length) (List.replicate row.length 0)).map .int)]) hit
    ⟨_, _, _, _, _, _, _, _, rfl, rfl⟩ hs (fun _ _ _ => rfl)
  have hrep : (List.replicate row.length [PyData.int 0]).flatten = (List.replicate row.length (0 : Int)).map .int := by
    generalize row.length = m
    induction m with
    | zero => rfl
    | succ m ih => rw [List.replicate_succ, List.flatten_cons, ih]; rfl
  have hmul : mulF (.list [.int 0]) (.int (row.length : Nat)) = some (.own (.list ((List.replicate row.length (0 : Int)).map .int))) := by
    have hc : (row.length : Int).natAbs < 2 ^ 63 ∧ [PyData.int 0].length * (row.length : Int).toNat ≤ sizeLine := by
      refine ⟨by omega, ?_⟩
      rw [sizeLine, Int.toNat_natCast]
      simp only [List.length_cons, List.length_nil]
      omega
    simp only [mulF]
    rw [if_pos hc, Int.toNat_natCast, hrep]
  have hasg : sAsg 1 true (dBin mulF (dLst (aCons (dC (.int 0)) aNil)) (dCB (one lenF) (aCons (dVar 0) aNil))) ([Wv.d (.tuple (row.map .int))].map some ++ List.replicate (10 - 1) none) M
      = .next [some (.d (.tuple (row.map .int))), some (.r M.length), none, none, none, none, none, none, none, none] (M ++ [.list ((List.replicate row.length (0 : Int)).map .int)]) := by
    have hf : dLst (aCons (dC (.int 0)) aNil) ([Wv.d (.tuple (row.map .int))].map some ++ List.replicate (10 - 1) none) M = .val (.own (.list [.int 0])) M := by
      have h1 : 1 ≤ sizeLine := by decide
      simp [lstR, h1]
    have hg : dCB (one lenF) (aCons (dVar 0) aNil) ([Wv.d (.tuple (row.map .int))].map some ++ List.replicate (10 - 1) none) M = .val (vI row.length) M := by simp
    unfold sAsg dBin
    rw [hf]
    simp only [Ans.bind]
    rw [hg]
    simp only [opR, Rv.fz, Wv.rd, vI, hmul, Ans.go, asgR]
    rfl
  unfold B_law_powers
  rw [seq_next (e' := [some (.d (.tuple (row.map .int))), some (.r M.length), none, none, none, none, none, none, none, none]) (M' := M ++ [.list ((List.replicate row.length (0 : Int)).map .int)]) hasg, seq_next h1]
  simp [endR, retR, powP]
end Lw

set_option Elab.async false
set_option linter.all false
set_option maxRecDepth 100000
set_option maxHeartbeats 1000000
/-! Pu2: a face with one point changed; sorted numbers. -/
namespace Pu
open Lf L2 PySem
open PySem.W (dataLe alike)
def leI (a b : Int) : Bool := decide (a ≤ b)
def sortI (l : List Int) : List Int := l.mergeSort leI
theorem sortI_perm (l : List Int) : (sortI l).Perm l := List.mergeSort_perm l leI
theorem sortI_sorted (l : List Int) : (sortI l).Pairwise fun a b => a ≤ b := by
  have := List.pairwise_mergeSort (le := leI) (fun a b c h1 h2 => by unfold leI at *; simp at *; omega) (fun a b => by unfold leI; simp; omega) l
  exact this.imp fun {a b} h => by unfold leI at h; simpa using h
theorem sortD_ints (l : List Int) : sortD (l.map .int) = (sortI l).map .int := by
  unfold sortD sortI
  have := PySem.W.sort_maps (r := leI) (s := dataLe false id) (l := l) PyData.int (fun a _ b _ => by
    have h := congrFun (congrFun (PySem.W.dataLe_int (fun x : Int => x)) a) b
    exact h.symm)
  exact this.symm
theorem sortOk_ints {l : List Int} (hl : l.length ≤ sizeLine) : sortOk (l.map .int) = true := by
  unfold sortOk
  simp only [Bool.and_eq_true, Bool.or_eq_true, List.all_eq_true, decide_eq_true_eq, List.length_map, List.mem_map]
  refine ⟨⟨⟨⟨?_, ?_⟩, hl⟩, canLay_ints l⟩, .inr ?_⟩
  · rintro _ ⟨a, _, rfl⟩ _ ⟨b, _, rfl⟩
    simp [alike]
  · rintro _ ⟨a, _, rfl⟩
    simp [PyData.depth]
  · rintro _ ⟨a, _, rfl⟩
    rfl
theorem rising_sortI {l : List Int} (h : l.Nodup) : Rising (sortI l) := by
  have h1 := sortI_sorted l
  have h2 : (sortI l).Nodup := (sortI_perm l).nodup_iff.mpr h
  exact (h1.and h2).imp fun {a b} ⟨x, y⟩ => by omega
/-- the points that are not in a face -/
def others (n : Int) (f : List Int) : List Int := (rgI n).filter fun a => !f.contains a
theorem others_len {n k : Int} {f : List Int} (F : Face n k f) (hk : 0 ≤ k) (hn : 0 ≤ n) : ((others n f).length : Int) = n - k := by
  have h1 : ((rgI n).filter fun a => f.contains a).Perm f := by
    refine (List.perm_ext_iff_of_nodup ((rising_rgI n).nodup.filter _) F.up.nodup).mpr fun a => ?_
    rw [List.mem_filter, mem_rgI]
    constructor
    · rintro ⟨_, h⟩; simpa using h
    · intro h; exact ⟨F.inn a h, by simpa using h⟩
  have h2 := h1.length_eq
  have h3 := List.length_eq_countP_add_countP (fun a => f.contains a) (l := rgI n)
  rw [List.countP_eq_length_filter, List.countP_eq_length_filter, length_rgI] at h3
  have h4 : ((rgI n).filter fun a => decide ¬(f.contains a = true)) = others n f := by
    unfold others
    congr 1
    funext a
    cases f.contains a <;> rfl
  rw [h4] at h3
  have := F.len
  omega
theorem mem_others {n : Int} {f : List Int} {a : Int} : a ∈ others n f ↔ (0 ≤ a ∧ a < n) ∧ a ∉ f := by
  unfold others
  rw [List.mem_filter, mem_rgI]
  simp
def rest (f : List Int) (out : Int) : List Int := f.filter fun a => !decide (a = out)
theorem face_swap {n k out into : Int} {f : List Int} (F : Face n k f) (ho : out ∈ f) (hi : into ∈ others n f) : Face n k (sortI (rest f out ++ [into])) := by
  have hi := mem_others.mp hi
  have hnd : (rest f out ++ [into]).Nodup := by
    rw [List.nodup_append]
    refine ⟨F.up.nodup.filter _, by simp, fun a ha b hb e => ?_⟩
    have hb : b = into := by simpa using hb
    unfold rest at ha
    rw [List.mem_filter] at ha
    exact hi.2 (by rw [← hb, ← e]; exact ha.1)
  have hpm : (rest f out ++ [out]).Perm f := by
    refine (List.perm_ext_iff_of_nodup ?_ F.up.nodup).mpr fun a => ?_
    · rw [List.nodup_append]
      refine ⟨F.up.nodup.filter _, by simp, fun a ha b hb e => ?_⟩
      have hb : b = out := by simpa using hb
      unfold rest at ha
      rw [List.mem_filter] at ha
      simp at ha
      exact ha.2 (by rw [e, hb])
    · unfold rest
      rw [List.mem_append, List.mem_filter]
      constructor
      · rintro (⟨h, _⟩ | h)
        · exact h
        · have : a = out := by simpa using h
          rw [this]; exact ho
      · intro h
        by_cases e : a = out
        · exact .inr (by simp [e])
        · exact .inl ⟨h, by simp [e]⟩
  have hlen := hpm.length_eq
  refine ⟨rising_sortI hnd, fun a ha => ?_, ?_⟩
  · have ha := (sortI_perm _).mem_iff.mp ha
    rcases List.mem_append.mp ha with ha | ha
    · unfold rest at ha
      exact F.inn a (List.mem_filter.mp ha).1
    · have : a = into := by simpa using ha
      rw [this]; exact hi.1
  · rw [(sortI_perm _).length_eq]
    have := F.len
    simp at hlen ⊢
    omega
theorem stk_of {n k : Int} {fs : List (List Int)} (h1 : 1 ≤ n) (h2 : n ≤ 8) (h3 : 0 ≤ k) (h4 : k ≤ n) (h5 : k ≤ 4) (hne : fs ≠ []) (hl : fs.length ≤ 70) (hf : ∀ f ∈ fs, Face n k f) : Stk n k (sortT (dd fs)) := by
  refine ⟨h1, h2, h3, h4, h5, fun e => ?_, ?_, fun f hfm => hf f (mem_dd.mp ((sortT_perm _).mem_iff.mp hfm)), ?_⟩
  · cases hfs : fs with
    | nil => exact hne hfs
    | cons f r =>
      have : f ∈ sortT (dd fs) := (sortT_perm _).mem_iff.mpr (mem_dd.mpr (by rw [hfs]; simp))
      rw [e] at this
      cases this
  · rw [(sortT_perm _).length_eq]
    have := length_dd fs
    omega
  · have h1 := sortT_sorted (dd fs)
    have h2 : (sortT (dd fs)).Nodup := (sortT_perm _).nodup_iff.mpr (nodup_dd fs)
    exact (h1.and h2).imp fun {a b} ⟨x, y⟩ => lt_of_le_ne x y
theorem faces_dd {n k : Int} {fs : List (List Int)} (h3 : 0 ≤ k) (hf : ∀ f ∈ fs, Face n k f) : (dd fs).length ≤ 1 ∨ (fs.all fun x => !x.isEmpty) = true := by
  by_cases h : k = 0
  · refine .inl ?_
    have h1 : ∀ x ∈ dd fs, x = [] := fun x hx => by
      have := (hf x (mem_dd.mp hx)).len
      exact List.length_eq_zero_iff.mp (by omega)
    have h2 := nodup_dd fs
    cases hp : dd fs with
    | nil => simp
    | cons a r =>
      cases r with
      | nil => simp
      | cons b r =>
        rw [hp] at h1 h2
        have e1 := h1 a (by simp)
        have e2 := h1 b (by simp)
        simp [e1, e2] at h2
  · refine .inr (List.all_eq_true.mpr fun x hx => ?_)
    have := (hf x hx).len
    cases x with
    | nil => simp at this; omega
    | cons a r => rfl
end Pu

set_option Elab.async false
set_option linter.all false
set_option maxRecDepth 100000
set_option maxHeartbeats 1000000
namespace Lw
open PySem PySem.Spec PyProof.Rows L2 Lf Pu
/-- the memory: the pen at l, a list behind -/
def pm (M : Mem) (l : Nat) (c b : Int) (acc : List PyData) : Mem := M.set l (pen c b) ++ [.list acc]
section
variable {M : Mem} {l : Nat} {c c' b : Int} {acc acc' : List PyData}
theorem pm_get (hl : l < M.length) : (pm M l c b acc)[l]? = some (pen c b) := by
  unfold pm
  rw [List.getElem?_append_left (by simpa using hl), List.getElem?_set_self hl]
theorem pm_set (hl : l < M.length) : (pm M l c b acc).set l (pen c' b) = pm M l c' b acc := by
  unfold pm
  rw [List.set_append_left _ _ (by simpa using hl), List.set_set]
theorem pm_top : (pm M l c b acc)[M.length]? = some (.list acc) := by
  unfold pm
  rw [List.getElem?_append_right (by simp)]
  simp
theorem pm_topset : (pm M l c b acc).set M.length (.list acc') = pm M l c b acc' := by
  unfold pm
  rw [List.set_append_right _ _ (by simp)]
  simp
theorem pm_cut : (pm M l c b acc).take M.length = M.set l (pen c b) := by
  unfold pm
  rw [List.take_append_of_le_length (by simp), List.take_of_length_le (by simp)]
theorem draw_pm {n : Int} (hl : l < M.length) (h0 : 0 < n) (h1 : n < 2 ^ 64) : ∃ v c', 0 ≤ v ∧ v < n ∧ F_law_draw [.r l, .d (.int n)] (pm M l c b acc) = .val (vI v) (pm M l c' b acc) := by
  obtain ⟨v, c', h2, h3, h4⟩ := E_law_draw (pm_get (c := c) (b := b) (acc := acc) hl) h0 h1
  rw [pm_set hl] at h4
  exact ⟨v, c', h2, h3, h4⟩
theorem draw_m {n : Int} (hl : l < M.length) (h0 : 0 < n) (h1 : n < 2 ^ 64) : ∃ v c', 0 ≤ v ∧ v < n ∧ F_law_draw [.r l, .d (.int n)] (M.set l (pen c b)) = .val (vI v) (M.set l (pen c' b)) := by
  obtain ⟨v, c', h2, h3, h4⟩ := E_law_draw (M := M.set l (pen c b)) (List.getElem?_set_self hl) h0 h1
  rw [List.set_set] at h4
  exact ⟨v, c', h2, h3, h4⟩
end
theorem at_some {A : Type} {xs : List A} {v : Int} (h0 : 0 ≤ v) (h1 : v < xs.length) : ∃ x ∈ xs, atI xs v = some x := by
  have hl : v.toNat < xs.length := by omega
  exact ⟨xs[v.toNat], List.getElem_mem hl, atI_ok h0 (List.getElem?_eq_getElem hl)⟩
theorem E_law_numbers_of {M : Mem} {l : Nat} {c b : Int} (hl : l < M.length) : ∃ (row : List Int) (c' : Int), 1 ≤ row.length ∧ row.length ≤ 5 ∧ (∀ x ∈ row, -1000000 ≤ x ∧ x ≤ 1000000) ∧ F_law_numbers_of [.r l] (M.set l (pen c b)) = .val (.w (.d (.tuple (row.map .int)))) (M.set l (pen c' b)) := by
  obtain ⟨t, c0, ht0, ht5, hd0⟩ := draw_pm (c := c) (b := b) (acc := []) (n := 5) hl (by omega) (by omega)
  have hs : ∀ d x r e M1, rgI (1 + t) = d ++ x :: r → (∃ (c : Int) (row : List Int) (v2 v3 : Option Wv), e = [some (.r l), some (.r M.length), v2, v3] ∧ M1 = pm M l c b (row.map .int) ∧ row.length = d.length ∧ ∀ x ∈ row, -1000000 ≤ x ∧ x ≤ 1000000) →
      (fun _ : Mem => true) M1 = true ∧ ∃ e1, tgN 2 (.int x) e = some e1 ∧ ∃ e2 M2, sSeq (sAsg 3 false (dIx (dLst (aCons (dC (.int 10)) (aCons (dBin addF (dBin powF (dC (.int 10)) (dC (.int 6))) (dC (.int 1))) aNil))) (dCall F_law_draw (aCons (dVar 0) (aCons (dC (.int 2)) aNil)))))
        (sDrop (dMt appF (dVar 1) (aCons (dBin mulF (dIx (dLst (aCons (dC (.int 1)) (aCons (dNeg (dC (.int 1))) aNil))) (dCall F_law_draw (aCons (dVar 0) (aCons (dC (.int 2)) aNil)))) (dCall F_law_draw (aCons (dVar 0) (aCons (dVar 3) aNil)))) aNil))) e1 M1 = .next e2 M2 ∧
        ∃ (c : Int) (row : List Int) (v2 v3 : Option Wv), e2 = [some (.r l), some (.r M.length), v2, v3] ∧ M2 = pm M l c b (row.map .int) ∧ row.length = (d ++ [x]).length ∧ ∀ x ∈ row, -1000000 ≤ x ∧ x ≤ 1000000 := by
    rintro d x r e M1 hd ⟨c, row, v2, v3, rfl, rfl, hrl, hb⟩
    have hdl : d.length < (rgI (1 + t)).length := by rw [hd]; simp
    rw [length_rgI] at hdl
    obtain ⟨a1, c1, ha0, ha1, hd1⟩ := draw_pm (c := c) (b := b) (acc := row.map .int) (n := 2) hl (by omega) (by omega)
    obtain ⟨wide, hw, hat1⟩ : ∃ w : Int, (w = 10 ∨ w = 1000001) ∧ atI [PyData.int 10, .int 1000001] a1 = some (.int w) := by
      have : a1 = 0 ∨ a1 = 1 := by omega
      rcases this with rfl | rfl
      · exact ⟨10, .inl rfl, by simp⟩
      · exact ⟨1000001, .inr rfl, by simp⟩
    obtain ⟨a2, c2, hb0, hb1, hd2⟩ := draw_pm (c := c1) (b := b) (acc := row.map .int) (n := 2) hl (by omega) (by omega)
    obtain ⟨sg, hsg, hat2⟩ : ∃ w : Int, (w = 1 ∨ w = -1) ∧ atI [PyData.int 1, .int (-1)] a2 = some (.int w) := by
      have : a2 = 0 ∨ a2 = 1 := by omega
      rcases this with rfl | rfl
      · exact ⟨1, .inl rfl, by simp⟩
      · exact ⟨-1, .inr rfl, by simp⟩
    obtain ⟨a3, c3, hc0, hc1, hd3⟩ := draw_pm (c := c2) (b := b) (acc := row.map .int) (n := wide) hl (by omega) (by omega)
    have hp : (10 : Int) ^ (Int.toNat 6) = 1000000 := by decide
    have h10 : (10 : Int).natAbs < 2 ^ 64 := by decide
    have hz2 : 2 ≤ sizeLine := by decide
    refine ⟨rfl, [some (.r l), some (.r M.length), some (.d (.int x)), v3], rfl, [some (.r l), some (.r M.length), some (.d (.int x)), some (.d (.int wide))], pm M l c3 b ((row ++ [sg * a3]).map .int), ?_, c3, row ++ [sg * a3], _, _, rfl, rfl, by simp [hrl], ?_⟩
    · have h1 : sAsg 3 false (dIx (dLst (aCons (dC (.int 10)) (aCons (dBin addF (dBin powF (dC (.int 10)) (dC (.int 6))) (dC (.int 1))) aNil))) (dCall F_law_draw (aCons (dVar 0) (aCons (dC (.int 2)) aNil)))) [some (.r l), some (.r M.length), some (.d (.int x)), v3] (pm M l c b (row.map .int))
          = .next [some (.r l), some (.r M.length), some (.d (.int x)), some (.d (.int wide))] (pm M l c1 b (row.map .int)) := by
        simp [lstR, hp, hz2, hd1, hat1]
      rw [seq_next h1]
      have htop := pm_top (M := M) (l := l) (c := c1) (b := b) (acc := row.map .int)
      have htop3 := pm_top (M := M) (l := l) (c := c3) (b := b) (acc := row.map .int)
      have hset := pm_topset (M := M) (l := l) (c := c3) (b := b) (acc := row.map .int) (acc' := (row ++ [sg * a3]).map .int)
      have hlen : row.length < sizeLine := by rw [sizeLine]; omega
      have hsg2 : sg.natAbs < 18446744073709551616 := by omega
      rw [List.map_append] at hset
      simp [lstR, hz2, htop, hd2, hat2, hd3, hsg2, htop3, hlen]
      simpa using hset
    · intro y hy
      rcases List.mem_append.mp hy with hy | hy
      · exact hb y hy
      · have : y = sg * a3 := by simpa using hy
        rw [this]
        rcases hsg with rfl | rfl <;> omega
  obtain ⟨e', M', h1, c', row, v2, v3, rfl, rfl, hrl, hb⟩ := for_map PyData.int (rgI (1 + t)) (fun d e M1 => ∃ (c : Int) (row : List Int) (v2 v3 : Option Wv), e = [some (.r l), some (.r M.length), v2, v3] ∧ M1 = pm M l c b (row.map .int) ∧ row.length = d.length ∧ ∀ x ∈ row, -1000000 ≤ x ∧ x ≤ 1000000)
    (it := iRange (dBin addF (dC (.int 1)) (dCall F_law_draw (aCons (dVar 0) (aCons (dC (.int 5)) aNil))))) (e := [some (.r l), some (.r M.length), none, none]) (M := pm M l c0 b []) (M0 := pm M l c b []) (chk := fun _ => true)
    (range_eval (by simp [hd0]) (by omega)) ⟨c0, [], none, none, rfl, rfl, rfl, by simp⟩ hs (fun _ _ _ => rfl)
  rw [length_rgI] at hrl
  refine ⟨row, c', by omega, by omega, hb, fn_eval rfl ?_⟩
  unfold B_law_numbers_of
  have htop := pm_top (M := M) (l := l) (c := c') (b := b) (acc := row.map .int)
  have hcut := pm_cut (M := M) (l := l) (c := c') (b := b) (acc := row.map .int)
  rw [seq_next (e' := [some (.r l), some (.r M.length), none, none]) (M' := pm M l c b []) (by simp [lstR, pm]), seq_next h1]
  simp [htop, endR, retR, hcut]
end Lw

set_option Elab.async false
set_option linter.all false
set_option maxRecDepth 100000
set_option maxHeartbeats 2000000
namespace Lw
open PySem PySem.Spec PyProof.Rows L2 Lf Pu
section
variable {v0 v1 v2 v4 v5 v6 v7 v9 v10 v11 v12 v13 : Option Wv} {M : Mem}
theorem others_lc {n : Int} {f : List Int} (hn : 0 ≤ n ∧ n ≤ 8) :
    dLc (iRange (dVar 3)) [13] (tgN 13) (tst (dBin (inF true) (dVar 13) (dVar 8))) (dVar 13) [v0, v1, v2, some (.d (.int n)), v4, v5, v6, v7, some (.d (tI f)), v9, v10, v11, v12, v13] M
      = .val (.own (.list ((others n f).map .int))) M := by
  rw [lc_eval (items := (rgI n).map .int) (chk := fun _ => true) (M := M) (fun d => match d with | .int a => !f.contains a | _ => false) (fun d => d) (range_eval (by simp) (by omega)) (fun _ => rfl) (by simp [length_rgI, sizeLine]; omega) fun acc d hd => ?_]
  · rw [List.filter_map, List.map_map]
    rfl
  · obtain ⟨a, _, rfl⟩ := List.mem_map.mp hd
    refine ⟨[v0, v1, v2, some (.d (.int n)), v4, v5, v6, v7, some (.d (tI f)), v9, v10, v11, v12, some (.d (.int a))], by simp, ?_, fun _ => ⟨.w (.d (.int a)), by simp, rfl⟩⟩
    have h1 := canLay_ints f
    have h2 := any_eqv_ints a f
    simp only [tst, dBin, dVar, List.getElem?_cons_zero, List.getElem?_cons_succ, Ans.bind, opR, Rv.fz, Wv.rd, tI, inF, sh_int, h1, and_self, if_true, h2]
    rfl
theorem rest_lc {v3 : Option Wv} {out : Int} {f : List Int} (hf : f.length ≤ 100) :
    dLc (iSeq (dVar 8)) [13] (tgN 13) (tst (dBin neF (dVar 13) (dVar 9))) (dVar 13) [v0, v1, v2, v3, v4, v5, v6, v7, some (.d (tI f)), some (.d (.int out)), v10, v11, v12, v13] M
      = .val (.own (.list ((rest f out).map .int))) M := by
  rw [lc_eval (items := f.map .int) (chk := fun _ => true) (M := M) (fun d => match d with | .int a => !decide (a = out) | _ => false) (fun d => d) (by simp [tI]) (fun _ => rfl) (by simp [sizeLine]; omega) fun acc d hd => ?_]
  · rw [List.filter_map, List.map_map]
    rfl
  · obtain ⟨a, _, rfl⟩ := List.mem_map.mp hd
    refine ⟨[v0, v1, v2, v3, v4, v5, v6, v7, some (.d (tI f)), some (.d (.int out)), v10, v11, v12, some (.d (.int a))], by simp, by simp, fun _ => ⟨.w (.d (.int a)), by simp, rfl⟩⟩
end
theorem at_tups {fs : List (List Int)} {v : Int} (h0 : 0 ≤ v) (h1 : v < fs.length) : ∃ f ∈ fs, atI (fs.map tI) v = some (tI f) := by
  obtain ⟨x, hx, e⟩ := at_some (xs := fs.map tI) h0 (by simpa using h1)
  obtain ⟨f, hf, rfl⟩ := List.mem_map.mp hx
  exact ⟨f, hf, e⟩
theorem at_nums {fs : List Int} {v : Int} (h0 : 0 ≤ v) (h1 : v < fs.length) : ∃ f ∈ fs, atI (fs.map PyData.int) v = some (.int f) := by
  obtain ⟨x, hx, e⟩ := at_some (xs := fs.map PyData.int) h0 (by simpa using h1)
  obtain ⟨f, hf, rfl⟩ := List.mem_map.mp hx
  exact ⟨f, hf, e⟩
/-- one turn of the stack's loop -/
theorem stack_turn {M : Mem} {l : Nat} {c b way n k most x : Int} {fs : List (List Int)} {v8 v9 v10 v11 v12 v13 : Option Wv} (hl : l < M.length) (hn : 1 ≤ n ∧ n ≤ 8) (hk : 0 ≤ k ∧ k ≤ n ∧ k ≤ 4) (hne : fs ≠ []) (hlen : fs.length ≤ 60) (hf : ∀ f ∈ fs, Face n k f) :
    ∃ (c' : Int) (f' : List Int) (w8 w9 w10 w11 w12 w13 : Option Wv), Face n k f' ∧ sSeq (sAsg 8 false (dIx (dVar 6) (dCall F_law_draw (aCons (dVar 0) (aCons (dCB (one lenF) (aCons (dVar 6) aNil)) aNil)))))
      (sIf (tOrD (tst (dBin eqF (dVar 2) (dC (.int 0)))) (tOrD (tst (dBin eqF (dVar 4) (dC (.int 0)))) (tst (dBin eqF (dVar 4) (dVar 3))))) (sDrop (dMt appF (dVar 6) (aCons (dIx (dVar 5) (dCall F_law_draw (aCons (dVar 0) (aCons (dCB (one lenF) (aCons (dVar 5) aNil)) aNil)))) aNil))) (sSeq (sAsg 9 false (dIx (dVar 8) (dCall F_law_draw (aCons (dVar 0) (aCons (dVar 4) aNil)))))
      (sSeq (sAsg 10 false (dLc (iRange (dVar 3)) [13] (tgN 13) (tst (dBin (inF true) (dVar 13) (dVar 8))) (dVar 13)))
      (sSeq (sAsg 11 false (dIx (dVar 10) (dCall F_law_draw (aCons (dVar 0) (aCons (dBin subF (dVar 3) (dVar 4)) aNil)))))
      (sSeq (sAsg 12 false (dLc (iSeq (dVar 8)) [13] (tgN 13) (tst (dBin neF (dVar 13) (dVar 9))) (dVar 13)))
      (sDrop (dMt appF (dVar 6) (aCons (dCB (one tupleF) (aCons (dCB (one sortF) (aCons (dBin addF (dVar 12) (dLst (aCons (dVar 11) aNil))) aNil)) aNil)) aNil))))))))
      [some (.r l), some (.d (.int most)), some (.d (.int way)), some (.d (.int n)), some (.d (.int k)), some (.d (.list ((allL n k).map tI))), some (.r M.length), some (.d (.int x)), v8, v9, v10, v11, v12, v13] (pm M l c b (fs.map tI))
      = .next [some (.r l), some (.d (.int most)), some (.d (.int way)), some (.d (.int n)), some (.d (.int k)), some (.d (.list ((allL n k).map tI))), some (.r M.length), some (.d (.int x)), w8, w9, w10, w11, w12, w13] (pm M l c' b ((fs ++ [f']).map tI)) := by
  have hfl : 0 < fs.length := List.length_pos_iff.mpr hne
  have hal := allL_le (n := n) (m := k) (by omega) (by omega)
  have hane : 0 < (allL n k).length := List.length_pos_iff.mpr (allL_ne hk.1 hk.2.1)
  have htop : ∀ c, (pm M l c b (fs.map tI))[M.length]? = some (.list (fs.map tI)) := fun c => pm_top
  obtain ⟨a1, c1, h10, h11, hd1⟩ := draw_pm (c := c) (b := b) (acc := fs.map tI) (n := fs.length) hl (by omega) (by omega)
  obtain ⟨f, hfm, hat1⟩ := at_tups h10 h11
  have F := hf f hfm
  have s1 : sAsg 8 false (dIx (dVar 6) (dCall F_law_draw (aCons (dVar 0) (aCons (dCB (one lenF) (aCons (dVar 6) aNil)) aNil)))) [some (.r l), some (.d (.int most)), some (.d (.int way)), some (.d (.int n)), some (.d (.int k)), some (.d (.list ((allL n k).map tI))), some (.r M.length), some (.d (.int x)), v8, v9, v10, v11, v12, v13] (pm M l c b (fs.map tI))
      = .next [some (.r l), some (.d (.int most)), some (.d (.int way)), some (.d (.int n)), some (.d (.int k)), some (.d (.list ((allL n k).map tI))), some (.r M.length), some (.d (.int x)), some (.d (tI f)), v9, v10, v11, v12, v13] (pm M l c1 b (fs.map tI)) := by
    simp [htop, hd1, hat1]
  have hmem : (fs.map tI).length < sizeLine := by rw [List.length_map, sizeLine]; omega
  have hset : ∀ c f', (pm M l c b (fs.map tI)).set M.length (.list (fs.map tI ++ [tI f'])) = pm M l c b ((fs ++ [f']).map tI) := fun c f' => by rw [pm_topset, List.map_append]; rfl
  by_cases hc : way = 0 ∨ k = 0 ∨ k = n
  · obtain ⟨a2, c2, h20, h21, hd2⟩ := draw_pm (c := c1) (b := b) (acc := fs.map tI) (n := (allL n k).length) hl (by omega) (by omega)
    obtain ⟨f', hfm', hat2⟩ := at_tups h20 h21
    refine ⟨c2, f', some (.d (tI f)), v9, v10, v11, v12, v13, (mem_allL hk.1).mp hfm', ?_⟩
    rw [seq_next s1]
    have htest : tOrD (tst (dBin eqF (dVar 2) (dC (.int 0)))) (tOrD (tst (dBin eqF (dVar 4) (dC (.int 0)))) (tst (dBin eqF (dVar 4) (dVar 3)))) [some (.r l), some (.d (.int most)), some (.d (.int way)), some (.d (.int n)), some (.d (.int k)), some (.d (.list ((allL n k).map tI))), some (.r M.length), some (.d (.int x)), some (.d (tI f)), v9, v10, v11, v12, v13] (pm M l c1 b (fs.map tI)) = .val true (pm M l c1 b (fs.map tI)) := by
      by_cases h1 : way = 0
      · simp [h1]
      · by_cases h2 : k = 0
        · simp [h1, h2]
        · have h3 : k = n := by omega
          simp [h1, h2, h3]
    unfold sIf
    rw [htest]
    simp only [Ans.go, if_true, sDrop, dMt, dVar, List.getElem?_cons_zero, List.getElem?_cons_succ, Ans.bind, Rv.fz, isL, htop, aCons, aNil, dIx, dCall, dCB, cbR, one, Wv.rdK, Option.bind, lenF, List.length_map, vI, hd2, ixR, hat2, mtR, appF]
    rw [if_pos (by simpa using hmem)]
    simp only [hset]
  · have hw : way ≠ 0 := fun e => hc (.inl e)
    have hk0 : k ≠ 0 := fun e => hc (.inr (.inl e))
    have hkn : k ≠ n := fun e => hc (.inr (.inr e))
    have hFl := F.len
    obtain ⟨a2, c2, h20, h21, hd2⟩ := draw_pm (c := c1) (b := b) (acc := fs.map tI) (n := k) hl (by omega) (by omega)
    obtain ⟨out, hout, hat2⟩ := at_nums (fs := f) h20 (by omega)
    have hol := others_len F hk.1 (by omega)
    obtain ⟨a3, c3, h30, h31, hd3⟩ := draw_pm (c := c2) (b := b) (acc := fs.map tI) (n := n - k) hl (by omega) (by omega)
    obtain ⟨into, hinto, hat3⟩ := at_nums (fs := others n f) h30 (by omega)
    refine ⟨c3, sortI (rest f out ++ [into]), some (.d (tI f)), some (.d (.int out)), some (.d (.list ((others n f).map .int))), some (.d (.int into)), some (.d (.list ((rest f out).map .int))), v13, face_swap F hout hinto, ?_⟩
    rw [seq_next s1]
    have htest : tOrD (tst (dBin eqF (dVar 2) (dC (.int 0)))) (tOrD (tst (dBin eqF (dVar 4) (dC (.int 0)))) (tst (dBin eqF (dVar 4) (dVar 3)))) [some (.r l), some (.d (.int most)), some (.d (.int way)), some (.d (.int n)), some (.d (.int k)), some (.d (.list ((allL n k).map tI))), some (.r M.length), some (.d (.int x)), some (.d (tI f)), v9, v10, v11, v12, v13] (pm M l c1 b (fs.map tI)) = .val false (pm M l c1 b (fs.map tI)) := by
      simp [hw, hk0, hkn]
    unfold sIf
    rw [htest]
    simp only [Ans.go, Bool.false_eq_true, if_false]
    have s2 : sAsg 9 false (dIx (dVar 8) (dCall F_law_draw (aCons (dVar 0) (aCons (dVar 4) aNil)))) [some (.r l), some (.d (.int most)), some (.d (.int way)), some (.d (.int n)), some (.d (.int k)), some (.d (.list ((allL n k).map tI))), some (.r M.length), some (.d (.int x)), some (.d (tI f)), v9, v10, v11, v12, v13] (pm M l c1 b (fs.map tI))
        = .next [some (.r l), some (.d (.int most)), some (.d (.int way)), some (.d (.int n)), some (.d (.int k)), some (.d (.list ((allL n k).map tI))), some (.r M.length), some (.d (.int x)), some (.d (tI f)), some (.d (.int out)), v10, v11, v12, v13] (pm M l c2 b (fs.map tI)) := by
      simp [hd2, tI, hat2]
    have ho := others_lc (v0 := some (.r l)) (v1 := some (.d (.int most))) (v2 := some (.d (.int way))) (v4 := some (.d (.int k))) (v5 := some (.d (.list ((allL n k).map tI)))) (v6 := some (.r M.length)) (v7 := some (.d (.int x))) (v9 := some (.d (.int out))) (v10 := v10) (v11 := v11) (v12 := v12) (v13 := v13) (M := pm M l c2 b (fs.map tI)) (n := n) (f := f) (by omega)
    have s3 : sAsg 10 false (dLc (iRange (dVar 3)) [13] (tgN 13) (tst (dBin (inF true) (dVar 13) (dVar 8))) (dVar 13)) [some (.r l), some (.d (.int most)), some (.d (.int way)), some (.d (.int n)), some (.d (.int k)), some (.d (.list ((allL n k).map tI))), some (.r M.length), some (.d (.int x)), some (.d (tI f)), some (.d (.int out)), v10, v11, v12, v13] (pm M l c2 b (fs.map tI))
        = .next [some (.r l), some (.d (.int most)), some (.d (.int way)), some (.d (.int n)), some (.d (.int k)), some (.d (.list ((allL n k).map tI))), some (.r M.length), some (.d (.int x)), some (.d (tI f)), some (.d (.int out)), some (.d (.list ((others n f).map .int))), v11, v12, v13] (pm M l c2 b (fs.map tI)) := by
      simp only [sAsg, ho, Ans.go, asgR]; rfl
    have s4 : sAsg 11 false (dIx (dVar 10) (dCall F_law_draw (aCons (dVar 0) (aCons (dBin subF (dVar 3) (dVar 4)) aNil)))) [some (.r l), some (.d (.int most)), some (.d (.int way)), some (.d (.int n)), some (.d (.int k)), some (.d (.list ((allL n k).map tI))), some (.r M.length), some (.d (.int x)), some (.d (tI f)), some (.d (.int out)), some (.d (.list ((others n f).map .int))), v11, v12, v13] (pm M l c2 b (fs.map tI))
        = .next [some (.r l), some (.d (.int most)), some (.d (.int way)), some (.d (.int n)), some (.d (.int k)), some (.d (.list ((allL n k).map tI))), some (.r M.length), some (.d (.int x)), some (.d (tI f)), some (.d (.int out)), some (.d (.list ((others n f).map .int))), some (.d (.int into)), v12, v13] (pm M l c3 b (fs.map tI)) := by
      simp [hd3, hat3]
    have hr := rest_lc (v0 := some (.r l)) (v1 := some (.d (.int most))) (v2 := some (.d (.int way))) (v3 := some (.d (.int n))) (v4 := some (.d (.int k))) (v5 := some (.d (.list ((allL n k).map tI)))) (v6 := some (.r M.length)) (v7 := some (.d (.int x))) (v10 := some (.d (.list ((others n f).map .int)))) (v11 := some (.d (.int into))) (v12 := v12) (v13 := v13) (M := pm M l c3 b (fs.map tI)) (out := out) (f := f) (by omega)
    have s5 : sAsg 12 false (dLc (iSeq (dVar 8)) [13] (tgN 13) (tst (dBin neF (dVar 13) (dVar 9))) (dVar 13)) [some (.r l), some (.d (.int most)), some (.d (.int way)), some (.d (.int n)), some (.d (.int k)), some (.d (.list ((allL n k).map tI))), some (.r M.length), some (.d (.int x)), some (.d (tI f)), some (.d (.int out)), some (.d (.list ((others n f).map .int))), some (.d (.int into)), v12, v13] (pm M l c3 b (fs.map tI))
        = .next [some (.r l), some (.d (.int most)), some (.d (.int way)), some (.d (.int n)), some (.d (.int k)), some (.d (.list ((allL n k).map tI))), some (.r M.length), some (.d (.int x)), some (.d (tI f)), some (.d (.int out)), some (.d (.list ((others n f).map .int))), some (.d (.int into)), some (.d (.list ((rest f out).map .int))), v13] (pm M l c3 b (fs.map tI)) := by
      simp only [sAsg, hr, Ans.go, asgR]; rfl
    rw [seq_next s2, seq_next s3, seq_next s4, seq_next s5]
    have hrl : (rest f out).length ≤ f.length := List.length_filter_le _ _
    have hz1 : (rest f out).length + 1 ≤ sizeLine := by rw [sizeLine]; omega
    have hz0 : 1 ≤ sizeLine := by decide
    have hso : sortOk ((rest f out).map PyData.int ++ [.int into]) = true := by
      have := sortOk_ints (l := rest f out ++ [into]) (by rw [List.length_append]; exact hz1)
      rw [List.map_append] at this
      exact this
    have hsd : sortD ((rest f out).map PyData.int ++ [.int into]) = (sortI (rest f out ++ [into])).map .int := by
      rw [← sortD_ints, List.map_append]; rfl
    simp only [sDrop, dMt, dVar, List.getElem?_cons_zero, List.getElem?_cons_succ, Ans.bind, Rv.fz, isL, htop, if_true, aCons, aNil, dCB, dBin, dLst, lstR, dats, Wv.dat, List.length_cons, List.length_nil, Nat.zero_add, hz0, opR, Wv.rd, addF, List.length_map, hz1, cbR, one, Wv.rdK, Option.bind, sortF, hso, hsd, tupleF, mtR, appF]
    rw [if_pos (by simpa using hmem)]
    have := hset c3 (sortI (rest f out ++ [into]))
    unfold tI at this ⊢
    simp only [Ans.go]
    rw [this]
end Lw

set_option Elab.async false
set_option linter.all false
set_option maxRecDepth 100000
set_option maxHeartbeats 2000000
namespace Lw
open PySem PySem.Spec PyProof.Rows L2 Lf Pu
theorem E_law_stack {M : Mem} {l : Nat} {c b most : Int} (hl : l < M.length) (hm : 0 < most ∧ most ≤ 50) : ∃ (n k : Int) (fs : List (List Int)) (c' : Int), Stk n k fs ∧ F_law_stack [.r l, .d (.int most)] (M.set l (pen c b)) = .val (.w (.d (stkD n k fs))) (M.set l (pen c' b)) := by
  obtain ⟨way, c1, _, _, hd1⟩ := draw_m (c := c) (b := b) (n := 7) hl (by omega) (by omega)
  obtain ⟨a2, c2, h20, h21, hd2⟩ := draw_m (c := c1) (b := b) (n := 8) hl (by omega) (by omega)
  obtain ⟨n, hn, hat2⟩ := at_nums (fs := [5, 4, 6, 3, 7, 8, 2, 1]) h20 h21
  obtain ⟨a3, c3, h30, h31, hd3⟩ := draw_m (c := c2) (b := b) (n := 7) hl (by omega) (by omega)
  obtain ⟨k0, hk0, hat3⟩ := at_nums (fs := [2, 3, 1, 4, 3, 2, 0]) h30 h31
  have hn' : 1 ≤ n ∧ n ≤ 8 := by simp at hn; omega
  have hk0' : 0 ≤ k0 ∧ k0 ≤ 4 := by simp at hk0; omega
  simp only [List.map] at hat2 hat3
  generalize hkk : (if k0 < n then k0 else n) = k
  have hk : 0 ≤ k ∧ k ≤ n ∧ k ≤ 4 := by split at hkk <;> omega
  have hE := E_law_all (n := n) (k := k) (M := M.set l (pen c3 b)) (by omega) hk.1
  have hal := allL_le (n := n) (m := k) (by omega) (by omega)
  have hane : 0 < (allL n k).length := List.length_pos_iff.mpr (allL_ne hk.1 hk.2.1)
  obtain ⟨a4, c4, h40, h41, hd4⟩ := draw_m (c := c3) (b := b) (n := (allL n k).length) hl (by omega) (by omega)
  obtain ⟨f0, hf0, hat4⟩ := at_tups h40 h41
  obtain ⟨t, c5, h50, h51, hd5⟩ := draw_pm (c := c4) (b := b) (acc := [f0].map tI) (n := most) hl hm.1 (by omega)
  have hz8 : 8 ≤ sizeLine := by decide
  have hz7 : 7 ≤ sizeLine := by decide
  have hz1 : 1 ≤ sizeLine := by decide
  have hz3 : 3 ≤ sizeLine := by decide
  have hs : ∀ d x r e M1, rgI t = d ++ x :: r → (∃ (c : Int) (fs : List (List Int)) (v7 v8 v9 v10 v11 v12 v13 : Option Wv), e = [some (.r l), some (.d (.int most)), some (.d (.int way)), some (.d (.int n)), some (.d (.int k)), some (.d (.list ((allL n k).map tI))), some (.r M.length), v7, v8, v9, v10, v11, v12, v13] ∧ M1 = pm M l c b (fs.map tI) ∧ fs ≠ [] ∧ fs.length ≤ 1 + d.length ∧ ∀ f ∈ fs, Face n k f) →
      (fun _ : Mem => true) M1 = true ∧ ∃ e1, tgN 7 (.int x) e = some e1 ∧ ∃ e2 M2, sSeq (sAsg 8 false (dIx (dVar 6) (dCall F_law_draw (aCons (dVar 0) (aCons (dCB (one lenF) (aCons (dVar 6) aNil)) aNil)))))
      (sIf (tOrD (tst (dBin eqF (dVar 2) (dC (.int 0)))) (tOrD (tst (dBin eqF (dVar 4) (dC (.int 0)))) (tst (dBin eqF (dVar 4) (dVar 3))))) (sDrop (dMt appF (dVar 6) (aCons (dIx (dVar 5) (dCall F_law_draw (aCons (dVar 0) (aCons (dCB (one lenF) (aCons (dVar 5) aNil)) aNil)))) aNil))) (sSeq (sAsg 9 false (dIx (dVar 8) (dCall F_law_draw (aCons (dVar 0) (aCons (dVar 4) aNil)))))
      (sSeq (sAsg 10 false (dLc (iRange (dVar 3)) [13] (tgN 13) (tst (dBin (inF true) (dVar 13) (dVar 8))) (dVar 13)))
      (sSeq (sAsg 11 false (dIx (dVar 10) (dCall F_law_draw (aCons (dVar 0) (aCons (dBin subF (dVar 3) (dVar 4)) aNil)))))
      (sSeq (sAsg 12 false (dLc (iSeq (dVar 8)) [13] (tgN 13) (tst (dBin neF (dVar 13) (dVar 9))) (dVar 13)))
      (sDrop (dMt appF (dVar 6) (aCons (dCB (one tupleF) (aCons (dCB (one sortF) (aCons (dBin addF (dVar 12) (dLst (aCons (dVar 11) aNil))) aNil)) aNil)) aNil)))))))) e1 M1 = .next e2 M2 ∧
        ∃ (c : Int) (fs : List (List Int)) (v7 v8 v9 v10 v11 v12 v13 : Option Wv), e2 = [some (.r l), some (.d (.int most)), some (.d (.int way)), some (.d (.int n)), some (.d (.int k)), some (.d (.list ((allL n k).map tI))), some (.r M.length), v7, v8, v9, v10, v11, v12, v13] ∧ M2 = pm M l c b (fs.map tI) ∧ fs ≠ [] ∧ fs.length ≤ 1 + (d ++ [x]).length ∧ ∀ f ∈ fs, Face n k f := by
    rintro d x r e M1 hd ⟨c, fs, v7, v8, v9, v10, v11, v12, v13, rfl, rfl, hne, hlen, hf⟩
    have hdl : d.length < (rgI t).length := by rw [hd]; simp
    rw [length_rgI] at hdl
    obtain ⟨c', f', w8, w9, w10, w11, w12, w13, F', h⟩ := stack_turn (M := M) (l := l) (c := c) (b := b) (way := way) (n := n) (k := k) (most := most) (x := x) (fs := fs) (v8 := v8) (v9 := v9) (v10 := v10) (v11 := v11) (v12 := v12) (v13 := v13) hl hn' hk hne (by omega) hf
    refine ⟨rfl, _, rfl, _, _, h, c', fs ++ [f'], some (.d (.int x)), w8, w9, w10, w11, w12, w13, rfl, rfl, by simp, by simp; omega, fun f hfm => ?_⟩
    rcases List.mem_append.mp hfm with z | z
    · exact hf f z
    · have : f = f' := by simpa using z
      rw [this]; exact F'
  obtain ⟨e', M', h1, c6, fs, v7, v8, v9, v10, v11, v12, v13, rfl, rfl, hne, hlen, hf⟩ := for_map PyData.int (rgI t) _ (it := iRange (dCall F_law_draw (aCons (dVar 0) (aCons (dVar 1) aNil)))) (tg := tgN 7)
    (e := [some (.r l), some (.d (.int most)), some (.d (.int way)), some (.d (.int n)), some (.d (.int k)), some (.d (.list ((allL n k).map tI))), some (.r M.length), none, none, none, none, none, none, none]) (M := pm M l c5 b ([f0].map tI)) (M0 := pm M l c4 b ([f0].map tI)) (chk := fun _ => true)
    (range_eval (by simp only [dCall, aCons, dVar, aNil, List.getElem?_cons_zero, List.getElem?_cons_succ, Ans.bind, Rv.fz, hd5]) (by omega)) ⟨c5, [f0], none, none, none, none, none, none, none, rfl, rfl, by simp, by simp, fun f hfm => by
      have : f = f0 := by simpa using hfm
      rw [this]; exact (mem_allL hk.1).mp hf0⟩ hs (fun _ _ _ => rfl)
  rw [length_rgI] at hlen
  have hE6 := E_law_all (n := k + 1) (k := k) (M := pm M l c6 b (fs.map tI)) (by omega) hk.1
  have fin : ∀ (gs : List (List Int)), gs ≠ [] → gs.length ≤ 60 → (∀ f ∈ gs, Face n k f) → Stk n k (sortT (dd gs)) ∧ setF (.list (gs.map tI)) = some (.own (.list ((sortT (dd gs)).map tI))) := by
    intro gs h1 h2 h3
    refine ⟨stk_of hn'.1 hn'.2 hk.1 hk.2.1 hk.2.2 h1 (by omega) h3, ?_⟩
    show (match tupsD (gs.map tI) with
      | some l => if l.length < 64 ∧ ((dd l).length ≤ 1 ∨ (l.all fun x => !x.isEmpty) = true) then some (Rv.own (.list ((sortT (dd l)).map tI))) else none
      | none => none) = _
    rw [tupsD_map]
    simp only []
    rw [if_pos ⟨by omega, faces_dd hk.1 h3⟩]
  have pre : ∀ a, a = B_law_stack ([Wv.r l, .d (.int most)].map some ++ List.replicate (14 - 2) none) (M.set l (pen c b)) → a = (sSeq (sIf (tAndD (tst (dBin eqF (dVar 2) (dC (.int 6)))) (tAndD (tst (dBin ltF (dVar 4) (dVar 3))) (tst (dBin ltF (dVar 4) (dVar 1))))) (sAsg 6 true (dCall F_law_all (aCons (dBin addF (dVar 4) (dC (.int 1))) (aCons (dVar 4) aNil)))) sNext)
      (sRet (dTup (aCons (dVar 3) (aCons (dVar 4) (aCons (dCB (one tupleF) (aCons (dCB (one setF) (aCons (dVar 6) aNil)) aNil)) aNil)))))) [some (.r l), some (.d (.int most)), some (.d (.int way)), some (.d (.int n)), some (.d (.int k)), some (.d (.list ((allL n k).map tI))), some (.r M.length), v7, v8, v9, v10, v11, v12, v13] (pm M l c6 b (fs.map tI)) := by
    rintro _ rfl
    unfold B_law_stack
    rw [seq_next (e' := [some (.r l), some (.d (.int most)), some (.d (.int way)), none, none, none, none, none, none, none, none, none, none, none]) (M' := M.set l (pen c1 b)) (by simp [hd1]),
      seq_next (e' := [some (.r l), some (.d (.int most)), some (.d (.int way)), some (.d (.int n)), none, none, none, none, none, none, none, none, none, none]) (M' := M.set l (pen c2 b)) (by simp [lstR, hz8, hd2, hat2]),
      seq_next (e' := [some (.r l), some (.d (.int most)), some (.d (.int way)), some (.d (.int n)), some (.d (.int k)), none, none, none, none, none, none, none, none, none]) (M' := M.set l (pen c3 b)) (by simp [lstR, hz7, hd3, hat3, hkk]),
      seq_next (e' := [some (.r l), some (.d (.int most)), some (.d (.int way)), some (.d (.int n)), some (.d (.int k)), some (.d (.list ((allL n k).map tI))), none, none, none, none, none, none, none, none]) (M' := M.set l (pen c3 b)) (by simp [hE]),
      seq_next (e' := [some (.r l), some (.d (.int most)), some (.d (.int way)), some (.d (.int n)), some (.d (.int k)), some (.d (.list ((allL n k).map tI))), some (.r M.length), none, none, none, none, none, none, none]) (M' := pm M l c4 b ([f0].map tI)) (by simp [lstR, hz1, hd4, hat4, pm]),
      seq_next h1]
  by_cases hcond : way = 6 ∧ k < n ∧ k < most
  · obtain ⟨S, hset⟩ := fin (allL (k + 1) k) (allL_ne hk.1 (by omega)) (by
      have h5 : ∀ j ∈ [(0 : Int), 1, 2, 3, 4], (picked (rgI (j + 1)) j).length ≤ 60 := by decide +kernel
      have : k = 0 ∨ k = 1 ∨ k = 2 ∨ k = 3 ∨ k = 4 := by omega
      unfold allL
      rw [(sortT_perm _).length_eq]
      exact h5 k (by simpa using this)) (fun f hfm => by
        have F := (mem_allL hk.1).mp hfm
        exact ⟨F.up, fun a ha => by have := F.inn a ha; omega, F.len⟩)
    refine ⟨n, k, sortT (dd (allL (k + 1) k)), c6, S, fn_eval rfl ?_⟩
    rw [pre _ rfl]
    obtain ⟨hw, hkn, hkm⟩ := hcond
    rw [seq_next (e' := [some (.r l), some (.d (.int most)), some (.d (.int way)), some (.d (.int n)), some (.d (.int k)), some (.d (.list ((allL n k).map tI))), some (.r (pm M l c6 b (fs.map tI)).length), v7, v8, v9, v10, v11, v12, v13]) (M' := pm M l c6 b (fs.map tI) ++ [.list ((allL (k + 1) k).map tI)]) (by simp [hw, hkn, hkm, hE6])]
    have htop : (pm M l c6 b (fs.map tI) ++ [PyData.list ((allL (k + 1) k).map tI)])[(pm M l c6 b (fs.map tI)).length]? = some (.list ((allL (k + 1) k).map tI)) := by simp
    have hcut : (pm M l c6 b (fs.map tI) ++ [PyData.list ((allL (k + 1) k).map tI)]).take (M.set l (pen c b)).length = M.set l (pen c6 b) := by
      rw [List.length_set, List.take_append_of_le_length (by unfold pm; simp), pm_cut]
    simp only [sRet, dTup, aCons, aNil, dVar, List.getElem?_cons_zero, List.getElem?_cons_succ, Ans.bind, Rv.fz, dCB, cbR, one, Wv.rdK, htop, Option.bind, hset, tupleF, tupR, dats, Wv.dat, List.length_cons, List.length_nil, Nat.zero_add, hz3, if_true, Ans.go, endR, retR, hcut]
    rfl
  · obtain ⟨S, hset⟩ := fin fs hne (by omega) hf
    refine ⟨n, k, sortT (dd fs), c6, S, fn_eval rfl ?_⟩
    rw [pre _ rfl]
    rw [seq_next (e' := [some (.r l), some (.d (.int most)), some (.d (.int way)), some (.d (.int n)), some (.d (.int k)), some (.d (.list ((allL n k).map tI))), some (.r M.length), v7, v8, v9, v10, v11, v12, v13]) (M' := pm M l c6 b (fs.map tI)) (by
      by_cases h1 : way = 6
      · by_cases h2 : k < n
        · have h3 : ¬ k < most := fun z => hcond ⟨h1, h2, z⟩
          simp [h1, h2, h3]
        · simp [h1, h2]
      · simp [h1])]
    have htop := pm_top (M := M) (l := l) (c := c6) (b := b) (acc := fs.map tI)
    have hcut : (pm M l c6 b (fs.map tI)).take (M.set l (pen c b)).length = M.set l (pen c6 b) := by rw [List.length_set, pm_cut]
    simp only [sRet, dTup, aCons, aNil, dVar, List.getElem?_cons_zero, List.getElem?_cons_succ, Ans.bind, Rv.fz, dCB, cbR, one, Wv.rdK, htop, Option.bind, hset, tupleF, tupR, dats, Wv.dat, List.length_cons, List.length_nil, Nat.zero_add, hz3, if_true, Ans.go, endR, retR, hcut]
    rfl
end Lw

set_option Elab.async false
set_option linter.all false
set_option maxRecDepth 100000
set_option maxHeartbeats 4000000
namespace Lw
open PySem PySem.Spec PyProof.Rows L2 Lf Pu
theorem rg0 : rgI 0 = [] := by decide +kernel
theorem rg1 : rgI 1 = [0] := by decide +kernel
theorem rg2 : rgI 2 = [0, 1] := by decide +kernel
theorem rg3 : rgI 3 = [0, 1, 2] := by decide +kernel
theorem rg4 : rgI 4 = [0, 1, 2, 3] := by decide +kernel
theorem rg5 : rgI 5 = [0, 1, 2, 3, 4] := by decide +kernel
theorem pk00 : picksP 0 0 = 1 := by decide +kernel
theorem pk10 : picksP 1 0 = 1 := by decide +kernel
theorem pk11 : picksP 1 1 = 1 := by decide +kernel
theorem pk20 : picksP 2 0 = 1 := by decide +kernel
theorem pk21 : picksP 2 1 = 2 := by decide +kernel
theorem pk22 : picksP 2 2 = 1 := by decide +kernel
theorem pk30 : picksP 3 0 = 1 := by decide +kernel
theorem pk31 : picksP 3 1 = 3 := by decide +kernel
theorem pk32 : picksP 3 2 = 3 := by decide +kernel
theorem pk33 : picksP 3 3 = 1 := by decide +kernel
theorem pk40 : picksP 4 0 = 1 := by decide +kernel
theorem pk41 : picksP 4 1 = 4 := by decide +kernel
theorem pk42 : picksP 4 2 = 6 := by decide +kernel
theorem pk43 : picksP 4 3 = 4 := by decide +kernel
theorem pk44 : picksP 4 4 = 1 := by decide +kernel
theorem told_eq {k : Int} (h0 : 0 ≤ k) (h4 : k ≤ 4) (c : Int → Int) : toldP k ((rgI (k + 1)).map c) = toldL k c := by
  have : k = 0 ∨ k = 1 ∨ k = 2 ∨ k = 3 ∨ k = 4 := by omega
  rcases this with rfl | rfl | rfl | rfl | rfl <;> simp [toldP, toldAt, toldL, toldStep, diffs, sgn, rg0, rg1, rg2, rg3, rg4, rg5, pk00, pk10, pk11, pk20, pk21, pk22, pk30, pk31, pk32, pk33, pk40, pk41, pk42, pk43, pk44] <;> omega
theorem told_len {k : Int} (h0 : 0 ≤ k) (c : Int → Int) : ((toldL k c).length : Int) = k + 1 := by
  unfold toldL
  rw [length_told, length_rgI]
  simp
  omega
theorem told_le {k : Int} (h0 : 0 ≤ k) (h4 : k ≤ 4) {c : Int → Int} (hc : ∀ m, 0 ≤ m → m ≤ 4 → 0 ≤ c m ∧ c m ≤ 70) : ∀ x ∈ toldL k c, -1000000 ≤ x ∧ x ≤ 1000000 := by
  have e0 := hc 0 (by omega) (by omega)
  have e1 := hc 1 (by omega) (by omega)
  have e2 := hc 2 (by omega) (by omega)
  have e3 := hc 3 (by omega) (by omega)
  have e4 := hc 4 (by omega) (by omega)
  have : k = 0 ∨ k = 1 ∨ k = 2 ∨ k = 3 ∨ k = 4 := by omega
  rcases this with rfl | rfl | rfl | rfl | rfl <;> simp [toldL, toldStep, diffs, rg0, rg1, rg2, rg3, rg4, rg5] <;> omega
theorem cf_told {k : Int} (h0 : 0 ≤ k) (h4 : k ≤ 4) (c : Int → Int) : cfP (toldL k c) = (rgI (k + 1)).map c := by
  have : k = 0 ∨ k = 1 ∨ k = 2 ∨ k = 3 ∨ k = 4 := by omega
  rcases this with rfl | rfl | rfl | rfl | rfl <;> simp [cfP, cfAt, toldL, toldStep, diffs, rg0, rg1, rg2, rg3, rg4, rg5, pk00, pk10, pk11, pk20, pk21, pk22, pk30, pk31, pk32, pk33, pk40, pk41, pk42, pk43, pk44] <;> omega
theorem cf_pow {row : List Int} (h1 : 1 ≤ row.length) (h5 : row.length ≤ 5) : cfP row = powP row := by
  match row, h1, h5 with
  | [a], _, _ => simp [cfP, cfAt, powP, powStep, addAt, someL, sums, rg0, rg1, rg2, rg3, rg4, rg5, pk00, pk10, pk11, pk20, pk21, pk22, pk30, pk31, pk32, pk33, pk40, pk41, pk42, pk43, pk44]
  | [a, b], _, _ => simp [cfP, cfAt, powP, powStep, addAt, someL, sums, rg0, rg1, rg2, rg3, rg4, rg5, pk00, pk10, pk11, pk20, pk21, pk22, pk30, pk31, pk32, pk33, pk40, pk41, pk42, pk43, pk44] <;> omega
  | [a, b, c], _, _ => simp [cfP, cfAt, powP, powStep, addAt, someL, sums, rg0, rg1, rg2, rg3, rg4, rg5, pk00, pk10, pk11, pk20, pk21, pk22, pk30, pk31, pk32, pk33, pk40, pk41, pk42, pk43, pk44] <;> omega
  | [a, b, c, d], _, _ => simp [cfP, cfAt, powP, powStep, addAt, someL, sums, rg0, rg1, rg2, rg3, rg4, rg5, pk00, pk10, pk11, pk20, pk21, pk22, pk30, pk31, pk32, pk33, pk40, pk41, pk42, pk43, pk44] <;> omega
  | [a, b, c, d, e], _, _ => simp [cfP, cfAt, powP, powStep, addAt, someL, sums, rg0, rg1, rg2, rg3, rg4, rg5, pk00, pk10, pk11, pk20, pk21, pk22, pk30, pk31, pk32, pk33, pk40, pk41, pk42, pk43, pk44] <;> omega
end Lw

set_option Elab.async false
set_option linter.all false
set_option maxRecDepth 100000
set_option maxHeartbeats 2000000
namespace Lw
open PySem PySem.Spec PyProof.Rows L2 Lf Pu
theorem row_ok {e : En} {M : Mem} {row : List Int} (he : e[1]? = some (some (.d (.tuple (row.map .int))))) (h1 : 1 ≤ row.length) (h5 : row.length ≤ 5) (hb : ∀ x ∈ row, -1000000 ≤ x ∧ x ≤ 1000000) :
    sIf (tNotD (tst (dCall (F_law_same 8) (aCons (dCall F_counts_from (aCons (dVar 1) aNil)) (aCons (dCall F_law_powers (aCons (dVar 1) aNil)) aNil))))) (sRet (dC (.bool false))) sNext e M = .next e M := by
  have g1 := E_counts_from (M := M) h1 h5 hb
  have g2 := E_law_powers (row := row) (M := M) (by omega)
  have hl : (powP row).length ≤ sizeLine := by
    unfold powP
    rw [length_pow, List.length_replicate, sizeLine]
    omega
  have g3 := E_same_tup 6 (powP row) M hl
  rw [cf_pow h1 h5] at g1
  simp only [sIf, tNotD, tst, dCall, aCons, dVar, he, Ans.bind, aNil, Rv.fz, g1, g2, g3, asB, vB, Bool.not_true, Ans.go, Bool.false_eq_true, if_false, sNext]
theorem cut_map {A B : Type} (f : A → B) (l : List A) (lo hi : Option Int) : Lf.cutD (l.map f) lo hi = (Lf.cutD l lo hi).map f := by
  unfold Lf.cutD
  rw [List.length_map, List.map_take, List.map_drop]
theorem cut_len {A : Type} (l : List A) (lo hi : Option Int) : (Lf.cutD l lo hi).length ≤ l.length := by
  unfold Lf.cutD
  rw [List.length_take, List.length_drop]
  omega
theorem E_law {ns : List Int} (hns : ns.length ≤ 63) : ∃ M, F_law [.k (ns.map .int)] [] = .val (.w (.d (.bool true))) M := by
  obtain ⟨c0, hcell⟩ := E_law_cell ns []
  -- the first loop
  have hs1 : ∀ d x r e M1, [[1], [1, 0], [0, 1000000, -1000000], [1, 4, 6, 4, 1]] = d ++ x :: r → (∃ v1, e = [some (.k (ns.map .int)), v1, none, none, none, none, none] ∧ M1 = ([] : Mem)) →
      (fun _ : Mem => true) M1 = true ∧ ∃ e1, tgN 1 (tI x) e = some e1 ∧ ∃ e2 M2, sIf (tNotD (tst (dCall (F_law_same 8) (aCons (dCall F_counts_from (aCons (dVar 1) aNil)) (aCons (dCall F_law_powers (aCons (dVar 1) aNil)) aNil))))) (sRet (dC (.bool false))) sNext e1 M1 = .next e2 M2 ∧
        ∃ v1, e2 = [some (.k (ns.map .int)), v1, none, none, none, none, none] ∧ M2 = ([] : Mem) := by
    rintro d x r e M1 hd ⟨v1, rfl, rfl⟩
    have hx : x ∈ [[1], [1, 0], [0, 1000000, -1000000], [1, 4, 6, 4, 1]] := by rw [hd]; simp
    have hx2 : 1 ≤ x.length ∧ x.length ≤ 5 ∧ ∀ y ∈ x, -1000000 ≤ y ∧ y ≤ 1000000 := by
      simp only [List.mem_cons, List.not_mem_nil, or_false] at hx
      rcases hx with rfl | rfl | rfl | rfl <;> simp
    refine ⟨rfl, _, rfl, _, _, row_ok (row := x) rfl hx2.1 hx2.2.1 hx2.2.2, _, rfl, rfl⟩
  have hp6 : (10 : Int) ^ (Int.toNat 6) = 1000000 := by decide
  have hit1 : iSeq (dLst (aCons (dTup (aCons (dC (.int 1)) aNil)) (aCons (dTup (aCons (dC (.int 1)) (aCons (dC (.int 0)) aNil))) (aCons (dTup (aCons (dC (.int 0)) (aCons (dBin powF (dC (.int 10)) (dC (.int 6))) (aCons (dNeg (dBin powF (dC (.int 10)) (dC (.int 6)))) aNil)))) (aCons (dTup (aCons (dC (.int 1)) (aCons (dC (.int 4)) (aCons (dC (.int 6)) (aCons (dC (.int 4)) (aCons (dC (.int 1)) aNil)))))) aNil)))))
      [some (.k (ns.map .int)), none, none, none, none, none, none] ([] : Mem) = .val (([[1], [1, 0], [0, 1000000, -1000000], [1, 4, 6, 4, 1]] : List (List Int)).map tI, fun _ => true) ([] : Mem) := by
    have z1 : 1 ≤ sizeLine := by decide
    have z2 : 2 ≤ sizeLine := by decide
    have z3 : 3 ≤ sizeLine := by decide
    have z4 : 4 ≤ sizeLine := by decide
    have z5 : 5 ≤ sizeLine := by decide
    simp [lstR, tupR, hp6, z1, z2, z3, z4, z5, tI]
  obtain ⟨e', M', h1, v1, rfl, rfl⟩ := for_map tI [[1], [1, 0], [0, 1000000, -1000000], [1, 4, 6, 4, 1]] (fun _ e M1 => ∃ v1, e = [some (.k (ns.map .int)), v1, none, none, none, none, none] ∧ M1 = ([] : Mem)) hit1 ⟨none, rfl, rfl⟩ hs1 (fun _ _ _ => rfl)
  -- the second loop
  have hs2 : ∀ d x r e (M1 : Mem), (c0 :: Lf.cutD ns (some 1) (some 8)) = d ++ x :: r → (∃ v1 v2 v3 v4 v5 v6, e = [some (.k (ns.map .int)), v1, v2, v3, v4, v5, v6]) →
      (fun _ : Mem => true) M1 = true ∧ ∃ e1, tgN 2 (.int x) e = some e1 ∧ ∃ e2 M2, (sSeq (sAsg 3 true (dCall F_law_pen (aCons (dVar 2) aNil)))
        (sSeq (sAsg 4 false (dCall F_law_stack (aCons (dVar 3) (aCons (dC (.int 16)) aNil))))
        (sSeq (sAsg 5 false (dCall F_told (aCons (dVar 4) aNil)))
        (sSeq (sIf (tNotD (tst (dCall (F_law_same 8) (aCons (dVar 5) (aCons (dCall F_law_told (aCons (dVar 4) aNil)) aNil))))) (sRet (dC (.bool false))) sNext)
        (sSeq (sIf (tNotD (tst (dCall (F_law_same 8) (aCons (dCall F_counts_from (aCons (dVar 5) aNil)) (aCons (dCall F_counts (aCons (dVar 4) aNil)) aNil))))) (sRet (dC (.bool false))) sNext)
        (sFor (iRange (dC (.int 3))) (tgN 6) (sSeq (sAsg 1 false (dCall F_law_numbers_of (aCons (dVar 3) aNil)))
        (sIf (tNotD (tst (dCall (F_law_same 8) (aCons (dCall F_counts_from (aCons (dVar 1) aNil)) (aCons (dCall F_law_powers (aCons (dVar 1) aNil)) aNil))))) (sRet (dC (.bool false))) sNext)))))))) e1 M1 = .next e2 M2 ∧
        ∃ v1 v2 v3 v4 v5 v6, e2 = [some (.k (ns.map .int)), v1, v2, v3, v4, v5, v6] := by
    rintro d x r e M1 hd ⟨v1, v2, v3, v4, v5, v6, rfl⟩
    obtain ⟨b, hpen⟩ := E_law_pen x M1
    obtain ⟨My, hMyd⟩ : ∃ My, My = M1 ++ [pen x b] := ⟨_, rfl⟩
    have hMy : My.set M1.length (pen x b) = My := by rw [hMyd]; simp
    have hll : M1.length < My.length := by rw [hMyd]; simp
    obtain ⟨n, k, fs, c1, S, hstk⟩ := E_law_stack (M := My) (l := M1.length) (c := x) (b := b) (most := 16) hll (by omega)
    rw [hMy] at hstk
    have hk0 := S.k0
    have hk4 := S.k4
    have hcn : cnts k fs = (rgI (k + 1)).map (cnt fs) := rfl
    have htold := E_told (M := My.set M1.length (pen c1 b)) S
    rw [hcn, told_eq hk0 hk4] at htold
    have hlt := E_law_told (M := My.set M1.length (pen c1 b)) S
    have htl := told_len hk0 (cnt fs)
    have hz : (toldL k (cnt fs)).length ≤ sizeLine := by rw [sizeLine]; omega
    have hsame := E_same_tup 6 (toldL k (cnt fs)) (My.set M1.length (pen c1 b)) hz
    have hbd := told_le hk0 hk4 (c := cnt fs) fun m h0 h4 => cnt_le S h0 (by omega)
    have hcf := E_counts_from (row := toldL k (cnt fs)) (M := My.set M1.length (pen c1 b)) (by omega) (by omega) hbd
    rw [cf_told hk0 hk4] at hcf
    have hcnt := E_counts (M := My.set M1.length (pen c1 b)) S
    rw [hcn] at hcnt
    have hsame2 := E_same_tup 6 ((rgI (k + 1)).map (cnt fs)) (My.set M1.length (pen c1 b)) (by rw [List.length_map, length_rgI, sizeLine]; omega)
    -- the inner loop
    have hs3 : ∀ d y r e (M2 : Mem), rgI 3 = d ++ y :: r → (∃ (c : Int) (v1 v6 : Option Wv), e = [some (.k (ns.map .int)), v1, some (.d (.int x)), some (.r M1.length), some (.d (stkD n k fs)), some (.d (.tuple ((toldL k (cnt fs)).map .int))), v6] ∧ M2 = My.set M1.length (pen c b)) →
        (fun _ : Mem => true) M2 = true ∧ ∃ e1, tgN 6 (.int y) e = some e1 ∧ ∃ e2 M3, (sSeq (sAsg 1 false (dCall F_law_numbers_of (aCons (dVar 3) aNil)))
          (sIf (tNotD (tst (dCall (F_law_same 8) (aCons (dCall F_counts_from (aCons (dVar 1) aNil)) (aCons (dCall F_law_powers (aCons (dVar 1) aNil)) aNil))))) (sRet (dC (.bool false))) sNext)) e1 M2 = .next e2 M3 ∧
          ∃ (c : Int) (v1 v6 : Option Wv), e2 = [some (.k (ns.map .int)), v1, some (.d (.int x)), some (.r M1.length), some (.d (stkD n k fs)), some (.d (.tuple ((toldL k (cnt fs)).map .int))), v6] ∧ M3 = My.set M1.length (pen c b) := by
      rintro d y r e M2 hd ⟨c, v1, v6, rfl, rfl⟩
      obtain ⟨row, c', hr1, hr5, hrb, hnum⟩ := E_law_numbers_of (M := My) (l := M1.length) (c := c) (b := b) hll
      refine ⟨rfl, _, rfl, [some (.k (ns.map .int)), some (.d (.tuple (row.map .int))), some (.d (.int x)), some (.r M1.length), some (.d (stkD n k fs)), some (.d (.tuple ((toldL k (cnt fs)).map .int))), some (.d (.int y))], My.set M1.length (pen c' b), ?_, c', _, _, rfl, rfl⟩
      rw [seq_next (e' := [some (.k (ns.map .int)), some (.d (.tuple (row.map .int))), some (.d (.int x)), some (.r M1.length), some (.d (stkD n k fs)), some (.d (.tuple ((toldL k (cnt fs)).map .int))), some (.d (.int y))]) (M' := My.set M1.length (pen c' b)) (by simp [hnum])]
      exact row_ok rfl hr1 hr5 hrb
    obtain ⟨e3, M3, h3, c3, w1, w6, rfl, rfl⟩ := for_map PyData.int (rgI 3) _ (it := iRange (dC (.int 3))) (tg := tgN 6) (e := [some (.k (ns.map .int)), v1, some (.d (.int x)), some (.r M1.length), some (.d (stkD n k fs)), some (.d (.tuple ((toldL k (cnt fs)).map .int))), v6]) (M := My.set M1.length (pen c1 b)) (M0 := My.set M1.length (pen c1 b)) (chk := fun _ => true)
      (range_eval (by simp) (by omega)) ⟨c1, v1, v6, rfl, rfl⟩ hs3 (fun _ _ _ => rfl)
    refine ⟨rfl, [some (.k (ns.map .int)), v1, some (.d (.int x)), v3, v4, v5, v6], rfl, [some (.k (ns.map .int)), w1, some (.d (.int x)), some (.r M1.length), some (.d (stkD n k fs)), some (.d (.tuple ((toldL k (cnt fs)).map .int))), w6], My.set M1.length (pen c3 b), ?_, _, _, _, _, _, _, rfl⟩
    rw [seq_next (e' := [some (.k (ns.map .int)), v1, some (.d (.int x)), some (.r M1.length), v4, v5, v6]) (M' := My) (by simp [hpen, hMyd]),
      seq_next (e' := [some (.k (ns.map .int)), v1, some (.d (.int x)), some (.r M1.length), some (.d (stkD n k fs)), v5, v6]) (M' := My.set M1.length (pen c1 b)) (by simp [hstk]),
      seq_next (e' := [some (.k (ns.map .int)), v1, some (.d (.int x)), some (.r M1.length), some (.d (stkD n k fs)), some (.d (.tuple ((toldL k (cnt fs)).map .int))), v6]) (M' := My.set M1.length (pen c1 b)) (by simp [htold]),
      seq_next (e' := [some (.k (ns.map .int)), v1, some (.d (.int x)), some (.r M1.length), some (.d (stkD n k fs)), some (.d (.tuple ((toldL k (cnt fs)).map .int))), v6]) (M' := My.set M1.length (pen c1 b)) (by
        simp only [sIf, tNotD, tst, dCall, aCons, dVar, List.getElem?_cons_zero, List.getElem?_cons_succ, Ans.bind, aNil, Rv.fz, hlt, hsame, asB, vB, Bool.not_true, Ans.go, Bool.false_eq_true, if_false, sNext]),
      seq_next (e' := [some (.k (ns.map .int)), v1, some (.d (.int x)), some (.r M1.length), some (.d (stkD n k fs)), some (.d (.tuple ((toldL k (cnt fs)).map .int))), v6]) (M' := My.set M1.length (pen c1 b)) (by
        simp only [sIf, tNotD, tst, dCall, aCons, dVar, List.getElem?_cons_zero, List.getElem?_cons_succ, Ans.bind, aNil, Rv.fz, hcf, hcnt, hsame2, asB, vB, Bool.not_true, Ans.go, Bool.false_eq_true, if_false, sNext])]
    exact h3
  have hit2 : iSeq (dBin addF (dLst (aCons (dCall F_law_cell (aCons (dVar 0) (aCons (dC (.int 0)) aNil))) aNil)) (dSl (dVar 0) (pYes (dC (.int 1))) (pYes (dC (.int 8))))) [some (.k (ns.map .int)), v1, none, none, none, none, none] ([] : Mem) = .val ((c0 :: Lf.cutD ns (some 1) (some 8)).map .int, fun _ => true) ([] : Mem) := by
    have z1 : 1 ≤ sizeLine := by decide
    have hcl := cut_len ns (some 1) (some 8)
    have z2 : 1 + (Lf.cutD ns (some 1) (some 8)).length ≤ sizeLine := by rw [sizeLine]; omega
    simp [lstR, z1, hcell, cut_map, z2]
  obtain ⟨e2, M2, h2, w1, w2, w3, w4, w5, w6, rfl⟩ := for_map PyData.int (c0 :: Lf.cutD ns (some 1) (some 8)) (fun _ e _ => ∃ v1 v2 v3 v4 v5 v6, e = [some (.k (ns.map .int)), v1, v2, v3, v4, v5, v6]) hit2 ⟨v1, none, none, none, none, none, rfl⟩ hs2 (fun _ _ _ => rfl)
  refine ⟨M2.take 0, fn_eval rfl ?_⟩
  unfold B_law
  rw [show ([Wv.k (ns.map .int)].map some ++ List.replicate (7 - 1) none : En) = [some (.k (ns.map .int)), none, none, none, none, none, none] from rfl, seq_next h1, seq_next h2]
  rfl
end Lw

set_option Elab.async false
set_option linter.all false
set_option maxRecDepth 100000
set_option maxHeartbeats 0
namespace Hd
open PySem PySem.Spec PyProof.Rows L2
def top (i : Nat) : Stmt := PySem.Challenge.pw_layfaces_k30_told_numbers_and_counts.main.body.getD i (.Pass ⟨0, 0, 0, 0⟩)
abbrev s_is_whole : Stmt := top 8
abbrev s_is_from : Stmt := top 9
abbrev s_are_rising : Stmt := top 10
abbrev s_are_faces : Stmt := top 11
abbrev s_is_stack : Stmt := top 12
abbrev s_must_stack : Stmt := top 13
abbrev s_picked : Stmt := top 14
abbrev s_all_parts : Stmt := top 15
abbrev s_counts_of : Stmt := top 16
abbrev s_counts : Stmt := top 17
abbrev s_picks : Stmt := top 21
abbrev s_sign_of : Stmt := top 22
abbrev s_told_of : Stmt := top 23
abbrev s_told : Stmt := top 24
abbrev s_counts_from : Stmt := top 25
abbrev s_law_same : Stmt := top 27
abbrev s_law_cell : Stmt := top 28
abbrev s_law_pen : Stmt := top 29
abbrev s_law_draw : Stmt := top 30
abbrev s_law_all : Stmt := top 31
abbrev s_law_stack : Stmt := top 32
abbrev s_law_within : Stmt := top 33
abbrev s_law_parts : Stmt := top 34
abbrev s_law_told : Stmt := top 35
abbrev s_law_powers : Stmt := top 36
abbrev s_law_numbers_of : Stmt := top 37
abbrev s_law : Stmt := top 38
def fn : List He.DefD := [⟨("is_whole", none), "is_whole", "is_whole", defArgs s_is_whole, defBody s_is_whole, defScope s_is_whole, [], []⟩, ⟨("is_from", none), "is_from", "is_from", defArgs s_is_from, defBody s_is_from, defScope s_is_from, [], []⟩, ⟨("are_rising", none), "are_rising", "are_rising", defArgs s_are_rising, defBody s_are_rising, defScope s_are_rising, [], []⟩, ⟨("are_faces", none), "are_faces", "are_faces", defArgs s_are_faces, defBody s_are_faces, defScope s_are_faces, [], []⟩, ⟨("is_stack", none), "is_stack", "is_stack", defArgs s_is_stack, defBody s_is_stack, defScope s_is_stack, [], []⟩, ⟨("must_stack", none), "must_stack", "must_stack", defArgs s_must_stack, defBody s_must_stack, defScope s_must_stack, [], []⟩, ⟨("picked", none), "picked", "picked", defArgs s_picked, defBody s_picked, defScope s_picked, [], []⟩, ⟨("all_parts", none), "all_parts", "all_parts", defArgs s_all_parts, defBody s_all_parts, defScope s_all_parts, [], []⟩, ⟨("counts_of", none), "counts_of", "counts_of", defArgs s_counts_of, defBody s_counts_of, defScope s_counts_of, [], []⟩, ⟨("counts", none), "counts", "counts", defArgs s_counts, defBody s_counts, defScope s_counts, [], []⟩, ⟨("picks", none), "picks", "picks", defArgs s_picks, defBody s_picks, defScope s_picks, [], []⟩, ⟨("sign_of", none), "sign_of", "sign_of", defArgs s_sign_of, defBody s_sign_of, defScope s_sign_of, [], []⟩, ⟨("told_of", none), "told_of", "told_of", defArgs s_told_of, defBody s_told_of, defScope s_told_of, [], []⟩, ⟨("told", none), "told", "told", defArgs s_told, defBody s_told, defScope s_told, [], []⟩, ⟨("counts_from", none), "counts_from", "counts_from", defArgs s_counts_from, defBody s_counts_from, defScope s_counts_from, [], []⟩, ⟨("_law_same", none), "_law_same", "_law_same", defArgs s_law_same, defBody s_law_same, defScope s_law_same, [], []⟩, ⟨("_law_cell", none), "_law_cell", "_law_cell", defArgs s_law_cell, defBody s_law_cell, defScope s_law_cell, [], []⟩, ⟨("_law_pen", none), "_law_pen", "_law_pen", defArgs s_law_pen, defBody s_law_pen, defScope s_law_pen, [], []⟩, ⟨("_law_draw", none), "_law_draw", "_law_draw", defArgs s_law_draw, defBody s_law_draw, defScope s_law_draw, [], []⟩, ⟨("_law_all", none), "_law_all", "_law_all", defArgs s_law_all, defBody s_law_all, defScope s_law_all, [], []⟩, ⟨("_law_stack", none), "_law_stack", "_law_stack", defArgs s_law_stack, defBody s_law_stack, defScope s_law_stack, [], []⟩, ⟨("_law_within", none), "_law_within", "_law_within", defArgs s_law_within, defBody s_law_within, defScope s_law_within, [], []⟩, ⟨("_law_parts", none), "_law_parts", "_law_parts", defArgs s_law_parts, defBody s_law_parts, defScope s_law_parts, [], []⟩, ⟨("_law_told", none), "_law_told", "_law_told", defArgs s_law_told, defBody s_law_told, defScope s_law_told, [], []⟩, ⟨("_law_powers", none), "_law_powers", "_law_powers", defArgs s_law_powers, defBody s_law_powers, defScope s_law_powers, [], []⟩, ⟨("_law_numbers_of", none), "_law_numbers_of", "_law_numbers_of", defArgs s_law_numbers_of, defBody s_law_numbers_of, defScope s_law_numbers_of, [], []⟩, ⟨("law", none), "law", "law", defArgs s_law, defBody s_law, defScope s_law, [], []⟩]
def fa : List He.Fa := [.glo "is_whole", .glo "is_from", .glo "are_rising", .glo "are_faces", .glo "is_stack", .glo "must_stack", .glo "picked", .glo "all_parts", .glo "counts_of", .glo "counts", .glo "picks", .glo "sign_of", .glo "told_of", .glo "told", .glo "counts_from", .glo "_law_same", .glo "_law_cell", .glo "_law_pen", .glo "_law_draw", .glo "_law_all", .glo "_law_stack", .glo "_law_within", .glo "_law_parts", .glo "_law_told", .glo "_law_powers", .glo "_law_numbers_of", .glo "law", .free "all", .free "bool", .free "enumerate", .free "int", .free "isinstance", .free "len", .free "list", .free "min", .free "range", .free "set", .free "sorted", .free "str", .free "sum", .free "tuple", .free "zip", .int "MOST_POINTS" 8, .int "MOST_TAKEN" 4, .int "MOST_FACES" 70, .int "MOST_TOLD" 1000000, .int "LONGEST" 5]
abbrev R : PySem.W.OpenRow := PySem.W.OpenLaw.row PySem.Challenge.rw_layfaces_k30_told_numbers_and_counts
abbrev hk : PySem.W.Hook := He.hookD 4 fa fn
def ob (s : PySem.W.SharedT) : He.AlD := He.obsDG 4 fa fn (HandSHeadRun.getT s)
theorem ob_eq (s : PySem.W.SharedT) : ob s = hk.obs s.abs := He.obsDG_eq (HandSHeadRun.getT_eq s)
def loose0 : List PySem.Str := ["LayError", "NoStack", "NoRow", "MOST_POINTS", "MOST_TAKEN", "MOST_FACES", "MOST_TOLD", "LONGEST", "is_whole", "is_from", "are_rising", "are_faces", "is_stack", "must_stack", "picked", "all_parts", "counts_of", "counts", "picks", "sign_of", "told_of", "told", "counts_from", "_law_same", "_law_cell", "_law_pen", "_law_draw", "_law_all", "_law_stack", "_law_within"]
def loose1 : List PySem.Str := ["_law_parts", "_law_told", "_law_powers", "_law_numbers_of"]
def loose : List PySem.Str := loose0 ++ loose1
theorem run (w : World) : HandSHeadRun.RunEq R (PySem.W.view R.prog [38]) hk ob 4000 loose w := by
  intro os
  kernel_rfl
end Hd

set_option Elab.async false
set_option linter.all false
set_option maxRecDepth 100000
set_option maxHeartbeats 0
/-! printed by gen.py: each def follows its denotation -/
namespace Lw
open PySem PySem.Spec PyProof.Rows L2 Lf Hd
/-- the globals -/
structure Gb (mg : Str → Option Value) : Prop where
  g_all : mg "all" = none
  g_bool : mg "bool" = none
  g_enumerate : mg "enumerate" = none
  g_int : mg "int" = none
  g_isinstance : mg "isinstance" = none
  g_len : mg "len" = none
  g_list : mg "list" = none
  g_min : mg "min" = none
  g_range : mg "range" = none
  g_set : mg "set" = none
  g_sorted : mg "sorted" = none
  g_str : mg "str" = none
  g_sum : mg "sum" = none
  g_tuple : mg "tuple" = none
  g_zip : mg "zip" = none
  i_MOST_POINTS : ∃ t, mg "MOST_POINTS" = some (.int 8 t)
  i_MOST_TAKEN : ∃ t, mg "MOST_TAKEN" = some (.int 4 t)
  i_MOST_FACES : ∃ t, mg "MOST_FACES" = some (.int 70 t)
  i_MOST_TOLD : ∃ t, mg "MOST_TOLD" = some (.int 1000000 t)
  i_LONGEST : ∃ t, mg "LONGEST" = some (.int 5 t)
section
variable {P : Program} {w : World} {K : PySem.W.Frag} {mg : Str → Option Value} {base : Heap}
theorem sc_is_whole : FnScope ["thing"] ["thing"] (defScope s_is_whole) := ⟨rfl, rfl, rfl, by decide +kernel, rfl, by decide +kernel, by decide +kernel⟩
theorem ok_is_whole {f : Addr} {fd : FuncData} (F : FunD K "is_whole" "is_whole" (defArgs s_is_whole) (defBody s_is_whole) (defScope s_is_whole) [] [] f fd) (hm : mg "is_whole" = some (.ref f)) (B : Gb mg)  : Cl P w K mg base 1 "is_whole" F_is_whole := by
  have S := sc_is_whole
  exact Cl.of (k := 0) (N := ["thing"]) (ps := ["thing"]) F S hm (fun _ _ _ _ _ _ us hl => match us, hl with | [_], _ => rfl) fun cdv A outer s H E hr =>
    (s_one (s_ret (d_and (d_isi (T := "int") (by decide) B.g_isinstance rfl B.g_int (by decide +kernel) (dv 0)) (d_one (d_not (d_isi (T := "bool") (by decide) B.g_isinstance rfl B.g_bool (by decide +kernel) (dv 0)))))))
theorem sc_is_from : FnScope ["thing", "low", "high"] ["thing", "low", "high"] (defScope s_is_from) := ⟨rfl, rfl, rfl, by decide +kernel, rfl, by decide +kernel, by decide +kernel⟩
theorem ok_is_from {f : Addr} {fd : FuncData} (F : FunD K "is_from" "is_from" (defArgs s_is_from) (defBody s_is_from) (defScope s_is_from) [] [] f fd) (hm : mg "is_from" = some (.ref f)) (B : Gb mg) (c_is_whole : Cl P w K mg base 1 "is_whole" F_is_whole) : Cl P w K mg base 2 "is_from" F_is_from := by
  have S := sc_is_from
  exact Cl.of (k := 1) (N := ["thing", "low", "high"]) (ps := ["thing", "low", "high"]) F S hm (fun _ _ _ _ _ _ us hl => match us, hl with | [_, _, _], _ => rfl) fun cdv A outer s H E hr =>
    (s_one (s_ret (d_and (d_call c_is_whole hr (by decide) (a_cons (dv 0) a_nil)) (d_one (d_chain op_le op_le od_le od_le (dv 1) (dv 0) (dv 2))))))
theorem sc_are_rising : FnScope ["many", "thing", "one", "other"] ["many", "thing"] (defScope s_are_rising) := ⟨rfl, rfl, rfl, by decide +kernel, rfl, by decide +kernel, by decide +kernel⟩
theorem ok_are_rising {f : Addr} {fd : FuncData} (F : FunD K "are_rising" "are_rising" (defArgs s_are_rising) (defBody s_are_rising) (defScope s_are_rising) [] [] f fd) (hm : mg "are_rising" = some (.ref f)) (B : Gb mg) (c_is_from : Cl P w K mg base 2 "is_from" F_is_from) : Cl P w K mg base 3 "are_rising" F_are_rising := by
  have S := sc_are_rising
  exact Cl.of (k := 2) (N := ["many", "thing", "one", "other"]) (ps := ["many", "thing"]) F S hm (fun _ _ _ _ _ _ us hl => match us, hl with | [_, _], _ => rfl) fun cdv A outer s H E hr =>
    (s_cons (s_if (PW.pt (w_or (t_not (t_val (d_isi (T := "tuple") (by decide) B.g_isinstance rfl B.g_tuple (by decide +kernel) (dv 1)))) (w_or1 (t_not (t_val (d_all rfl B.g_all (a_cons (d_lc rfl S.nd (own := [("one", 2)]) (blkOk_by (by kernel_rfl)) tg_name (by decide) (i_seq (dv 1)) (fun _ _ _ _ _ => (gn 2 S.nd)) (fun _ _ _ _ _ => ts_nil) (fun _ _ _ _ _ => (d_call c_is_from hr (by decide) (a_cons (dv 2) (a_cons d_int (a_cons (d_sub (dv 0) d_int) a_nil)))))) a_nil))))))) (s_one (s_ret d_bl)) s_nil)
    (s_one (s_ret (d_all rfl B.g_all (a_cons (d_lc rfl S.nd (own := [("one", 2), ("other", 3)]) (blkOk_by (by kernel_rfl)) (tg_tup (js := [2, 3]) rfl) (by decide) (i_zip B.g_zip (a_cons (dv 1) (a_cons (d_sl (dv 1) (p_yes d_int) p_no) a_nil))) (fun _ _ _ _ _ => (pg_tup rfl (pgs_cons (gn 2 S.nd) (pgs_cons (gn 3 S.nd) pgs_nil)))) (fun _ _ _ _ _ => ts_nil) (fun _ _ _ _ _ => (d_lt hr (dv 2) (dv 3)))) a_nil)))))
theorem sc_are_faces : FnScope ["n", "k", "thing", "face", "one", "other"] ["n", "k", "thing"] (defScope s_are_faces) := ⟨rfl, rfl, rfl, by decide +kernel, rfl, by decide +kernel, by decide +kernel⟩
theorem ok_are_faces {f : Addr} {fd : FuncData} (F : FunD K "are_faces" "are_faces" (defArgs s_are_faces) (defBody s_are_faces) (defScope s_are_faces) [] [] f fd) (hm : mg "are_faces" = some (.ref f)) (B : Gb mg) (c_are_rising : Cl P w K mg base 3 "are_rising" F_are_rising) : Cl P w K mg base 4 "are_faces" F_are_faces := by
  have S := sc_are_faces
  exact Cl.of (k := 3) (N := ["n", "k", "thing", "face", "one", "other"]) (ps := ["n", "k", "thing"]) F S hm (fun _ _ _ _ _ _ us hl => match us, hl with | [_, _, _], _ => rfl) fun cdv A outer s H E hr =>
    (s_cons (s_if (PW.pt (w_or (t_not (t_val (d_isi (T := "tuple") (by decide) B.g_isinstance rfl B.g_tuple (by decide +kernel) (dv 2)))) (w_or1 (t_not (t_chain op_le op_le od_le od_le d_int (d_len B.g_len (a_cons (dv 2) a_nil)) (d_gint rfl B.i_MOST_FACES)))))) (s_one (s_ret d_bl)) s_nil)
    (s_cons (s_if (t_not (t_val (d_all rfl B.g_all (a_cons (d_lc rfl S.nd (own := [("face", 3)]) (blkOk_by (by kernel_rfl)) tg_name (by decide) (i_seq (dv 2)) (fun _ _ _ _ _ => (gn 3 S.nd)) (fun _ _ _ _ _ => ts_nil) (fun _ _ _ _ _ => (d_and (d_call c_are_rising hr (by decide) (a_cons (dv 0) (a_cons (dv 3) a_nil))) (d_one (d_eq hr (d_len B.g_len (a_cons (dv 3) a_nil)) (dv 1)))))) a_nil)))) (s_one (s_ret d_bl)) s_nil)
    (s_one (s_ret (d_all rfl B.g_all (a_cons (d_lc rfl S.nd (own := [("one", 4), ("other", 5)]) (blkOk_by (by kernel_rfl)) (tg_tup (js := [4, 5]) rfl) (by decide) (i_zip B.g_zip (a_cons (dv 2) (a_cons (d_sl (dv 2) (p_yes d_int) p_no) a_nil))) (fun _ _ _ _ _ => (pg_tup rfl (pgs_cons (gn 4 S.nd) (pgs_cons (gn 5 S.nd) pgs_nil)))) (fun _ _ _ _ _ => ts_nil) (fun _ _ _ _ _ => (d_lt hr (dv 4) (dv 5)))) a_nil))))))
theorem sc_is_stack : FnScope ["thing", "n", "k", "faces"] ["thing"] (defScope s_is_stack) := ⟨rfl, rfl, rfl, by decide +kernel, rfl, by decide +kernel, by decide +kernel⟩
theorem ok_is_stack {f : Addr} {fd : FuncData} (F : FunD K "is_stack" "is_stack" (defArgs s_is_stack) (defBody s_is_stack) (defScope s_is_stack) [] [] f fd) (hm : mg "is_stack" = some (.ref f)) (B : Gb mg) (c_is_from : Cl P w K mg base 2 "is_from" F_is_from) (c_are_faces : Cl P w K mg base 4 "are_faces" F_are_faces) : Cl P w K mg base 5 "is_stack" F_is_stack := by
  have S := sc_is_stack
  exact Cl.of (k := 4) (N := ["thing", "n", "k", "faces"]) (ps := ["thing"]) F S hm (fun _ _ _ _ _ _ us hl => match us, hl with | [_], _ => rfl) fun cdv A outer s H E hr =>
    (s_cons (s_if (PW.pt (w_or (t_not (t_val (d_isi (T := "tuple") (by decide) B.g_isinstance rfl B.g_tuple (by decide +kernel) (dv 0)))) (w_or1 (t_ne hr (d_len B.g_len (a_cons (dv 0) a_nil)) d_int)))) (s_one (s_ret d_bl)) s_nil)
    (s_cons (s_asgT (tg_tup (js := [1, 2, 3]) rfl) (dv 0) (pg_tup rfl (pgs_cons (gn 1 S.nd) (pgs_cons (gn 2 S.nd) (pgs_cons (gn 3 S.nd) pgs_nil)))))
    (s_cons (s_if (PW.pt (w_or (t_not (t_val (d_call c_is_from hr (by decide) (a_cons (dv 1) (a_cons d_int (a_cons (d_gint rfl B.i_MOST_POINTS) a_nil)))))) (w_or1 (t_not (t_val (d_call c_is_from hr (by decide) (a_cons (dv 2) (a_cons d_int (a_cons (d_min2 rfl B.g_min (a_cons (dv 1) (a_cons (d_gint rfl B.i_MOST_TAKEN) a_nil))) a_nil))))))))) (s_one (s_ret d_bl)) s_nil)
    (s_one (s_ret (d_call c_are_faces hr (by decide) (a_cons (dv 1) (a_cons (dv 2) (a_cons (dv 3) a_nil)))))))))
theorem sc_must_stack : FnScope ["stack"] ["stack"] (defScope s_must_stack) := ⟨rfl, rfl, rfl, by decide +kernel, rfl, by decide +kernel, by decide +kernel⟩
theorem ok_must_stack {f : Addr} {fd : FuncData} (F : FunD K "must_stack" "must_stack" (defArgs s_must_stack) (defBody s_must_stack) (defScope s_must_stack) [] [] f fd) (hm : mg "must_stack" = some (.ref f)) (B : Gb mg) (c_is_stack : Cl P w K mg base 5 "is_stack" F_is_stack) : Cl P w K mg base 6 "must_stack" F_must_stack := by
  have S := sc_must_stack
  exact Cl.of (k := 5) (N := ["stack"]) (ps := ["stack"]) F S hm (fun _ _ _ _ _ _ us hl => match us, hl with | [_], _ => rfl) fun cdv A outer s H E hr =>
    (s_one (s_if (t_not (t_val (d_call c_is_stack hr (by decide) (a_cons (dv 0) a_nil)))) (s_one s_never) s_nil))
theorem sc_picked : FnScope ["row", "many", "found", "thing", "one"] ["row", "many"] (defScope s_picked) := ⟨rfl, rfl, rfl, by decide +kernel, rfl, by decide +kernel, by decide +kernel⟩
theorem ok_picked {f : Addr} {fd : FuncData} (F : FunD K "picked" "picked" (defArgs s_picked) (defBody s_picked) (defScope s_picked) [] [] f fd) (hm : mg "picked" = some (.ref f)) (B : Gb mg)  : Cl P w K mg base 1 "picked" F_picked := by
  have S := sc_picked
  exact Cl.of (k := 0) (N := ["row", "many", "found", "thing", "one"]) (ps := ["row", "many"]) F S hm (fun _ _ _ _ _ _ us hl => match us, hl with | [_, _], _ => rfl) fun cdv A outer s H E hr =>
    (s_cons (s_asg (j := 2) (al := false) S.nd rfl (by first | exact Or.inl rfl | exact Or.inr rfl) (d_lst (a_cons (d_tup a_nil) a_nil)))
    (s_cons (s_for PassesOwn.never rfl tg_name (i_seq (dv 0)) (gn 3 S.nd) (s_one (s_asg (j := 2) (al := false) S.nd rfl (by first | exact Or.inl rfl | exact Or.inr rfl) (d_add (dv 2) (d_lc rfl S.nd (own := [("one", 4)]) (blkOk_by (by kernel_rfl)) tg_name (by decide) (i_seq (dv 2)) (fun _ _ _ _ _ => (gn 4 S.nd)) (fun _ _ _ _ _ => (ts_one (t_lt hr (d_len B.g_len (a_cons (dv 4) a_nil)) (dv 1)))) (fun _ _ _ _ _ => (d_add (dv 4) (d_tup (a_cons (dv 3) a_nil)))))))))
    (s_one (s_ret (d_lc rfl S.nd (own := [("one", 4)]) (blkOk_by (by kernel_rfl)) tg_name (by decide) (i_seq (dv 2)) (fun _ _ _ _ _ => (gn 4 S.nd)) (fun _ _ _ _ _ => (ts_one (t_eq hr (d_len B.g_len (a_cons (dv 4) a_nil)) (dv 1)))) (fun _ _ _ _ _ => (dv 4)))))))
theorem sc_all_parts : FnScope ["stack", "many", "found", "face", "part"] ["stack", "many"] (defScope s_all_parts) := ⟨rfl, rfl, rfl, by decide +kernel, rfl, by decide +kernel, by decide +kernel⟩
theorem ok_all_parts {f : Addr} {fd : FuncData} (F : FunD K "all_parts" "all_parts" (defArgs s_all_parts) (defBody s_all_parts) (defScope s_all_parts) [] [] f fd) (hm : mg "all_parts" = some (.ref f)) (B : Gb mg) (c_picked : Cl P w K mg base 1 "picked" F_picked) : Cl P w K mg base 2 "all_parts" F_all_parts := by
  have S := sc_all_parts
  exact Cl.of (k := 1) (N := ["stack", "many", "found", "face", "part"]) (ps := ["stack", "many"]) F S hm (fun _ _ _ _ _ _ us hl => match us, hl with | [_, _], _ => rfl) fun cdv A outer s H E hr =>
    (s_cons (s_asg (j := 2) (al := true) S.nd rfl (by first | exact Or.inl rfl | exact Or.inr rfl) d_dict)
    (s_cons (s_for PassesOwn.never rfl tg_name (i_seq (d_ix (dv 0) d_int)) (gn 3 S.nd) (s_one (s_for PassesOwn.never rfl tg_name (i_seq (d_call c_picked hr (by decide) (a_cons (dv 3) (a_cons (dv 1) a_nil)))) (gn 4 S.nd) (s_one (s_set hr d_bl (dv 2) (dv 4))))))
    (s_one (s_ret (d_sorted rfl hr B.g_sorted (a_cons (dv 2) a_nil))))))
theorem sc_counts_of : FnScope ["stack", "many"] ["stack"] (defScope s_counts_of) := ⟨rfl, rfl, rfl, by decide +kernel, rfl, by decide +kernel, by decide +kernel⟩
theorem ok_counts_of {f : Addr} {fd : FuncData} (F : FunD K "counts_of" "counts_of" (defArgs s_counts_of) (defBody s_counts_of) (defScope s_counts_of) [] [] f fd) (hm : mg "counts_of" = some (.ref f)) (B : Gb mg) (c_all_parts : Cl P w K mg base 2 "all_parts" F_all_parts) : Cl P w K mg base 3 "counts_of" F_counts_of := by
  have S := sc_counts_of
  exact Cl.of (k := 2) (N := ["stack", "many"]) (ps := ["stack"]) F S hm (fun _ _ _ _ _ _ us hl => match us, hl with | [_], _ => rfl) fun cdv A outer s H E hr =>
    (s_one (s_ret (d_tuple B.g_tuple (a_cons (d_lc rfl S.nd (own := [("many", 1)]) (blkOk_by (by kernel_rfl)) tg_name (by decide) (i_range B.g_range (d_add (d_ix (dv 0) d_int) d_int)) (fun _ _ _ _ _ => (gn 1 S.nd)) (fun _ _ _ _ _ => ts_nil) (fun _ _ _ _ _ => (d_len B.g_len (a_cons (d_call c_all_parts hr (by decide) (a_cons (dv 0) (a_cons (dv 1) a_nil))) a_nil)))) a_nil))))
theorem sc_counts : FnScope ["stack"] ["stack"] (defScope s_counts) := ⟨rfl, rfl, rfl, by decide +kernel, rfl, by decide +kernel, by decide +kernel⟩
theorem ok_counts {f : Addr} {fd : FuncData} (F : FunD K "counts" "counts" (defArgs s_counts) (defBody s_counts) (defScope s_counts) [] [] f fd) (hm : mg "counts" = some (.ref f)) (B : Gb mg) (c_must_stack : Cl P w K mg base 6 "must_stack" F_must_stack) (c_counts_of : Cl P w K mg base 3 "counts_of" F_counts_of) : Cl P w K mg base 7 "counts" F_counts := by
  have S := sc_counts
  exact Cl.of (k := 6) (N := ["stack"]) (ps := ["stack"]) F S hm (fun _ _ _ _ _ _ us hl => match us, hl with | [_], _ => rfl) fun cdv A outer s H E hr =>
    (s_cons (s_drop (d_call c_must_stack hr (by decide) (a_cons (dv 0) a_nil)))
    (s_one (s_ret (d_call c_counts_of hr (by decide) (a_cons (dv 0) a_nil)))))
theorem sc_picks : FnScope ["many", "some", "found", "one"] ["many", "some"] (defScope s_picks) := ⟨rfl, rfl, rfl, by decide +kernel, rfl, by decide +kernel, by decide +kernel⟩
theorem ok_picks {f : Addr} {fd : FuncData} (F : FunD K "picks" "picks" (defArgs s_picks) (defBody s_picks) (defScope s_picks) [] [] f fd) (hm : mg "picks" = some (.ref f)) (B : Gb mg)  : Cl P w K mg base 1 "picks" F_picks := by
  have S := sc_picks
  exact Cl.of (k := 0) (N := ["many", "some", "found", "one"]) (ps := ["many", "some"]) F S hm (fun _ _ _ _ _ _ us hl => match us, hl with | [_, _], _ => rfl) fun cdv A outer s H E hr =>
    (s_cons (s_asg (j := 2) (al := false) S.nd rfl (by first | exact Or.inl rfl | exact Or.inr rfl) d_int)
    (s_cons (s_for PassesOwn.never rfl tg_name (i_range B.g_range (dv 1)) (gn 3 S.nd) (s_one (s_asg (j := 2) (al := false) S.nd rfl (by first | exact Or.inl rfl | exact Or.inr rfl) (d_fdiv (d_mul (dv 2) (d_sub (dv 0) (dv 3))) (d_add (dv 3) d_int)))))
    (s_one (s_ret (dv 2)))))
theorem sc_sign_of : FnScope ["number"] ["number"] (defScope s_sign_of) := ⟨rfl, rfl, rfl, by decide +kernel, rfl, by decide +kernel, by decide +kernel⟩
theorem ok_sign_of {f : Addr} {fd : FuncData} (F : FunD K "sign_of" "sign_of" (defArgs s_sign_of) (defBody s_sign_of) (defScope s_sign_of) [] [] f fd) (hm : mg "sign_of" = some (.ref f)) (B : Gb mg)  : Cl P w K mg base 1 "sign_of" F_sign_of := by
  have S := sc_sign_of
  exact Cl.of (k := 0) (N := ["number"]) (ps := ["number"]) F S hm (fun _ _ _ _ _ _ us hl => match us, hl with | [_], _ => rfl) fun cdv A outer s H E hr =>
    (s_one (s_ret (d_sub d_int (d_mul d_int (d_mod (dv 0) d_int)))))
theorem sc_told_of : FnScope ["stack", "k", "many", "found", "i", "j"] ["stack"] (defScope s_told_of) := ⟨rfl, rfl, rfl, by decide +kernel, rfl, by decide +kernel, by decide +kernel⟩
theorem ok_told_of {f : Addr} {fd : FuncData} (F : FunD K "told_of" "told_of" (defArgs s_told_of) (defBody s_told_of) (defScope s_told_of) [] [] f fd) (hm : mg "told_of" = some (.ref f)) (B : Gb mg) (c_counts_of : Cl P w K mg base 3 "counts_of" F_counts_of) (c_sign_of : Cl P w K mg base 1 "sign_of" F_sign_of) (c_picks : Cl P w K mg base 1 "picks" F_picks) : Cl P w K mg base 4 "told_of" F_told_of := by
  have S := sc_told_of
  exact Cl.of (k := 3) (N := ["stack", "k", "many", "found", "i", "j"]) (ps := ["stack"]) F S hm (fun _ _ _ _ _ _ us hl => match us, hl with | [_], _ => rfl) fun cdv A outer s H E hr =>
    (s_cons (s_asg (j := 1) (al := false) S.nd rfl (by first | exact Or.inl rfl | exact Or.inr rfl) (d_ix (dv 0) d_int))
    (s_cons (s_asg (j := 2) (al := false) S.nd rfl (by first | exact Or.inl rfl | exact Or.inr rfl) (d_call c_counts_of hr (by decide) (a_cons (dv 0) a_nil)))
    (s_cons (s_asg (j := 3) (al := true) S.nd rfl (by first | exact Or.inl rfl | exact Or.inr rfl) (d_lst a_nil))
    (s_cons (s_for PassesOwn.never rfl tg_name (i_range B.g_range (d_add (dv 1) d_int)) (gn 4 S.nd) (s_one (s_drop (d_append (dv 3) (a_cons (d_sum rfl B.g_sum (a_cons (d_lc rfl S.nd (own := [("j", 5)]) (blkOk_by (by kernel_rfl)) tg_name (by decide) (i_range B.g_range (d_add (dv 4) d_int)) (fun _ _ _ _ _ => (gn 5 S.nd)) (fun _ _ _ _ _ => ts_nil) (fun _ _ _ _ _ => (d_mul (d_mul (d_call c_sign_of hr (by decide) (a_cons (d_sub (dv 4) (dv 5)) a_nil)) (d_call c_picks hr (by decide) (a_cons (d_sub (dv 1) (dv 5)) (a_cons (d_sub (dv 1) (dv 4)) a_nil)))) (d_ix (dv 2) (dv 5))))) a_nil)) a_nil)))))
    (s_one (s_ret (d_tuple B.g_tuple (a_cons (dv 3) a_nil))))))))
theorem sc_told : FnScope ["stack"] ["stack"] (defScope s_told) := ⟨rfl, rfl, rfl, by decide +kernel, rfl, by decide +kernel, by decide +kernel⟩
theorem ok_told {f : Addr} {fd : FuncData} (F : FunD K "told" "told" (defArgs s_told) (defBody s_told) (defScope s_told) [] [] f fd) (hm : mg "told" = some (.ref f)) (B : Gb mg) (c_must_stack : Cl P w K mg base 6 "must_stack" F_must_stack) (c_told_of : Cl P w K mg base 4 "told_of" F_told_of) : Cl P w K mg base 7 "told" F_told := by
  have S := sc_told
  exact Cl.of (k := 6) (N := ["stack"]) (ps := ["stack"]) F S hm (fun _ _ _ _ _ _ us hl => match us, hl with | [_], _ => rfl) fun cdv A outer s H E hr =>
    (s_cons (s_drop (d_call c_must_stack hr (by decide) (a_cons (dv 0) a_nil)))
    (s_one (s_ret (d_call c_told_of hr (by decide) (a_cons (dv 0) a_nil)))))
theorem sc_counts_from : FnScope ["row", "k", "number", "j", "i"] ["row"] (defScope s_counts_from) := ⟨rfl, rfl, rfl, by decide +kernel, rfl, by decide +kernel, by decide +kernel⟩
theorem ok_counts_from {f : Addr} {fd : FuncData} (F : FunD K "counts_from" "counts_from" (defArgs s_counts_from) (defBody s_counts_from) (defScope s_counts_from) [] [] f fd) (hm : mg "counts_from" = some (.ref f)) (B : Gb mg) (c_is_from : Cl P w K mg base 2 "is_from" F_is_from) (c_picks : Cl P w K mg base 1 "picks" F_picks) : Cl P w K mg base 3 "counts_from" F_counts_from := by
  have S := sc_counts_from
  exact Cl.of (k := 2) (N := ["row", "k", "number", "j", "i"]) (ps := ["row"]) F S hm (fun _ _ _ _ _ _ us hl => match us, hl with | [_], _ => rfl) fun cdv A outer s H E hr =>
    (s_cons (s_if (PW.pt (w_or (t_not (t_val (d_isi (T := "tuple") (by decide) B.g_isinstance rfl B.g_tuple (by decide +kernel) (dv 0)))) (w_or1 (t_not (t_chain op_le op_le od_le od_le d_int (d_len B.g_len (a_cons (dv 0) a_nil)) (d_gint rfl B.i_LONGEST)))))) (s_one s_never) s_nil)
    (s_cons (s_if (t_not (t_val (d_all rfl B.g_all (a_cons (d_lc rfl S.nd (own := [("number", 2)]) (blkOk_by (by kernel_rfl)) tg_name (by decide) (i_seq (dv 0)) (fun _ _ _ _ _ => (gn 2 S.nd)) (fun _ _ _ _ _ => ts_nil) (fun _ _ _ _ _ => (d_call c_is_from hr (by decide) (a_cons (dv 2) (a_cons (d_sub d_int (d_gint rfl B.i_MOST_TOLD)) (a_cons (d_gint rfl B.i_MOST_TOLD) a_nil)))))) a_nil)))) (s_one s_never) s_nil)
    (s_cons (s_asg (j := 1) (al := false) S.nd rfl (by first | exact Or.inl rfl | exact Or.inr rfl) (d_sub (d_len B.g_len (a_cons (dv 0) a_nil)) d_int))
    (s_one (s_ret (d_tuple B.g_tuple (a_cons (d_lc rfl S.nd (own := [("j", 3)]) (blkOk_by (by kernel_rfl)) tg_name (by decide) (i_range B.g_range (d_add (dv 1) d_int)) (fun _ _ _ _ _ => (gn 3 S.nd)) (fun _ _ _ _ _ => ts_nil) (fun _ _ _ _ _ => (d_sum rfl B.g_sum (a_cons (d_lc rfl S.nd (own := [("i", 4)]) (blkOk_by (by kernel_rfl)) tg_name (by decide) (i_range B.g_range (d_add (dv 3) d_int)) (fun _ _ _ _ _ => (gn 4 S.nd)) (fun _ _ _ _ _ => ts_nil) (fun _ _ _ _ _ => (d_mul (d_call c_picks hr (by decide) (a_cons (d_sub (dv 1) (dv 4)) (a_cons (d_sub (dv 3) (dv 4)) a_nil))) (d_ix (dv 0) (dv 4))))) a_nil)))) a_nil)))))))
theorem sc_law_same : FnScope ["_law_found", "_law_due", "_law_one", "_law_other"] ["_law_found", "_law_due"] (defScope s_law_same) := ⟨rfl, rfl, rfl, by decide +kernel, rfl, by decide +kernel, by decide +kernel⟩
theorem ok_law_same {f : Addr} {fd : FuncData} (F : FunD K "_law_same" "_law_same" (defArgs s_law_same) (defBody s_law_same) (defScope s_law_same) [] [] f fd) (hm : mg "_law_same" = some (.ref f)) (B : Gb mg)  : ∀ n, Cl P w K mg base (0 + n + 1) "_law_same" (F_law_same n)
  | 0 => cl_bad (ps := ["_law_found", "_law_due"]) F hm (fun _ _ _ _ _ _ us hl => match us, hl with | [_, _], _ => rfl)
  | n + 1 => by
    have ih := ok_law_same F hm B  n
    have S := sc_law_same
    exact Cl.of (k := 0 + n + 1) (N := ["_law_found", "_law_due", "_law_one", "_law_other"]) (ps := ["_law_found", "_law_due"]) F S hm (fun _ _ _ _ _ _ us hl => match us, hl with | [_, _], _ => rfl) fun cdv A outer s H E hr =>
    (s_cons (s_if (t_isN (dv 1)) (s_one (s_ret (d_isN (dv 0)))) s_nil)
    (s_cons (s_if (t_val (d_isi2 (S := "list") (T := "tuple") (by decide) (by decide) B.g_isinstance rfl B.g_list (by decide +kernel) rfl B.g_tuple (by decide +kernel) (dv 1))) (s_cons (s_if (t_ne hr (d_isi (T := "list") (by decide) B.g_isinstance rfl B.g_list (by decide +kernel) (dv 1)) (d_isi (T := "list") (by decide) B.g_isinstance rfl B.g_list (by decide +kernel) (dv 0))) (s_one (s_ret d_bl)) s_nil)
    (s_cons (s_if (PW.pt (w_or (t_ne hr (d_isi (T := "tuple") (by decide) B.g_isinstance rfl B.g_tuple (by decide +kernel) (dv 1)) (d_isi (T := "tuple") (by decide) B.g_isinstance rfl B.g_tuple (by decide +kernel) (dv 0))) (w_or1 (t_ne hr (d_len B.g_len (a_cons (dv 0) a_nil)) (d_len B.g_len (a_cons (dv 1) a_nil)))))) (s_one (s_ret d_bl)) s_nil)
    (s_one (s_ret (d_all rfl B.g_all (a_cons (d_lc rfl S.nd (own := [("_law_one", 2), ("_law_other", 3)]) (blkOk_by (by kernel_rfl)) (tg_tup (js := [2, 3]) rfl) (by decide) (i_zip B.g_zip (a_cons (dv 0) (a_cons (dv 1) a_nil))) (fun _ _ _ _ _ => (pg_tup rfl (pgs_cons (gn 2 S.nd) (pgs_cons (gn 3 S.nd) pgs_nil)))) (fun _ _ _ _ _ => ts_nil) (fun _ _ _ _ _ => (d_call ih hr (Nat.le_refl _) (a_cons (dv 2) (a_cons (dv 3) a_nil))))) a_nil)))))) s_nil)
    (s_cons (s_if (t_val (d_isi (T := "str") (by decide) B.g_isinstance rfl B.g_str (by decide +kernel) (dv 1))) (s_one (s_ret (d_and (d_isi (T := "str") (by decide) B.g_isinstance rfl B.g_str (by decide +kernel) (dv 0)) (d_one (d_eq hr (dv 0) (dv 1)))))) s_nil)
    (s_cons (s_if (t_ne hr (d_isi (T := "bool") (by decide) B.g_isinstance rfl B.g_bool (by decide +kernel) (dv 0)) (d_isi (T := "bool") (by decide) B.g_isinstance rfl B.g_bool (by decide +kernel) (dv 1))) (s_one (s_ret d_bl)) s_nil)
    (s_one (s_ret (d_and (d_isi (T := "int") (by decide) B.g_isinstance rfl B.g_int (by decide +kernel) (dv 0)) (d_one (d_eq hr (dv 0) (dv 1))))))))))
theorem sc_law_cell : FnScope ["_law_script", "_law_k"] ["_law_script", "_law_k"] (defScope s_law_cell) := ⟨rfl, rfl, rfl, by decide +kernel, rfl, by decide +kernel, by decide +kernel⟩
theorem ok_law_cell {f : Addr} {fd : FuncData} (F : FunD K "_law_cell" "_law_cell" (defArgs s_law_cell) (defBody s_law_cell) (defScope s_law_cell) [] [] f fd) (hm : mg "_law_cell" = some (.ref f)) (B : Gb mg)  : Cl P w K mg base 1 "_law_cell" F_law_cell := by
  have S := sc_law_cell
  exact Cl.of (k := 0) (N := ["_law_script", "_law_k"]) (ps := ["_law_script", "_law_k"]) F S hm (fun _ _ _ _ _ _ us hl => match us, hl with | [_, _], _ => rfl) fun cdv A outer s H E hr =>
    (s_cons (s_if (t_lt hr (dv 1) (d_len B.g_len (a_cons (dv 0) a_nil))) (s_one (s_ret (d_ix (dv 0) (dv 1)))) s_nil)
    (s_one (s_ret d_int)))
theorem sc_law_pen : FnScope ["_law_cell_here"] ["_law_cell_here"] (defScope s_law_pen) := ⟨rfl, rfl, rfl, by decide +kernel, rfl, by decide +kernel, by decide +kernel⟩
theorem ok_law_pen {f : Addr} {fd : FuncData} (F : FunD K "_law_pen" "_law_pen" (defArgs s_law_pen) (defBody s_law_pen) (defScope s_law_pen) [] [] f fd) (hm : mg "_law_pen" = some (.ref f)) (B : Gb mg)  : Cl P w K mg base 1 "_law_pen" F_law_pen := by
  have S := sc_law_pen
  exact Cl.of (k := 0) (N := ["_law_cell_here"]) (ps := ["_law_cell_here"]) F S hm (fun _ _ _ _ _ _ us hl => match us, hl with | [_], _ => rfl) fun cdv A outer s H E hr =>
    (s_one (s_ret (d_lst (a_cons (dv 0) (a_cons (d_intc B.g_int (a_cons (d_ge (dv 0) (d_pow d_int d_int)) a_nil)) a_nil)))))
theorem sc_law_draw : FnScope ["_law_pen_here", "_law_many", "_law_found"] ["_law_pen_here", "_law_many"] (defScope s_law_draw) := ⟨rfl, rfl, rfl, by decide +kernel, rfl, by decide +kernel, by decide +kernel⟩
theorem ok_law_draw {f : Addr} {fd : FuncData} (F : FunD K "_law_draw" "_law_draw" (defArgs s_law_draw) (defBody s_law_draw) (defScope s_law_draw) [] [] f fd) (hm : mg "_law_draw" = some (.ref f)) (B : Gb mg)  : Cl P w K mg base 1 "_law_draw" F_law_draw := by
  have S := sc_law_draw
  exact Cl.of (k := 0) (N := ["_law_pen_here", "_law_many", "_law_found"]) (ps := ["_law_pen_here", "_law_many"]) F S hm (fun _ _ _ _ _ _ us hl => match us, hl with | [_, _], _ => rfl) fun cdv A outer s H E hr =>
    (s_cons (s_if (t_eq hr (d_ix (dv 0) d_int) d_int) (s_cons (s_asg (j := 2) (al := false) S.nd rfl (by first | exact Or.inl rfl | exact Or.inr rfl) (d_mod (d_ix (dv 0) d_int) (dv 1)))
    (s_cons (s_set hr (d_fdiv (d_ix (dv 0) d_int) (dv 1)) (dv 0) d_int)
    (s_one (s_ret (dv 2))))) s_nil)
    (s_cons (s_set hr (d_mod (d_add (d_mul (d_mod (d_ix (dv 0) d_int) d_int) d_int) d_int) d_int) (dv 0) d_int)
    (s_one (s_ret (d_mod (d_fdiv (d_mod (d_add (d_mul (d_ix (dv 0) d_int) (d_ix (dv 0) d_int)) (d_mul d_int (d_ix (dv 0) d_int))) d_int) d_int) (dv 1))))))
theorem sc_law_all : FnScope ["_law_n", "_law_k", "_law_found", "_law_point", "_law_one"] ["_law_n", "_law_k"] (defScope s_law_all) := ⟨rfl, rfl, rfl, by decide +kernel, rfl, by decide +kernel, by decide +kernel⟩
theorem ok_law_all {f : Addr} {fd : FuncData} (F : FunD K "_law_all" "_law_all" (defArgs s_law_all) (defBody s_law_all) (defScope s_law_all) [] [] f fd) (hm : mg "_law_all" = some (.ref f)) (B : Gb mg)  : Cl P w K mg base 1 "_law_all" F_law_all := by
  have S := sc_law_all
  exact Cl.of (k := 0) (N := ["_law_n", "_law_k", "_law_found", "_law_point", "_law_one"]) (ps := ["_law_n", "_law_k"]) F S hm (fun _ _ _ _ _ _ us hl => match us, hl with | [_, _], _ => rfl) fun cdv A outer s H E hr =>
    (s_cons (s_asg (j := 2) (al := false) S.nd rfl (by first | exact Or.inl rfl | exact Or.inr rfl) (d_lst (a_cons (d_tup a_nil) a_nil)))
    (s_cons (s_for PassesOwn.never rfl tg_name (i_range B.g_range (dv 0)) (gn 3 S.nd) (s_one (s_asg (j := 2) (al := false) S.nd rfl (by first | exact Or.inl rfl | exact Or.inr rfl) (d_add (dv 2) (d_lc rfl S.nd (own := [("_law_one", 4)]) (blkOk_by (by kernel_rfl)) tg_name (by decide) (i_seq (dv 2)) (fun _ _ _ _ _ => (gn 4 S.nd)) (fun _ _ _ _ _ => (ts_one (t_lt hr (d_len B.g_len (a_cons (dv 4) a_nil)) (dv 1)))) (fun _ _ _ _ _ => (d_add (dv 4) (d_tup (a_cons (dv 3) a_nil)))))))))
    (s_one (s_ret (d_sorted rfl hr B.g_sorted (a_cons (d_lc rfl S.nd (own := [("_law_one", 4)]) (blkOk_by (by kernel_rfl)) tg_name (by decide) (i_seq (dv 2)) (fun _ _ _ _ _ => (gn 4 S.nd)) (fun _ _ _ _ _ => (ts_one (t_eq hr (d_len B.g_len (a_cons (dv 4) a_nil)) (dv 1)))) (fun _ _ _ _ _ => (dv 4))) a_nil))))))
theorem sc_law_stack : FnScope ["_law_pen_here", "_law_most", "_law_way", "_law_n", "_law_k", "_law_every", "_law_faces", "_law_turn", "_law_face", "_law_out", "_law_others", "_law_into", "_law_rest", "_law_point"] ["_law_pen_here", "_law_most"] (defScope s_law_stack) := ⟨rfl, rfl, rfl, by decide +kernel, rfl, by decide +kernel, by decide +kernel⟩
theorem ok_law_stack {f : Addr} {fd : FuncData} (F : FunD K "_law_stack" "_law_stack" (defArgs s_law_stack) (defBody s_law_stack) (defScope s_law_stack) [] [] f fd) (hm : mg "_law_stack" = some (.ref f)) (B : Gb mg) (c_law_draw : Cl P w K mg base 1 "_law_draw" F_law_draw) (c_law_all : Cl P w K mg base 1 "_law_all" F_law_all) : Cl P w K mg base 2 "_law_stack" F_law_stack := by
  have S := sc_law_stack
  exact Cl.of (k := 1) (N := ["_law_pen_here", "_law_most", "_law_way", "_law_n", "_law_k", "_law_every", "_law_faces", "_law_turn", "_law_face", "_law_out", "_law_others", "_law_into", "_law_rest", "_law_point"]) (ps := ["_law_pen_here", "_law_most"]) F S hm (fun _ _ _ _ _ _ us hl => match us, hl with | [_, _], _ => rfl) fun cdv A outer s H E hr =>
    (s_cons (s_asg (j := 2) (al := false) S.nd rfl (by first | exact Or.inl rfl | exact Or.inr rfl) (d_call c_law_draw hr (by decide) (a_cons (dv 0) (a_cons d_int a_nil))))
    (s_cons (s_asg (j := 3) (al := false) S.nd rfl (by first | exact Or.inl rfl | exact Or.inr rfl) (d_ix (d_lst (a_cons d_int (a_cons d_int (a_cons d_int (a_cons d_int (a_cons d_int (a_cons d_int (a_cons d_int (a_cons d_int a_nil))))))))) (d_call c_law_draw hr (by decide) (a_cons (dv 0) (a_cons d_int a_nil)))))
    (s_cons (s_asg (j := 4) (al := false) S.nd rfl (by first | exact Or.inl rfl | exact Or.inr rfl) (d_min2 rfl B.g_min (a_cons (dv 3) (a_cons (d_ix (d_lst (a_cons d_int (a_cons d_int (a_cons d_int (a_cons d_int (a_cons d_int (a_cons d_int (a_cons d_int a_nil)))))))) (d_call c_law_draw hr (by decide) (a_cons (dv 0) (a_cons d_int a_nil)))) a_nil))))
    (s_cons (s_asg (j := 5) (al := false) S.nd rfl (by first | exact Or.inl rfl | exact Or.inr rfl) (d_call c_law_all hr (by decide) (a_cons (dv 3) (a_cons (dv 4) a_nil))))
    (s_cons (s_asg (j := 6) (al := true) S.nd rfl (by first | exact Or.inl rfl | exact Or.inr rfl) (d_lst (a_cons (d_ix (dv 5) (d_call c_law_draw hr (by decide) (a_cons (dv 0) (a_cons (d_len B.g_len (a_cons (dv 5) a_nil)) a_nil)))) a_nil)))
    (s_cons (s_for PassesOwn.never rfl tg_name (i_range B.g_range (d_call c_law_draw hr (by decide) (a_cons (dv 0) (a_cons (dv 1) a_nil)))) (gn 7 S.nd) (s_cons (s_asg (j := 8) (al := false) S.nd rfl (by first | exact Or.inl rfl | exact Or.inr rfl) (d_ix (dv 6) (d_call c_law_draw hr (by decide) (a_cons (dv 0) (a_cons (d_len B.g_len (a_cons (dv 6) a_nil)) a_nil)))))
    (s_one (s_if (PW.pt (w_or (t_eq hr (dv 2) d_int) (w_or (t_eq hr (dv 4) d_int) (w_or1 (t_eq hr (dv 4) (dv 3)))))) (s_one (s_drop (d_append (dv 6) (a_cons (d_ix (dv 5) (d_call c_law_draw hr (by decide) (a_cons (dv 0) (a_cons (d_len B.g_len (a_cons (dv 5) a_nil)) a_nil)))) a_nil)))) (s_cons (s_asg (j := 9) (al := false) S.nd rfl (by first | exact Or.inl rfl | exact Or.inr rfl) (d_ix (dv 8) (d_call c_law_draw hr (by decide) (a_cons (dv 0) (a_cons (dv 4) a_nil)))))
    (s_cons (s_asgLc (j := 10) (al := false) rfl S.nd rfl rfl rfl (own := [("_law_point", 13)]) (blkOk_by (by kernel_rfl)) tg_name (by decide) (i_range B.g_range (dv 3)) (fun _ _ _ _ _ => (gn 13 S.nd)) (fun _ _ _ _ _ => (ts_one (t_notIn hr (dv 13) (dv 8)))) (fun _ _ _ _ _ => (dv 13)))
    (s_cons (s_asg (j := 11) (al := false) S.nd rfl (by first | exact Or.inl rfl | exact Or.inr rfl) (d_ix (dv 10) (d_call c_law_draw hr (by decide) (a_cons (dv 0) (a_cons (d_sub (dv 3) (dv 4)) a_nil)))))
    (s_cons (s_asgLc (j := 12) (al := false) rfl S.nd rfl rfl rfl (own := [("_law_point", 13)]) (blkOk_by (by kernel_rfl)) tg_name (by decide) (i_seq (dv 8)) (fun _ _ _ _ _ => (gn 13 S.nd)) (fun _ _ _ _ _ => (ts_one (t_ne hr (dv 13) (dv 9)))) (fun _ _ _ _ _ => (dv 13)))
    (s_one (s_drop (d_append (dv 6) (a_cons (d_tuple B.g_tuple (a_cons (d_sorted rfl hr B.g_sorted (a_cons (d_add (dv 12) (d_lst (a_cons (dv 11) a_nil))) a_nil)) a_nil)) a_nil))))))))))))
    (s_cons (s_if (PW.pt (w_and (t_eq hr (dv 2) d_int) (w_and (t_lt hr (dv 4) (dv 3)) (w_and1 (t_lt hr (dv 4) (dv 1)))))) (s_one (s_asg (j := 6) (al := true) S.nd rfl (by first | exact Or.inl rfl | exact Or.inr rfl) (d_call c_law_all hr (by decide) (a_cons (d_add (dv 4) d_int) (a_cons (dv 4) a_nil))))) s_nil)
    (s_one (s_ret (d_tup (a_cons (dv 3) (a_cons (dv 4) (a_cons (d_tuple B.g_tuple (a_cons (d_sortedSet rfl hr B.g_sorted B.g_set (a_cons (dv 6) a_nil)) a_nil)) a_nil)))))))))))))
theorem sc_law_within : FnScope ["_law_part", "_law_face", "_law_point"] ["_law_part", "_law_face"] (defScope s_law_within) := ⟨rfl, rfl, rfl, by decide +kernel, rfl, by decide +kernel, by decide +kernel⟩
theorem ok_law_within {f : Addr} {fd : FuncData} (F : FunD K "_law_within" "_law_within" (defArgs s_law_within) (defBody s_law_within) (defScope s_law_within) [] [] f fd) (hm : mg "_law_within" = some (.ref f)) (B : Gb mg)  : Cl P w K mg base 1 "_law_within" F_law_within := by
  have S := sc_law_within
  exact Cl.of (k := 0) (N := ["_law_part", "_law_face", "_law_point"]) (ps := ["_law_part", "_law_face"]) F S hm (fun _ _ _ _ _ _ us hl => match us, hl with | [_, _], _ => rfl) fun cdv A outer s H E hr =>
    (s_one (s_ret (d_eq hr (d_lc rfl S.nd (own := [("_law_point", 2)]) (blkOk_by (by kernel_rfl)) tg_name (by decide) (i_seq (dv 0)) (fun _ _ _ _ _ => (gn 2 S.nd)) (fun _ _ _ _ _ => (ts_one (t_notIn hr (dv 2) (dv 1)))) (fun _ _ _ _ _ => (dv 2))) (d_lst a_nil))))
theorem sc_law_parts : FnScope ["_law_stack_here", "_law_many", "_law_found", "_law_one", "_law_face"] ["_law_stack_here", "_law_many"] (defScope s_law_parts) := ⟨rfl, rfl, rfl, by decide +kernel, rfl, by decide +kernel, by decide +kernel⟩
theorem ok_law_parts {f : Addr} {fd : FuncData} (F : FunD K "_law_parts" "_law_parts" (defArgs s_law_parts) (defBody s_law_parts) (defScope s_law_parts) [] [] f fd) (hm : mg "_law_parts" = some (.ref f)) (B : Gb mg) (c_law_all : Cl P w K mg base 1 "_law_all" F_law_all) (c_law_within : Cl P w K mg base 1 "_law_within" F_law_within) : Cl P w K mg base 2 "_law_parts" F_law_parts := by
  have S := sc_law_parts
  exact Cl.of (k := 1) (N := ["_law_stack_here", "_law_many", "_law_found", "_law_one", "_law_face"]) (ps := ["_law_stack_here", "_law_many"]) F S hm (fun _ _ _ _ _ _ us hl => match us, hl with | [_, _], _ => rfl) fun cdv A outer s H E hr =>
    (s_cons (s_asg (j := 2) (al := true) S.nd rfl (by first | exact Or.inl rfl | exact Or.inr rfl) (d_lst a_nil))
    (s_cons (s_for PassesOwn.never rfl tg_name (i_seq (d_call c_law_all hr (by decide) (a_cons (d_ix (dv 0) d_int) (a_cons (dv 1) a_nil)))) (gn 3 S.nd) (s_one (s_if (t_ne hr (d_lc rfl S.nd (own := [("_law_face", 4)]) (blkOk_by (by kernel_rfl)) tg_name (by decide) (i_seq (d_ix (dv 0) d_int)) (fun _ _ _ _ _ => (gn 4 S.nd)) (fun _ _ _ _ _ => (ts_one (t_val (d_call c_law_within hr (by decide) (a_cons (dv 3) (a_cons (dv 4) a_nil)))))) (fun _ _ _ _ _ => (dv 4))) (d_lst a_nil)) (s_one (s_drop (d_append (dv 2) (a_cons (dv 3) a_nil)))) s_nil)))
    (s_one (s_ret (dv 2)))))
theorem sc_law_told : FnScope ["_law_stack_here", "_law_row", "_law_many", "_law_one", "_law_other"] ["_law_stack_here"] (defScope s_law_told) := ⟨rfl, rfl, rfl, by decide +kernel, rfl, by decide +kernel, by decide +kernel⟩
theorem ok_law_told {f : Addr} {fd : FuncData} (F : FunD K "_law_told" "_law_told" (defArgs s_law_told) (defBody s_law_told) (defScope s_law_told) [] [] f fd) (hm : mg "_law_told" = some (.ref f)) (B : Gb mg) (c_law_parts : Cl P w K mg base 2 "_law_parts" F_law_parts) : Cl P w K mg base 3 "_law_told" F_law_told := by
  have S := sc_law_told
  exact Cl.of (k := 2) (N := ["_law_stack_here", "_law_row", "_law_many", "_law_one", "_law_other"]) (ps := ["_law_stack_here"]) F S hm (fun _ _ _ _ _ _ us hl => match us, hl with | [_], _ => rfl) fun cdv A outer s H E hr =>
    (s_cons (s_asg (j := 1) (al := true) S.nd rfl (by first | exact Or.inl rfl | exact Or.inr rfl) (d_lst a_nil))
    (s_cons (s_for PassesOwn.never rfl tg_name (i_range B.g_range (d_add (d_ix (dv 0) d_int) d_int)) (gn 2 S.nd) (s_cons (s_asgLc (j := 1) (al := true) rfl S.nd rfl rfl rfl (own := [("_law_one", 3), ("_law_other", 4)]) (blkOk_by (by kernel_rfl)) (tg_tup (js := [3, 4]) rfl) (by decide) (i_zip B.g_zip (a_cons (d_add (dv 1) (d_lst (a_cons d_int a_nil))) (a_cons (d_add (d_lst (a_cons d_int a_nil)) (dv 1)) a_nil))) (fun _ _ _ _ _ => (pg_tup rfl (pgs_cons (gn 3 S.nd) (pgs_cons (gn 4 S.nd) pgs_nil)))) (fun _ _ _ _ _ => ts_nil) (fun _ _ _ _ _ => (d_sub (dv 3) (dv 4))))
    (s_one (s_set hr (d_add (d_ix (dv 1) (dv 2)) (d_len B.g_len (a_cons (d_call c_law_parts hr (by decide) (a_cons (dv 0) (a_cons (dv 2) a_nil))) a_nil))) (dv 1) (dv 2)))))
    (s_one (s_ret (d_tuple B.g_tuple (a_cons (dv 1) a_nil))))))
theorem sc_law_powers : FnScope ["_law_row", "_law_total", "_law_place", "_law_number", "_law_some", "_law_turn", "_law_at", "_law_part", "_law_one", "_law_other"] ["_law_row"] (defScope s_law_powers) := ⟨rfl, rfl, rfl, by decide +kernel, rfl, by decide +kernel, by decide +kernel⟩
theorem ok_law_powers {f : Addr} {fd : FuncData} (F : FunD K "_law_powers" "_law_powers" (defArgs s_law_powers) (defBody s_law_powers) (defScope s_law_powers) [] [] f fd) (hm : mg "_law_powers" = some (.ref f)) (B : Gb mg)  : Cl P w K mg base 1 "_law_powers" F_law_powers := by
  have S := sc_law_powers
  exact Cl.of (k := 0) (N := ["_law_row", "_law_total", "_law_place", "_law_number", "_law_some", "_law_turn", "_law_at", "_law_part", "_law_one", "_law_other"]) (ps := ["_law_row"]) F S hm (fun _ _ _ _ _ _ us hl => match us, hl with | [_], _ => rfl) fun cdv A outer s H E hr =>
    (s_cons (s_asg (j := 1) (al := true) S.nd rfl (by first | exact Or.inl rfl | exact Or.inr rfl) (d_mul (d_lst (a_cons d_int a_nil)) (d_len B.g_len (a_cons (dv 0) a_nil))))
    (s_cons (s_for PassesOwn.never rfl (tg_tup (js := [2, 3]) rfl) (i_enum B.g_enumerate (a_cons (dv 0) a_nil)) (pg_tup rfl (pgs_cons (gn 2 S.nd) (pgs_cons (gn 3 S.nd) pgs_nil))) (s_cons (s_asg (j := 4) (al := false) S.nd rfl (by first | exact Or.inl rfl | exact Or.inr rfl) (d_lst (a_cons (dv 3) a_nil)))
    (s_cons (s_for PassesOwn.never rfl tg_name (i_range B.g_range (d_sub (d_sub (d_len B.g_len (a_cons (dv 0) a_nil)) d_int) (dv 2))) (gn 5 S.nd) (s_one (s_asgLc (j := 4) (al := false) rfl S.nd rfl rfl rfl (own := [("_law_one", 8), ("_law_other", 9)]) (blkOk_by (by kernel_rfl)) (tg_tup (js := [8, 9]) rfl) (by decide) (i_zip B.g_zip (a_cons (d_add (dv 4) (d_lst (a_cons d_int a_nil))) (a_cons (d_add (d_lst (a_cons d_int a_nil)) (dv 4)) a_nil))) (fun _ _ _ _ _ => (pg_tup rfl (pgs_cons (gn 8 S.nd) (pgs_cons (gn 9 S.nd) pgs_nil)))) (fun _ _ _ _ _ => ts_nil) (fun _ _ _ _ _ => (d_add (dv 8) (dv 9))))))
    (s_one (s_for PassesOwn.never rfl (tg_tup (js := [6, 7]) rfl) (i_enum B.g_enumerate (a_cons (dv 4) a_nil)) (pg_tup rfl (pgs_cons (gn 6 S.nd) (pgs_cons (gn 7 S.nd) pgs_nil))) (s_one (s_set hr (d_add (d_ix (dv 1) (d_add (dv 2) (dv 6))) (dv 7)) (dv 1) (d_add (dv 2) (dv 6)))))))))
    (s_one (s_ret (d_tuple B.g_tuple (a_cons (dv 1) a_nil))))))
theorem sc_law_numbers_of : FnScope ["_law_pen_here", "_law_found", "_law_turn", "_law_wide"] ["_law_pen_here"] (defScope s_law_numbers_of) := ⟨rfl, rfl, rfl, by decide +kernel, rfl, by decide +kernel, by decide +kernel⟩
theorem ok_law_numbers_of {f : Addr} {fd : FuncData} (F : FunD K "_law_numbers_of" "_law_numbers_of" (defArgs s_law_numbers_of) (defBody s_law_numbers_of) (defScope s_law_numbers_of) [] [] f fd) (hm : mg "_law_numbers_of" = some (.ref f)) (B : Gb mg) (c_law_draw : Cl P w K mg base 1 "_law_draw" F_law_draw) : Cl P w K mg base 2 "_law_numbers_of" F_law_numbers_of := by
  have S := sc_law_numbers_of
  exact Cl.of (k := 1) (N := ["_law_pen_here", "_law_found", "_law_turn", "_law_wide"]) (ps := ["_law_pen_here"]) F S hm (fun _ _ _ _ _ _ us hl => match us, hl with | [_], _ => rfl) fun cdv A outer s H E hr =>
    (s_cons (s_asg (j := 1) (al := true) S.nd rfl (by first | exact Or.inl rfl | exact Or.inr rfl) (d_lst a_nil))
    (s_cons (s_for PassesOwn.never rfl tg_name (i_range B.g_range (d_add d_int (d_call c_law_draw hr (by decide) (a_cons (dv 0) (a_cons d_int a_nil))))) (gn 2 S.nd) (s_cons (s_asg (j := 3) (al := false) S.nd rfl (by first | exact Or.inl rfl | exact Or.inr rfl) (d_ix (d_lst (a_cons d_int (a_cons (d_add (d_pow d_int d_int) d_int) a_nil))) (d_call c_law_draw hr (by decide) (a_cons (dv 0) (a_cons d_int a_nil)))))
    (s_one (s_drop (d_append (dv 1) (a_cons (d_mul (d_ix (d_lst (a_cons d_int (a_cons (d_neg d_int) a_nil))) (d_call c_law_draw hr (by decide) (a_cons (dv 0) (a_cons d_int a_nil)))) (d_call c_law_draw hr (by decide) (a_cons (dv 0) (a_cons (dv 3) a_nil)))) a_nil))))))
    (s_one (s_ret (d_tuple B.g_tuple (a_cons (dv 1) a_nil))))))
theorem sc_law : FnScope ["_law_script", "_law_row", "_law_cell_here", "_law_pen_here", "_law_stack_here", "_law_found", "_law_turn"] ["_law_script"] (defScope s_law) := ⟨rfl, rfl, rfl, by decide +kernel, rfl, by decide +kernel, by decide +kernel⟩
theorem ok_law {f : Addr} {fd : FuncData} (F : FunD K "law" "law" (defArgs s_law) (defBody s_law) (defScope s_law) [] [] f fd) (hm : mg "law" = some (.ref f)) (B : Gb mg) (c_law_same : Cl P w K mg base 9 "_law_same" (F_law_same 8)) (c_counts_from : Cl P w K mg base 3 "counts_from" F_counts_from) (c_law_powers : Cl P w K mg base 1 "_law_powers" F_law_powers) (c_law_cell : Cl P w K mg base 1 "_law_cell" F_law_cell) (c_law_pen : Cl P w K mg base 1 "_law_pen" F_law_pen) (c_law_stack : Cl P w K mg base 2 "_law_stack" F_law_stack) (c_told : Cl P w K mg base 7 "told" F_told) (c_law_told : Cl P w K mg base 3 "_law_told" F_law_told) (c_counts : Cl P w K mg base 7 "counts" F_counts) (c_law_numbers_of : Cl P w K mg base 2 "_law_numbers_of" F_law_numbers_of) : FnOk P w K mg base CX0 10 f fd ["_law_script"] (spD K F_law) := by
  have S := sc_law
  exact fn_ok (k := 9) (N := ["_law_script", "_law_row", "_law_cell_here", "_law_pen_here", "_law_stack_here", "_law_found", "_law_turn"]) (ps := ["_law_script"]) F S fun cdv A outer s H E hr =>
    (s_cons (s_for PassesOwn.never rfl tg_name (i_seq (d_lst (a_cons (d_tup (a_cons d_int a_nil)) (a_cons (d_tup (a_cons d_int (a_cons d_int a_nil))) (a_cons (d_tup (a_cons d_int (a_cons (d_pow d_int d_int) (a_cons (d_neg (d_pow d_int d_int)) a_nil)))) (a_cons (d_tup (a_cons d_int (a_cons d_int (a_cons d_int (a_cons d_int (a_cons d_int a_nil)))))) a_nil)))))) (gn 1 S.nd) (s_one (s_if (t_not (t_val (d_call c_law_same hr (by decide) (a_cons (d_call c_counts_from hr (by decide) (a_cons (dv 1) a_nil)) (a_cons (d_call c_law_powers hr (by decide) (a_cons (dv 1) a_nil)) a_nil))))) (s_one (s_ret d_bl)) s_nil)))
    (s_cons (s_for PassesOwn.never rfl tg_name (i_seq (d_add (d_lst (a_cons (d_call c_law_cell hr (by decide) (a_cons (dv 0) (a_cons d_int a_nil))) a_nil)) (d_sl (dv 0) (p_yes d_int) (p_yes d_int)))) (gn 2 S.nd) (s_cons (s_asg (j := 3) (al := true) S.nd rfl (by first | exact Or.inl rfl | exact Or.inr rfl) (d_call c_law_pen hr (by decide) (a_cons (dv 2) a_nil)))
    (s_cons (s_asg (j := 4) (al := false) S.nd rfl (by first | exact Or.inl rfl | exact Or.inr rfl) (d_call c_law_stack hr (by decide) (a_cons (dv 3) (a_cons d_int a_nil))))
    (s_cons (s_asg (j := 5) (al := false) S.nd rfl (by first | exact Or.inl rfl | exact Or.inr rfl) (d_call c_told hr (by decide) (a_cons (dv 4) a_nil)))
    (s_cons (s_if (t_not (t_val (d_call c_law_same hr (by decide) (a_cons (dv 5) (a_cons (d_call c_law_told hr (by decide) (a_cons (dv 4) a_nil)) a_nil))))) (s_one (s_ret d_bl)) s_nil)
    (s_cons (s_if (t_not (t_val (d_call c_law_same hr (by decide) (a_cons (d_call c_counts_from hr (by decide) (a_cons (dv 5) a_nil)) (a_cons (d_call c_counts hr (by decide) (a_cons (dv 4) a_nil)) a_nil))))) (s_one (s_ret d_bl)) s_nil)
    (s_one (s_for PassesOwn.never rfl tg_name (i_range B.g_range d_int) (gn 6 S.nd) (s_cons (s_asg (j := 1) (al := false) S.nd rfl (by first | exact Or.inl rfl | exact Or.inr rfl) (d_call c_law_numbers_of hr (by decide) (a_cons (dv 3) a_nil)))
    (s_one (s_if (t_not (t_val (d_call c_law_same hr (by decide) (a_cons (d_call c_counts_from hr (by decide) (a_cons (dv 1) a_nil)) (a_cons (d_call c_law_powers hr (by decide) (a_cons (dv 1) a_nil)) a_nil))))) (s_one (s_ret d_bl)) s_nil)))))))))))
    (s_one (s_ret d_bl))))
end
end Lw

set_option Elab.async false
set_option linter.all false
set_option maxRecDepth 100000
set_option maxHeartbeats 0
namespace Lw
open PySem PySem.Spec PyProof.Rows L2 Lf Hd
theorem facts {P : Program} {w : World} {K : PySem.W.Frag} {h : Heap} {mg : Str → Option Value} {f : Addr} (X : K.In h) (G : h.Ns mainGlobals mg) (hfa : mg ("law" : Str) = some (.ref f)) (c : He.SaysD fa fn K) :
    ∃ fd : FuncData, (∀ (s : Shared) (v : Value), BindsTo s fd ⟨[v], []⟩ [("_law_script", v)]) ∧ ∀ base : Heap, FnOk P w K mg base CX0 10 f fd ["_law_script"] (spD K F_law) := by
  have B : Gb mg := ⟨He.free_ok X G (c.fact 27 (f := .free "all") rfl), He.free_ok X G (c.fact 28 (f := .free "bool") rfl), He.free_ok X G (c.fact 29 (f := .free "enumerate") rfl), He.free_ok X G (c.fact 30 (f := .free "int") rfl), He.free_ok X G (c.fact 31 (f := .free "isinstance") rfl), He.free_ok X G (c.fact 32 (f := .free "len") rfl), He.free_ok X G (c.fact 33 (f := .free "list") rfl), He.free_ok X G (c.fact 34 (f := .free "min") rfl), He.free_ok X G (c.fact 35 (f := .free "range") rfl), He.free_ok X G (c.fact 36 (f := .free "set") rfl), He.free_ok X G (c.fact 37 (f := .free "sorted") rfl), He.free_ok X G (c.fact 38 (f := .free "str") rfl), He.free_ok X G (c.fact 39 (f := .free "sum") rfl), He.free_ok X G (c.fact 40 (f := .free "tuple") rfl), He.free_ok X G (c.fact 41 (f := .free "zip") rfl), He.int_ok X G (c.fact 42 (f := .int "MOST_POINTS" 8) rfl), He.int_ok X G (c.fact 43 (f := .int "MOST_TAKEN" 4) rfl), He.int_ok X G (c.fact 44 (f := .int "MOST_FACES" 70) rfl), He.int_ok X G (c.fact 45 (f := .int "MOST_TOLD" 1000000) rfl), He.int_ok X G (c.fact 46 (f := .int "LONGEST" 5) rfl)⟩
  obtain ⟨fd_is_whole, D_is_whole⟩ := c.def_ 0 (d := ⟨("is_whole", none), "is_whole", "is_whole", defArgs s_is_whole, defBody s_is_whole, defScope s_is_whole, [], []⟩) rfl
  have m_is_whole : mg "is_whole" = some (.ref (He.ga K "is_whole")) := He.glo_ok X G (c.fact 0 (f := .glo "is_whole") rfl)
  obtain ⟨fd_is_from, D_is_from⟩ := c.def_ 1 (d := ⟨("is_from", none), "is_from", "is_from", defArgs s_is_from, defBody s_is_from, defScope s_is_from, [], []⟩) rfl
  have m_is_from : mg "is_from" = some (.ref (He.ga K "is_from")) := He.glo_ok X G (c.fact 1 (f := .glo "is_from") rfl)
  obtain ⟨fd_are_rising, D_are_rising⟩ := c.def_ 2 (d := ⟨("are_rising", none), "are_rising", "are_rising", defArgs s_are_rising, defBody s_are_rising, defScope s_are_rising, [], []⟩) rfl
  have m_are_rising : mg "are_rising" = some (.ref (He.ga K "are_rising")) := He.glo_ok X G (c.fact 2 (f := .glo "are_rising") rfl)
  obtain ⟨fd_are_faces, D_are_faces⟩ := c.def_ 3 (d := ⟨("are_faces", none), "are_faces", "are_faces", defArgs s_are_faces, defBody s_are_faces, defScope s_are_faces, [], []⟩) rfl
  have m_are_faces : mg "are_faces" = some (.ref (He.ga K "are_faces")) := He.glo_ok X G (c.fact 3 (f := .glo "are_faces") rfl)
  obtain ⟨fd_is_stack, D_is_stack⟩ := c.def_ 4 (d := ⟨("is_stack", none), "is_stack", "is_stack", defArgs s_is_stack, defBody s_is_stack, defScope s_is_stack, [], []⟩) rfl
  have m_is_stack : mg "is_stack" = some (.ref (He.ga K "is_stack")) := He.glo_ok X G (c.fact 4 (f := .glo "is_stack") rfl)
  obtain ⟨fd_must_stack, D_must_stack⟩ := c.def_ 5 (d := ⟨("must_stack", none), "must_stack", "must_stack", defArgs s_must_stack, defBody s_must_stack, defScope s_must_stack, [], []⟩) rfl
  have m_must_stack : mg "must_stack" = some (.ref (He.ga K "must_stack")) := He.glo_ok X G (c.fact 5 (f := .glo "must_stack") rfl)
  obtain ⟨fd_picked, D_picked⟩ := c.def_ 6 (d := ⟨("picked", none), "picked", "picked", defArgs s_picked, defBody s_picked, defScope s_picked, [], []⟩) rfl
  have m_picked : mg "picked" = some (.ref (He.ga K "picked")) := He.glo_ok X G (c.fact 6 (f := .glo "picked") rfl)
  obtain ⟨fd_all_parts, D_all_parts⟩ := c.def_ 7 (d := ⟨("all_parts", none), "all_parts", "all_parts", defArgs s_all_parts, defBody s_all_parts, defScope s_all_parts, [], []⟩) rfl
  have m_all_parts : mg "all_parts" = some (.ref (He.ga K "all_parts")) := He.glo_ok X G (c.fact 7 (f := .glo "all_parts") rfl)
  obtain ⟨fd_counts_of, D_counts_of⟩ := c.def_ 8 (d := ⟨("counts_of", none), "counts_of", "counts_of", defArgs s_counts_of, defBody s_counts_of, defScope s_counts_of, [], []⟩) rfl
  have m_counts_of : mg "counts_of" = some (.ref (He.ga K "counts_of")) := He.glo_ok X G (c.fact 8 (f := .glo "counts_of") rfl)
  obtain ⟨fd_counts, D_counts⟩ := c.def_ 9 (d := ⟨("counts", none), "counts", "counts", defArgs s_counts, defBody s_counts, defScope s_counts, [], []⟩) rfl
  have m_counts : mg "counts" = some (.ref (He.ga K "counts")) := He.glo_ok X G (c.fact 9 (f := .glo "counts") rfl)
  obtain ⟨fd_picks, D_picks⟩ := c.def_ 10 (d := ⟨("picks", none), "picks", "picks", defArgs s_picks, defBody s_picks, defScope s_picks, [], []⟩) rfl
  have m_picks : mg "picks" = some (.ref (He.ga K "picks")) := He.glo_ok X G (c.fact 10 (f := .glo "picks") rfl)
  obtain ⟨fd_sign_of, D_sign_of⟩ := c.def_ 11 (d := ⟨("sign_of", none), "sign_of", "sign_of", defArgs s_sign_of, defBody s_sign_of, defScope s_sign_of, [], []⟩) rfl
  have m_sign_of : mg "sign_of" = some (.ref (He.ga K "sign_of")) := He.glo_ok X G (c.fact 11 (f := .glo "sign_of") rfl)
  obtain ⟨fd_told_of, D_told_of⟩ := c.def_ 12 (d := ⟨("told_of", none), "told_of", "told_of", defArgs s_told_of, defBody s_told_of, defScope s_told_of, [], []⟩) rfl
  have m_told_of : mg "told_of" = some (.ref (He.ga K "told_of")) := He.glo_ok X G (c.fact 12 (f := .glo "told_of") rfl)
  obtain ⟨fd_told, D_told⟩ := c.def_ 13 (d := ⟨("told", none), "told", "told", defArgs s_told, defBody s_told, defScope s_told, [], []⟩) rfl
  have m_told : mg "told" = some (.ref (He.ga K "told")) := He.glo_ok X G (c.fact 13 (f := .glo "told") rfl)
  obtain ⟨fd_counts_from, D_counts_from⟩ := c.def_ 14 (d := ⟨("counts_from", none), "counts_from", "counts_from", defArgs s_counts_from, defBody s_counts_from, defScope s_counts_from, [], []⟩) rfl
  have m_counts_from : mg "counts_from" = some (.ref (He.ga K "counts_from")) := He.glo_ok X G (c.fact 14 (f := .glo "counts_from") rfl)
  obtain ⟨fd_law_same, D_law_same⟩ := c.def_ 15 (d := ⟨("_law_same", none), "_law_same", "_law_same", defArgs s_law_same, defBody s_law_same, defScope s_law_same, [], []⟩) rfl
  have m_law_same : mg "_law_same" = some (.ref (He.ga K "_law_same")) := He.glo_ok X G (c.fact 15 (f := .glo "_law_same") rfl)
  obtain ⟨fd_law_cell, D_law_cell⟩ := c.def_ 16 (d := ⟨("_law_cell", none), "_law_cell", "_law_cell", defArgs s_law_cell, defBody s_law_cell, defScope s_law_cell, [], []⟩) rfl
  have m_law_cell : mg "_law_cell" = some (.ref (He.ga K "_law_cell")) := He.glo_ok X G (c.fact 16 (f := .glo "_law_cell") rfl)
  obtain ⟨fd_law_pen, D_law_pen⟩ := c.def_ 17 (d := ⟨("_law_pen", none), "_law_pen", "_law_pen", defArgs s_law_pen, defBody s_law_pen, defScope s_law_pen, [], []⟩) rfl
  have m_law_pen : mg "_law_pen" = some (.ref (He.ga K "_law_pen")) := He.glo_ok X G (c.fact 17 (f := .glo "_law_pen") rfl)
  obtain ⟨fd_law_draw, D_law_draw⟩ := c.def_ 18 (d := ⟨("_law_draw", none), "_law_draw", "_law_draw", defArgs s_law_draw, defBody s_law_draw, defScope s_law_draw, [], []⟩) rfl
  have m_law_draw : mg "_law_draw" = some (.ref (He.ga K "_law_draw")) := He.glo_ok X G (c.fact 18 (f := .glo "_law_draw") rfl)
  obtain ⟨fd_law_all, D_law_all⟩ := c.def_ 19 (d := ⟨("_law_all", none), "_law_all", "_law_all", defArgs s_law_all, defBody s_law_all, defScope s_law_all, [], []⟩) rfl
  have m_law_all : mg "_law_all" = some (.ref (He.ga K "_law_all")) := He.glo_ok X G (c.fact 19 (f := .glo "_law_all") rfl)
  obtain ⟨fd_law_stack, D_law_stack⟩ := c.def_ 20 (d := ⟨("_law_stack", none), "_law_stack", "_law_stack", defArgs s_law_stack, defBody s_law_stack, defScope s_law_stack, [], []⟩) rfl
  have m_law_stack : mg "_law_stack" = some (.ref (He.ga K "_law_stack")) := He.glo_ok X G (c.fact 20 (f := .glo "_law_stack") rfl)
  obtain ⟨fd_law_within, D_law_within⟩ := c.def_ 21 (d := ⟨("_law_within", none), "_law_within", "_law_within", defArgs s_law_within, defBody s_law_within, defScope s_law_within, [], []⟩) rfl
  have m_law_within : mg "_law_within" = some (.ref (He.ga K "_law_within")) := He.glo_ok X G (c.fact 21 (f := .glo "_law_within") rfl)
  obtain ⟨fd_law_parts, D_law_parts⟩ := c.def_ 22 (d := ⟨("_law_parts", none), "_law_parts", "_law_parts", defArgs s_law_parts, defBody s_law_parts, defScope s_law_parts, [], []⟩) rfl
  have m_law_parts : mg "_law_parts" = some (.ref (He.ga K "_law_parts")) := He.glo_ok X G (c.fact 22 (f := .glo "_law_parts") rfl)
  obtain ⟨fd_law_told, D_law_told⟩ := c.def_ 23 (d := ⟨("_law_told", none), "_law_told", "_law_told", defArgs s_law_told, defBody s_law_told, defScope s_law_told, [], []⟩) rfl
  have m_law_told : mg "_law_told" = some (.ref (He.ga K "_law_told")) := He.glo_ok X G (c.fact 23 (f := .glo "_law_told") rfl)
  obtain ⟨fd_law_powers, D_law_powers⟩ := c.def_ 24 (d := ⟨("_law_powers", none), "_law_powers", "_law_powers", defArgs s_law_powers, defBody s_law_powers, defScope s_law_powers, [], []⟩) rfl
  have m_law_powers : mg "_law_powers" = some (.ref (He.ga K "_law_powers")) := He.glo_ok X G (c.fact 24 (f := .glo "_law_powers") rfl)
  obtain ⟨fd_law_numbers_of, D_law_numbers_of⟩ := c.def_ 25 (d := ⟨("_law_numbers_of", none), "_law_numbers_of", "_law_numbers_of", defArgs s_law_numbers_of, defBody s_law_numbers_of, defScope s_law_numbers_of, [], []⟩) rfl
  have m_law_numbers_of : mg "_law_numbers_of" = some (.ref (He.ga K "_law_numbers_of")) := He.glo_ok X G (c.fact 25 (f := .glo "_law_numbers_of") rfl)
  obtain ⟨fd_law, D_law⟩ := c.def_ 26 (d := ⟨("law", none), "law", "law", defArgs s_law, defBody s_law, defScope s_law, [], []⟩) rfl
  have m_law : mg "law" = some (.ref (He.ga K "law")) := He.glo_ok X G (c.fact 26 (f := .glo "law") rfl)
  have e := hfa.symm.trans m_law
  cases e
  have b := FunD.bindsA (ps := ["_law_script"]) D_law fun _ _ _ _ _ _ us hl => match us, hl with | [_], _ => rfl
  refine ⟨fd_law, fun s v => b s [v] rfl, fun base => ?_⟩
  have c_is_whole : Cl P w K mg base 1 "is_whole" F_is_whole := ok_is_whole D_is_whole m_is_whole B 
  have c_is_from : Cl P w K mg base 2 "is_from" F_is_from := ok_is_from D_is_from m_is_from B c_is_whole
  have c_are_rising : Cl P w K mg base 3 "are_rising" F_are_rising := ok_are_rising D_are_rising m_are_rising B c_is_from
  have c_are_faces : Cl P w K mg base 4 "are_faces" F_are_faces := ok_are_faces D_are_faces m_are_faces B c_are_rising
  have c_is_stack : Cl P w K mg base 5 "is_stack" F_is_stack := ok_is_stack D_is_stack m_is_stack B c_is_from c_are_faces
  have c_must_stack : Cl P w K mg base 6 "must_stack" F_must_stack := ok_must_stack D_must_stack m_must_stack B c_is_stack
  have c_picked : Cl P w K mg base 1 "picked" F_picked := ok_picked D_picked m_picked B 
  have c_all_parts : Cl P w K mg base 2 "all_parts" F_all_parts := ok_all_parts D_all_parts m_all_parts B c_picked
  have c_counts_of : Cl P w K mg base 3 "counts_of" F_counts_of := ok_counts_of D_counts_of m_counts_of B c_all_parts
  have c_counts : Cl P w K mg base 7 "counts" F_counts := ok_counts D_counts m_counts B c_must_stack c_counts_of
  have c_picks : Cl P w K mg base 1 "picks" F_picks := ok_picks D_picks m_picks B 
  have c_sign_of : Cl P w K mg base 1 "sign_of" F_sign_of := ok_sign_of D_sign_of m_sign_of B 
  have c_told_of : Cl P w K mg base 4 "told_of" F_told_of := ok_told_of D_told_of m_told_of B c_counts_of c_sign_of c_picks
  have c_told : Cl P w K mg base 7 "told" F_told := ok_told D_told m_told B c_must_stack c_told_of
  have c_counts_from : Cl P w K mg base 3 "counts_from" F_counts_from := ok_counts_from D_counts_from m_counts_from B c_is_from c_picks
  have c_law_same : Cl P w K mg base 9 "_law_same" (F_law_same 8) := ok_law_same D_law_same m_law_same B  8
  have c_law_cell : Cl P w K mg base 1 "_law_cell" F_law_cell := ok_law_cell D_law_cell m_law_cell B 
  have c_law_pen : Cl P w K mg base 1 "_law_pen" F_law_pen := ok_law_pen D_law_pen m_law_pen B 
  have c_law_draw : Cl P w K mg base 1 "_law_draw" F_law_draw := ok_law_draw D_law_draw m_law_draw B 
  have c_law_all : Cl P w K mg base 1 "_law_all" F_law_all := ok_law_all D_law_all m_law_all B 
  have c_law_stack : Cl P w K mg base 2 "_law_stack" F_law_stack := ok_law_stack D_law_stack m_law_stack B c_law_draw c_law_all
  have c_law_within : Cl P w K mg base 1 "_law_within" F_law_within := ok_law_within D_law_within m_law_within B 
  have c_law_parts : Cl P w K mg base 2 "_law_parts" F_law_parts := ok_law_parts D_law_parts m_law_parts B c_law_all c_law_within
  have c_law_told : Cl P w K mg base 3 "_law_told" F_law_told := ok_law_told D_law_told m_law_told B c_law_parts
  have c_law_powers : Cl P w K mg base 1 "_law_powers" F_law_powers := ok_law_powers D_law_powers m_law_powers B 
  have c_law_numbers_of : Cl P w K mg base 2 "_law_numbers_of" F_law_numbers_of := ok_law_numbers_of D_law_numbers_of m_law_numbers_of B c_law_draw
  exact ok_law D_law m_law B c_law_same c_counts_from c_law_powers c_law_cell c_law_pen c_law_stack c_told c_law_told c_counts c_law_numbers_of
end Lw
open PySem PySem.W PySem.Calls PyProof.Rows
theorem PySem.Challenge.cw_layfaces_k30_told_numbers_and_counts_holds : PySem.Challenge.rw_layfaces_k30_told_numbers_and_counts.Holds := by
  w_on; o_law
  refine HandSHeadRun.head_any (r := OpenLaw.row PySem.Challenge.rw_layfaces_k30_told_numbers_and_counts) (q := view (OpenLaw.row PySem.Challenge.rw_layfaces_k30_told_numbers_and_counts).prog [38]) (H := Hd.hk) (ob := Hd.ob) (M := 4000) (loose := Hd.loose) (d := HandSHeadRun.topDef (OpenLaw.row PySem.Challenge.rw_layfaces_k30_told_numbers_and_counts).prog 38) (kwd := []) Hd.ob_eq
    (by kernel_rfl) (fun s => by kernel_rfl) Hd.run (by kernel_rfl) (by kernel_rfl) (by kernel_rfl) (by rfl) (by first | assumption | decide +kernel) (by decide +kernel) ⟨rfl, rfl, rfl, rfl, rfl, by decide +kernel⟩ ?hw ?hc
  case hw => w_witness2
  case hc =>
    refine L2.walk_ofE (l := PySem.Challenge.rw_layfaces_k30_told_numbers_and_counts) (n := 63) (k := 10) (x := "_law_script") (CX := L2.CX0) rfl (by decide) (by kernel_rfl) ⟨rfl, by decide, by decide⟩ ?F (fun _ _ _ _ z => z)
    intro w mg fa h Y G hmg0
    obtain ⟨K, KX, c⟩ := Y
    have hmg : mg ("law" : PySem.Str) = some (.ref fa) := by
      have e : (HandSHeadRun.topDef (OpenLaw.row PySem.Challenge.rw_layfaces_k30_told_numbers_and_counts).prog 38).name = ("law" : PySem.Str) := by kernel_rfl
      rw [← e]
      exact hmg0
    obtain ⟨fd, hb, hF⟩ := Lw.facts (P := (PySem.Challenge.rw_layfaces_k30_told_numbers_and_counts).prog) (w := w) KX G hmg c
    exact ⟨K, fd, Lf.spD K Lw.F_law, KX, hb, fun H a ns hl _ hS => Lf.law_sp (Lw.E_law hl) hS, fun base _ _ => hF base⟩

