import PyProof.Rows.All
import Wide.All
import OpenK.AllK
import Wide.FinOn
import HandS.ForMost
import HandS.Exc
import HandS.TryOnly
import HandS.ExcOwn
import HandS.WordsExc
import HandS.DictComp
import HandS.TupAny
import HandS.TupMul
import HandS.More
import HandS.Zip
import HandS.Ends
import HandS.Style
import HandS.IsInst
import HandS.RaiseMore
import HandS.Finally
import PyProof.ReprRoads
import PyProof.ReprLen
import HandS.ExcIs
import HandS.ExcValue
import HandS.HeadEnd
import HandS.Head0
import HandS.Head1
import HandS.Head2
import HandS.HeadHook1
import HandS.HeadHook2
import HandS.Defaults
import PyProof.PvWalk
import PySem.Challenge.RW_everbetween_k61_books_turned_and_exchang
set_option Elab.async false
set_option linter.all false
set_option maxRecDepth 100000
set_option maxHeartbeats 8000000
set_option autoImplicit false
/-! FS, a layer of my own over HandS: values with tuples by what they hold, a store of objects by numbers, functions of these. -/
namespace FS
open PySem PySem.Spec PyProof.Rows L2

/-- a value: a tuple is what it holds, a changing thing a number of the store -/
inductive PV where
  | non | bl (b : Bool) | int (i : Int) | str (s : Str) | tup (xs : List PV) | obj (n : Nat) | ty (s : String) | glo (x : Str)
inductive SO where
  | lst (xs : List PV)
  | dct (kvs : List (PV × PV))
  | ins (C : Str) (fs : List (Str × PV))
  | frz (o : SO)
  | exn (n : Nat) (C : Str) (fs : List (Str × PV))
abbrev Sto := List SO
abbrev Env := List (Option PV)
inductive R (α : Type) where
  | ok (a : α) (s : Sto)
  | exc (C : Str) (fs : List (Str × PV)) (s : Sto)
  | bad
def R.bind {α β : Type} (r : R α) (k : α → Sto → R β) : R β :=
  match r with
  | .ok a s => k a s
  | .exc C fs s => .exc C fs s
  | .bad => .bad
/-- what an operation gives: a value, the store behind it; or nothing is said -/
abbrev O (α : Type) := Option (α × Sto)
def R.ofO {α : Type} : O α → R α
  | some (a, s) => .ok a s
  | none => .bad
inductive RS where
  | nx (ρ : Env) (s : Sto)
  | rt (v : PV) (s : Sto)
  | bk (ρ : Env) (s : Sto)
  | ct (ρ : Env) (s : Sto)
  | exc (C : Str) (fs : List (Str × PV)) (ρ : Env) (s : Sto)
  | bad

/-! ### how values and objects stand for the layer's -/
def KTup (K : PySem.W.Frag) (a : Addr) (vs : List V) : Prop :=
  ∃ (o : Obj) (its : Array Value) (n : Nat), K.lookup a = some o ∧ o.cls = .type "tuple" ∧ o.data = .seq its n ∧ its.size ≤ sizeLine ∧ Vals vs its.toList
def TupAt (K : PySem.W.Frag) (H : Hp) (a : Addr) (vs : List V) : Prop := H a = some (.tup vs) ∨ KTup K a vs
theorem TupAt.sq {K : PySem.W.Frag} {H : Hp} {a : Addr} {vs : List V} (h : TupAt K H a vs) : SqT K H a vs := h.imp .inl id

section
variable (K : PySem.W.Frag) (mg : Str → Option Value) (m : List Addr) (H : Hp)
mutual
inductive RV : PV → V → Prop
  | non : RV .non .non
  | bl (b : Bool) : RV (.bl b) (.bl b)
  | int (i : Int) : RV (.int i) (.int i)
  | str (s : Str) : RV (.str s) (.str s)
  | ty (s : String) : RV (.ty s) (.ty s)
  | obj {n : Nat} {a : Addr} : m[n]? = some a → RV (.obj n) (.ref a)
  | glo {x : Str} {a : Addr} : mg x = some (.ref a) → RV (.glo x) (.ref a)
  | tup {xs : List PV} {a : Addr} {vs : List V} : TupAt K H a vs → RVs xs vs → RV (.tup xs) (.ref a)
inductive RVs : List PV → List V → Prop
  | nil : RVs [] []
  | cons {x : PV} {v : V} {xs : List PV} {vs : List V} : RV x v → RVs xs vs → RVs (x :: xs) (v :: vs)
end
end

structure Ext (m : List Addr) (H : Hp) (m' : List Addr) (H' : Hp) : Prop where
  pre : ∃ l, m' = m ++ l
  tup : ∀ a xs, H a = some (.tup xs) → H' a = some (.tup xs)
  frz : ∀ a o u, H a = some (.frz o u) → H' a = some (.frz o u)
theorem Ext.refl (m : List Addr) (H : Hp) : Ext m H m H := ⟨⟨[], (List.append_nil m).symm⟩, fun _ _ h => h, fun _ _ _ h => h⟩
theorem Ext.trans {m m1 m2 : List Addr} {H H1 H2 : Hp} (a : Ext m H m1 H1) (b : Ext m1 H1 m2 H2) : Ext m H m2 H2 := by
  obtain ⟨l, rfl⟩ := a.pre
  obtain ⟨l', rfl⟩ := b.pre
  exact ⟨⟨l ++ l', List.append_assoc _ _ _⟩, fun x xs h => b.tup x xs (a.tup x xs h), fun x o u h => b.frz x o u (a.frz x o u h)⟩
theorem Ext.at {m m1 : List Addr} {H H1 : Hp} (e : Ext m H m1 H1) {n : Nat} {a : Addr} (h : m[n]? = some a) : m1[n]? = some a := by
  obtain ⟨l, rfl⟩ := e.pre
  rw [List.getElem?_append_left (List.getElem?_eq_some_iff.mp h).1]
  exact h

section
variable {K : PySem.W.Frag} {mg : Str → Option Value} {m m' : List Addr} {H H' : Hp}
theorem TupAt.mono (e : Ext m H m' H') {a : Addr} {vs : List V} (h : TupAt K H a vs) : TupAt K H' a vs := h.imp (e.tup a vs) id
mutual
theorem RV.mono (e : Ext m H m' H') : ∀ {x : PV} {v : V}, RV K mg m H x v → RV K mg m' H' x v
  | _, _, .non => .non
  | _, _, .bl b => .bl b
  | _, _, .int i => .int i
  | _, _, .str s => .str s
  | _, _, .ty s => .ty s
  | _, _, .obj h => .obj (e.at h)
  | _, _, .glo h => .glo h
  | _, _, .tup t r => .tup (t.mono e) (RVs.mono e r)
theorem RVs.mono (e : Ext m H m' H') : ∀ {x : List PV} {v : List V}, RVs K mg m H x v → RVs K mg m' H' x v
  | _, _, .nil => .nil
  | _, _, .cons h t => .cons (RV.mono e h) (RVs.mono e t)
end
theorem RVs.length : ∀ {x : List PV} {v : List V}, RVs K mg m H x v → x.length = v.length
  | _, _, .nil => rfl
  | _, _, .cons _ t => congrArg (· + 1) (RVs.length t)
theorem RVs.get : ∀ {xs : List PV} {vs : List V} {i : Nat} {x : PV}, RVs K mg m H xs vs → xs[i]? = some x → ∃ v, vs[i]? = some v ∧ RV K mg m H x v
  | _, _, 0, _, .cons h _, e => by simp at e; subst e; exact ⟨_, rfl, h⟩
  | _, _, i + 1, _, .cons _ t, e => by simpa using RVs.get t (by simpa using e)
theorem RVs.getV : ∀ {xs : List PV} {vs : List V} {i : Nat} {v : V}, RVs K mg m H xs vs → vs[i]? = some v → ∃ x, xs[i]? = some x ∧ RV K mg m H x v
  | _, _, 0, _, .cons h _, e => by simp at e; subst e; exact ⟨_, rfl, h⟩
  | _, _, i + 1, _, .cons _ t, e => by simpa using RVs.getV t (by simpa using e)
theorem RVs.append : ∀ {xs ys : List PV} {vs us : List V}, RVs K mg m H xs vs → RVs K mg m H ys us → RVs K mg m H (xs ++ ys) (vs ++ us)
  | _, _, _, _, .nil, s => s
  | _, _, _, _, .cons h t, s => .cons h (RVs.append t s)
theorem RVs.set : ∀ {xs : List PV} {vs : List V} {x : PV} {v : V} (i : Nat), RVs K mg m H xs vs → RV K mg m H x v → RVs K mg m H (xs.set i x) (vs.set i v)
  | _, _, _, _, _, .nil, _ => .nil
  | _, _, _, _, 0, .cons _ t, r => .cons r t
  | _, _, _, _, i + 1, .cons h t, r => .cons h (RVs.set i t r)
theorem RVs.take : ∀ {xs : List PV} {vs : List V} (i : Nat), RVs K mg m H xs vs → RVs K mg m H (xs.take i) (vs.take i)
  | _, _, 0, _ => .nil
  | _, _, i + 1, .nil => .nil
  | _, _, i + 1, .cons h t => .cons h (RVs.take i t)
theorem RVs.drop : ∀ {xs : List PV} {vs : List V} (i : Nat), RVs K mg m H xs vs → RVs K mg m H (xs.drop i) (vs.drop i)
  | _, _, 0, h => h
  | _, _, i + 1, .nil => .nil
  | _, _, i + 1, .cons _ t => RVs.drop i t
theorem RVs.reverse : ∀ {xs : List PV} {vs : List V}, RVs K mg m H xs vs → RVs K mg m H xs.reverse vs.reverse
  | _, _, .nil => .nil
  | _, _, .cons h t => by rw [List.reverse_cons, List.reverse_cons]; exact (RVs.reverse t).append (.cons h .nil)
theorem RVs.ints : ∀ (ns : List Int), RVs K mg m H (ns.map PV.int) (ns.map V.int)
  | [] => .nil
  | n :: r => .cons (.int n) (RVs.ints r)
end

/-- a dict's key -/
def keyP : Key → PV
  | .inl i => .int i
  | .inr s => .str s
section
variable (K : PySem.W.Frag) (mg : Str → Option Value) (m : List Addr) (H : Hp)
inductive RKV : List (PV × PV) → List (Key × V) → Prop
  | nil : RKV [] []
  | cons {k : Key} {x : PV} {v : V} {xs : List (PV × PV)} {vs : List (Key × V)} : RV K mg m H x v → RKV xs vs → RKV ((keyP k, x) :: xs) ((k, v) :: vs)
inductive RFs : List (Str × PV) → List (Str × V) → Prop
  | nil : RFs [] []
  | cons {f : Str} {x : PV} {v : V} {xs : List (Str × PV)} {vs : List (Str × V)} : RV K mg m H x v → RFs xs vs → RFs ((f, x) :: xs) ((f, v) :: vs)
/-- a caught exception that is kept as a value, by what lies at a -/
def ExK (cv : Value) (d : Option Addr) (a : Addr) : HO := .ext fun h => ∃ (oe : Obj) (vs : Array Value), h.get? a = some oe ∧ Zc cv d oe ∧ oe.data = .fields vs
/-- what stands at an address -/
inductive RO : SO → HO → Prop
  | lst {xs : List PV} {vs : List V} : RVs K mg m H xs vs → RO (.lst xs) (.lst vs)
  | dct {xs : List (PV × PV)} {vs : List (Key × V)} : RKV K mg m H xs vs → RO (.dct xs) (.dK vs)
  | ins {C : Str} {c dx : Addr} {fs : List (Str × PV)} {gs : List (Str × V)} : mg C = some (.ref c) → RFs K mg m H fs gs → RO (.ins C fs) (.ins c dx gs)
  | frz {o : SO} {u : HO} {ob : Obj} : RO o u → RO (.frz o) (.frz ob u)
  | exn {n : Nat} {C : Str} {c a : Addr} {d : Option Addr} {fs : List (Str × PV)} : m[n]? = some a → mg C = some (.ref c) → ((fs = [] ∧ d = none) ∨ ∃ dd ob gs, fs ≠ [] ∧ d = some dd ∧ H dd = some (.frz ob (.xd gs)) ∧ RFs K mg m H fs gs) → RO (.exn n C fs) (ExK (.ref c) d a)
/-- the store -/
structure Rep (st : Sto) : Prop where
  nd : m.Nodup
  len : m.length = st.length
  to : ∀ (n : Nat) (a : Addr) (o : SO), m[n]? = some a → st[n]? = some o → ∃ u, H a = some u ∧ RO K mg m H o u
/-- the slots -/
inductive RE : Env → L2.St → Prop
  | nil : RE [] []
  | emp {y : Option V} {ρ : Env} {σ : L2.St} : RE ρ σ → RE (none :: ρ) (y :: σ)
  | has {x : PV} {v : V} {ρ : Env} {σ : L2.St} : RV K mg m H x v → RE ρ σ → RE (some x :: ρ) (some v :: σ)
end
section
variable {K : PySem.W.Frag} {mg : Str → Option Value} {m m' : List Addr} {H H' : Hp}
theorem RKV.mono (e : Ext m H m' H') : ∀ {x : List (PV × PV)} {v : List (Key × V)}, RKV K mg m H x v → RKV K mg m' H' x v
  | _, _, .nil => .nil
  | _, _, .cons h t => .cons (h.mono e) (RKV.mono e t)
theorem RFs.mono (e : Ext m H m' H') : ∀ {x : List (Str × PV)} {v : List (Str × V)}, RFs K mg m H x v → RFs K mg m' H' x v
  | _, _, .nil => .nil
  | _, _, .cons h t => .cons (h.mono e) (RFs.mono e t)
theorem RO.mono (e : Ext m H m' H') : ∀ {o : SO} {u : HO}, RO K mg m H o u → RO K mg m' H' o u
  | _, _, .lst h => .lst (h.mono e)
  | _, _, .dct h => .dct (h.mono e)
  | _, _, .ins c h => .ins c (h.mono e)
  | _, _, .frz h => .frz (RO.mono e h)
  | _, _, .exn h c q => .exn (e.at h) c (q.imp id fun ⟨dd, ob, gs, e0, e1, e2, e3⟩ => ⟨dd, ob, gs, e0, e1, e.frz _ _ _ e2, e3.mono e⟩)
theorem RE.mono (e : Ext m H m' H') : ∀ {ρ : Env} {σ : L2.St}, RE K mg m H ρ σ → RE K mg m' H' ρ σ
  | _, _, .nil => .nil
  | _, _, .emp t => .emp (RE.mono e t)
  | _, _, .has h t => .has (h.mono e) (RE.mono e t)
theorem RE.get : ∀ {ρ : Env} {σ : L2.St} {i : Nat} {x : PV}, RE K mg m H ρ σ → ρ[i]? = some (some x) → ∃ v, σ[i]? = some (some v) ∧ RV K mg m H x v
  | _, _, 0, _, .has h _, e => by simp at e; subst e; exact ⟨_, rfl, h⟩
  | _, _, 0, _, .emp _, e => by simp at e
  | _, _, i + 1, _, .has _ t, e => by simpa using RE.get t (by simpa using e)
  | _, _, i + 1, _, .emp t, e => by simpa using RE.get t (by simpa using e)
theorem RE.set {x : PV} {v : V} (r : RV K mg m H x v) : ∀ {ρ : Env} {σ : L2.St} (i : Nat), RE K mg m H ρ σ → RE K mg m H (ρ.set i (some x)) (σ.set i (some v))
  | _, _, _, .nil => .nil
  | _, _, 0, .emp t => .has r t
  | _, _, 0, .has _ t => .has r t
  | _, _, i + 1, .emp t => .emp (RE.set r i t)
  | _, _, i + 1, .has h t => .has h (RE.set r i t)
theorem RE.unset : ∀ {ρ : Env} {σ : L2.St} (i : Nat), RE K mg m H ρ σ → RE K mg m H (ρ.set i none) (σ.set i none)
  | _, _, _, .nil => .nil
  | _, _, 0, .emp t => .emp t
  | _, _, 0, .has _ t => .emp t
  | _, _, i + 1, .emp t => .emp (RE.unset i t)
  | _, _, i + 1, .has h t => .has h (RE.unset i t)
theorem Rep.fresh {st : Sto} (r : Rep K mg m H st) {p : Addr} (h : H p = none) : p ∉ m := fun hp => by
  obtain ⟨n, hn, e⟩ := List.getElem_of_mem hp
  have h1 : m[n]? = some p := by rw [List.getElem?_eq_getElem hn, e]
  have h2 : n < st.length := by rw [← r.len]; exact hn
  obtain ⟨u, q, _⟩ := r.to n p st[n] h1 (List.getElem?_eq_getElem h2)
  rw [h] at q; cases q
theorem Rep.obj {st : Sto} (r : Rep K mg m H st) {n : Nat} {a : Addr} {o : SO} (h : m[n]? = some a) (hs : st[n]? = some o) : ∃ u, H a = some u ∧ RO K mg m H o u := r.to n a o h hs
theorem Ext.lay {p : Addr} {o : HO} (h : H p = none) (l : List Addr) : Ext m H (m ++ l) (upd H p o) := ⟨⟨l, rfl⟩, fun a xs e => by rw [upd_ne (ne_of_none e h)]; exact e, fun a o u e => by rw [upd_ne (ne_of_none e h)]; exact e⟩
theorem Ext.lay0 {p : Addr} {o : HO} (h : H p = none) : Ext m H m (upd H p o) := ⟨⟨[], (List.append_nil m).symm⟩, fun a xs e => by rw [upd_ne (ne_of_none e h)]; exact e, fun a o u e => by rw [upd_ne (ne_of_none e h)]; exact e⟩
/-- neither a tuple nor locked -/
def Wr (u : HO) : Prop := (∀ xs, u ≠ .tup xs) ∧ ∀ o v, u ≠ .frz o v
theorem Ext.wr {a : Addr} {o u : HO} (h : H a = some u) (hu : Wr u) : Ext m H m (upd H a o) := ⟨⟨[], (List.append_nil m).symm⟩, fun b xs e => by
  rw [upd_ne (ne_of e h fun z => hu.1 xs z.symm)]; exact e, fun b ob v e => by
  rw [upd_ne (ne_of e h fun z => hu.2 ob v z.symm)]; exact e⟩
/-- a new thing that is no object of the store (a tuple) -/
theorem Rep.lay0 {st : Sto} (r : Rep K mg m H st) {p : Addr} {o : HO} (h : H p = none) : Rep K mg m (upd H p o) st :=
  ⟨r.nd, r.len, fun n a so h1 h2 => by
    obtain ⟨u, q, ro⟩ := r.to n a so h1 h2
    exact ⟨u, by rw [upd_ne (ne_of_none q h)]; exact q, ro.mono (Ext.lay0 h)⟩⟩
/-- a new object of the store -/
theorem Rep.lay {st : Sto} (r : Rep K mg m H st) {p : Addr} {o : HO} {so : SO} (h : H p = none) (ho : RO K mg (m ++ [p]) (upd H p o) so o) : Rep K mg (m ++ [p]) (upd H p o) (st ++ [so]) := by
  have e : Ext m H (m ++ [p]) (upd H p o) := Ext.lay h [p]
  refine ⟨?_, by rw [List.length_append, List.length_append, r.len]; rfl, fun n a so' h1 h2 => ?_⟩
  · exact List.nodup_append.mpr ⟨r.nd, by simp, fun x hx y hy z => by simp at hy; subst hy; subst z; exact r.fresh h hx⟩
  · by_cases hn : n < m.length
    · rw [List.getElem?_append_left hn] at h1
      rw [List.getElem?_append_left (by rw [← r.len]; exact hn)] at h2
      obtain ⟨u, q, ro⟩ := r.to n a so' h1 h2
      exact ⟨u, by rw [upd_ne (ne_of_none q h)]; exact q, ro.mono e⟩
    · have hn' : n = m.length := by
        have := (List.getElem?_eq_some_iff.mp h1).1
        simp at this; omega
      subst hn'
      rw [List.getElem?_append_right (Nat.le_refl _)] at h1
      rw [List.getElem?_append_right (by rw [r.len]; exact Nat.le_refl _)] at h2
      simp [r.len] at h1 h2
      subst h1; subst h2
      exact ⟨o, upd_same, ho⟩
theorem Rep.newAt {st : Sto} (r : Rep K mg m H st) {p : Addr} : (m ++ [p])[st.length]? = some p := by
  rw [← r.len, List.getElem?_append_right (Nat.le_refl _)]; simp
/-- an object changes -/
theorem Rep.wr {st : Sto} (r : Rep K mg m H st) {n : Nat} {a : Addr} {u o : HO} {so : SO} (ha : m[n]? = some a) (h : H a = some u) (hu : Wr u) (ho : RO K mg m (upd H a o) so o) : Rep K mg m (upd H a o) (st.set n so) := by
  have e : Ext m H m (upd H a o) := Ext.wr h hu
  refine ⟨r.nd, by rw [List.length_set]; exact r.len, fun k b so' h1 h2 => ?_⟩
  by_cases hk : k = n
  · subst hk
    rw [ha] at h1; cases h1
    have hl : k < st.length := by have := (List.getElem?_eq_some_iff.mp h2).1; simpa using this
    rw [List.getElem?_set_self hl] at h2
    cases h2
    exact ⟨o, upd_same, ho⟩
  · rw [List.getElem?_set_ne (Ne.symm hk)] at h2
    obtain ⟨u', q, ro⟩ := r.to k b so' h1 h2
    have hb : b ≠ a := fun z => by
      subst z
      obtain ⟨l1, e1⟩ := List.getElem?_eq_some_iff.mp ha
      obtain ⟨l2, e2⟩ := List.getElem?_eq_some_iff.mp h1
      exact hk ((List.getElem_inj r.nd).mp (e2.trans e1.symm))
    exact ⟨u', by rw [upd_ne hb]; exact q, ro.mono e⟩
def SO.locked : SO → Bool
  | .frz _ => true
  | _ => false
theorem RO.wr {o : SO} {u : HO} (h : RO K mg m H o u) (hl : o.locked = false) : Wr u := by
  refine ⟨fun xs z => ?_, fun ob v z => ?_⟩
  · subst z; cases h
  · subst z
    cases h with
    | frz _ => cases hl
end
end FS

/-! FS: what a result must bring (Post), judgements, expressions. -/
namespace FS
open PySem PySem.Spec PyProof.Rows L2

section
variable (K : PySem.W.Frag) (mg : Str → Option Value)
/-- an exception as it lies: its class, its own dict's address -/
def ExcAt (m : List Addr) (H : Hp) (C : Str) (fs : List (Str × PV)) (cv : Value) (d : Option Addr) : Prop :=
  ∃ c, mg C = some (.ref c) ∧ cv = .ref c ∧ ((fs = [] ∧ d = none) ∨ ∃ dd gs, fs ≠ [] ∧ d = some dd ∧ H dd = some (.xd gs) ∧ RFs K mg m H fs gs)
abbrev Rel (α β : Type) := List Addr → Hp → α → β → Prop
def Post {α β : Type} (rel : Rel α β) (W : WX) (σ : L2.St) (m : List Addr) (H : Hp) (Q : β → Hp → Prop) : R α → Prop
  | .ok a s => ∀ m' H' x, Ext m H m' H' → Rep K mg m' H' s → rel m' H' a x → Q x H'
  | .exc C fs s => ∀ m' H' cv d, Ext m H m' H' → Rep K mg m' H' s → ExcAt K mg m' H' C fs cv d → W cv d σ H'
  | .bad => False
def lift {α β : Type} (rel : Rel α β) (W : WX) (g : Env → Sto → R α) : L2.St → Hp → (β → Hp → Prop) → Prop :=
  fun σ H Q => ∃ m ρ st, RE K mg m H ρ σ ∧ Rep K mg m H st ∧ Post K mg rel W σ m H Q (g ρ st)
def PostS (W : WX) (m : List Addr) (H : Hp) (D : Ends) : RS → Prop
  | .nx ρ s => ∀ m' H' σ', Ext m H m' H' → RE K mg m' H' ρ σ' → Rep K mg m' H' s → D.nx σ' H'
  | .bk ρ s => ∀ m' H' σ', Ext m H m' H' → RE K mg m' H' ρ σ' → Rep K mg m' H' s → D.bk σ' H'
  | .ct ρ s => ∀ m' H' σ', Ext m H m' H' → RE K mg m' H' ρ σ' → Rep K mg m' H' s → D.ct σ' H'
  | .rt v s => ∀ m' H' x, Ext m H m' H' → Rep K mg m' H' s → RV K mg m' H' v x → D.rt x H'
  | .exc C fs ρ s => ∀ m' H' cv d σ', Ext m H m' H' → RE K mg m' H' ρ σ' → Rep K mg m' H' s → ExcAt K mg m' H' C fs cv d → W cv d σ' H'
  | .bad => False
def liftS (W : WX) (g : Env → Sto → RS) : TS := fun D σ H => ∃ m ρ st, RE K mg m H ρ σ ∧ Rep K mg m H st ∧ PostS K mg W m H D (g ρ st)
end
abbrev relV (K : PySem.W.Frag) (mg : Str → Option Value) : Rel PV V := RV K mg
abbrev relVs (K : PySem.W.Frag) (mg : Str → Option Value) : Rel (List PV) (List V) := RVs K mg
abbrev relE {α : Type} : Rel α α := fun _ _ a b => a = b

section
variable {K : PySem.W.Frag} {mg : Str → Option Value} {W : WX} {σ : L2.St} {m m1 : List Addr} {H H1 : Hp}
theorem Post.ext {α β : Type} {rel : Rel α β} {Q : β → Hp → Prop} (e : Ext m H m1 H1) : ∀ {r : R α}, Post K mg rel W σ m H Q r → Post K mg rel W σ m1 H1 Q r
  | .ok _ _, h => fun m' H' x e' => h m' H' x (e.trans e')
  | .exc _ _ _, h => fun m' H' cv d e' => h m' H' cv d (e.trans e')
  | .bad, h => h
theorem PostS.ext {D : Ends} (e : Ext m H m1 H1) : ∀ {r : RS}, PostS K mg W m H D r → PostS K mg W m1 H1 D r
  | .nx _ _, h => fun m' H' x e' => h m' H' x (e.trans e')
  | .bk _ _, h => fun m' H' x e' => h m' H' x (e.trans e')
  | .ct _ _, h => fun m' H' x e' => h m' H' x (e.trans e')
  | .rt _ _, h => fun m' H' x e' => h m' H' x (e.trans e')
  | .exc _ _ _ _, h => fun m' H' cv d σ' e' => h m' H' cv d σ' (e.trans e')
  | .bad, h => h
theorem Post.mono {α β : Type} {rel : Rel α β} {Q Q' : β → Hp → Prop} (h : ∀ x H', Q x H' → Q' x H') : ∀ {r : R α}, Post K mg rel W σ m H Q r → Post K mg rel W σ m H Q' r
  | .ok _ _, p => fun m' H' x e r q => h _ _ (p m' H' x e r q)
  | .exc _ _ _, p => p
  | .bad, p => p
/-- a part of a reckoning, the rest behind it -/
theorem Post.split {α β γ δ : Type} {rel : Rel α β} {rel2 : Rel γ δ} {Q : δ → Hp → Prop} {Q1 : β → Hp → Prop} {ρ : Env} (hE : RE K mg m H ρ σ) {r : R α} {k : α → Sto → R γ} (h : Post K mg rel2 W σ m H Q (r.bind k))
    (hq : ∀ m1 H1 st a x, Ext m H m1 H1 → RE K mg m1 H1 ρ σ → Rep K mg m1 H1 st → rel m1 H1 a x → Post K mg rel2 W σ m1 H1 Q (k a st) → Q1 x H1) : Post K mg rel W σ m H Q1 r := by
  cases r with
  | ok a s => exact fun m1 H1 x e r rv => hq m1 H1 s a x e (hE.mono e) r rv (Post.ext e h)
  | exc C fs s => exact h
  | bad => exact h
/-- the same ahead of a statement's rest -/
theorem PostS.split {α β : Type} {rel : Rel α β} {D : Ends} {Q1 : β → Hp → Prop} {ρ : Env} (hE : RE K mg m H ρ σ) {r : R α} {k : α → Sto → RS}
    (h : PostS K mg W m H D (match r with | .ok a s => k a s | .exc C fs s => .exc C fs ρ s | .bad => .bad))
    (hq : ∀ m1 H1 st a x, Ext m H m1 H1 → RE K mg m1 H1 ρ σ → Rep K mg m1 H1 st → rel m1 H1 a x → PostS K mg W m1 H1 D (k a st) → Q1 x H1) : Post K mg rel W σ m H Q1 r := by
  cases r with
  | ok a s => exact fun m1 H1 x e r rv => hq m1 H1 s a x e (hE.mono e) r rv (PostS.ext e h)
  | exc C fs s => exact fun m' H' cv d e r x => h m' H' cv d σ e (hE.mono e) r x
  | bad => exact h
end
/-- r, then k; an exception at the slots ρ -/
def R.thenS {α : Type} (ρ : Env) (r : R α) (k : α → Sto → RS) : RS := match r with
  | .ok a s => k a s
  | .exc C fs s => .exc C fs ρ s
  | .bad => .bad
def RS.bind (r : RS) (k : Env → Sto → RS) : RS := match r with
  | .nx ρ s => k ρ s
  | .rt v s => .rt v s
  | .bk ρ s => .bk ρ s
  | .ct ρ s => .ct ρ s
  | .exc C fs ρ s => .exc C fs ρ s
  | .bad => .bad

/-! ### judgements -/
abbrev XF := Env → Sto → R PV
def FE (X : Cx) (W : WX) (e : Expr) (g : XF) : Prop := PE X e (lift X.K X.mg (relV X.K X.mg) W g)
def FT (X : Cx) (W : WX) (e : Expr) (g : Env → Sto → R Bool) : Prop := PT X e (lift X.K X.mg relE W g)
def FW (X : Cx) (W : WX) (e : Expr) (g : Env → Sto → R Bool) : Prop := PW X e (lift X.K X.mg relE W g)
def FA (X : Cx) (W : WX) (es : List Expr) (g : Env → Sto → R (List PV)) : Prop := PA X es (lift X.K X.mg (relVs X.K X.mg) W g)
def FO (X : Cx) (W : WX) (e : Option Expr) (g : Env → Sto → R (Option Int)) : Prop := PO X e (lift X.K X.mg relE W g)
def FS1 (X : Cx) (W : WX) (st : Stmt) (g : Env → Sto → RS) : Prop := PS X st (liftS X.K X.mg W g)
def FSs (X : Cx) (W : WX) (st : List Stmt) (g : Env → Sto → RS) : Prop := PSs X st (liftS X.K X.mg W g)
section
variable {X : Cx}
theorem _root_.L2.PE.wk {e : Expr} {t t' : TE} (h : PE X e t) (w : ∀ σ H Q, t' σ H Q → t σ H Q) : PE X e t' := ⟨fun pins s σ H Q I q => h.run pins s σ H Q I (w σ H Q q)⟩
theorem _root_.L2.PT.wk {e : Expr} {t t' : TT} (h : PT X e t) (w : ∀ σ H Q, t' σ H Q → t σ H Q) : PT X e t' := ⟨fun pins s σ H Q I q => h.run pins s σ H Q I (w σ H Q q)⟩
theorem _root_.L2.PW.wk {e : Expr} {t t' : TT} (h : PW X e t) (w : ∀ σ H Q, t' σ H Q → t σ H Q) : PW X e t' := ⟨fun wh pins s σ H Q I q => h.run wh pins s σ H Q I (w σ H Q q)⟩
theorem _root_.L2.PA.wk {e : List Expr} {t t' : TA} (h : PA X e t) (w : ∀ σ H Q, t' σ H Q → t σ H Q) : PA X e t' := ⟨fun pos pins s σ H Q I q => h.run pos pins s σ H Q I (w σ H Q q)⟩
theorem _root_.L2.PO.wk {e : Option Expr} {t t' : TO} (h : PO X e t) (w : ∀ σ H Q, t' σ H Q → t σ H Q) : PO X e t' := ⟨fun pins s σ H Q I q => h.run pins s σ H Q I (w σ H Q q)⟩
theorem _root_.L2.PS.wk {e : Stmt} {t t' : TS} (h : PS X e t) (w : ∀ D σ H, t' D σ H → t D σ H) : PS X e t' := ⟨fun pins s σ H D I q => h.run pins s σ H D I (w D σ H q)⟩
theorem _root_.L2.PSs.wk {e : List Stmt} {t t' : TS} (h : PSs X e t) (w : ∀ D σ H, t' D σ H → t D σ H) : PSs X e t' := ⟨fun pins s σ H D I q => h.run pins s σ H D I (w D σ H q)⟩
theorem _root_.L2.PG.wk {e : Expr} {t t' : TG} (h : PG X e t) (w : ∀ v σ H Q, t' v σ H Q → t v σ H Q) : PG X e t' := ⟨fun pins s σ H v u Q I r q => h.run pins s σ H v u Q I r (w v σ H Q q)⟩
theorem _root_.L2.PI.wk {tg e : Expr} {t t' : TI} (h : PI X tg e t) (w : ∀ σ H Q, t' σ H Q → t σ H Q) : PI X tg e t' := ⟨fun pins s σ H Q I q => h.run pins s σ H Q I (w σ H Q q)⟩
end

/-! ### names, constants -/
def eVar (i : Nat) : XF := fun ρ s => match ρ[i]? with
  | some (some v) => .ok v s
  | _ => .bad
def eC (v : PV) : XF := fun _ s => .ok v s
section
variable {X : Cx} {W : WX} {pos : Pos}
theorem fe_var (i : Nat) {x : Str} (hN : X.N[i]? = some x := by rfl) (hv : Vis X.env.scope x := by first | exact Or.inl rfl | exact Or.inr (Or.inl rfl) | exact Or.inr (Or.inr rfl)) (hd : (x == ("__debug__" : Str)) = false := by decide)
    (hcd : (x == ("__classdict__" : Str)) = false := by decide) : FE X W (.Name x pos) (eVar i) :=
  (pe_var hN hv hd hcd).wk fun σ H Q ⟨m, ρ, st, hE, hR, h⟩ => by
    unfold eVar at h
    split at h
    · rename_i v e
      obtain ⟨u, h1, rv⟩ := hE.get e
      exact ⟨u, h1, h m H u (Ext.refl m H) hR rv⟩
    · exact h.elim
theorem fe_c {e : Expr} {v : V} {u : PV} (h : PE X e (tC v)) (r : ∀ m H, RV X.K X.mg m H u v) : FE X W e (eC u) :=
  h.wk fun σ H Q ⟨m, ρ, st, hE, hR, h⟩ => h m H v (Ext.refl m H) hR (r m H)
theorem fe_int {i : Int} {j} : FE X W (.Constant (.int i) j pos) (eC (.int i)) := fe_c pe_int fun _ _ => .int i
theorem fe_bl {b : Bool} {j} : FE X W (.Constant (.bool b) j pos) (eC (.bl b)) := fe_c pe_bl fun _ _ => .bl b
theorem fe_non {j} : FE X W (.Constant .none j pos) (eC .non) := fe_c pe_non fun _ _ => .non
theorem fe_str {x : Str} {j} : FE X W (.Constant (.str x) j pos) (eC (.str x)) := fe_c pe_str fun _ _ => .str x
/-- a module's class or def as a value; a module's constant -/
theorem fe_glo {x : Str} {a : Addr} (hg : Gl X x) (hm : X.mg x = some (.ref a)) (hd : (x == ("__debug__" : Str)) = false := by decide) : FE X W (.Name x pos) (eC (.glo x)) := fe_c (pe_glob (v := V.ref a) hg hm rfl hd) fun _ _ => .glo hm
theorem fe_gc {x : Str} {u : Value} {v : V} {p : PV} (hg : Gl X x) (hm : X.mg x = some u) (r : RelV v u) (rv : ∀ m H, RV X.K X.mg m H p v) (hd : (x == ("__debug__" : Str)) = false := by decide) : FE X W (.Name x pos) (eC p) := fe_c (pe_glob hg hm r hd) rv
end

/-! ### operators by values -/
abbrev Op1 := Sto → PV → O PV
abbrev Op2 := Sto → PV → PV → O PV
abbrev OpN := Sto → List PV → O PV
section
variable (K : PySem.W.Frag) (mg : Str → Option Value)
def rOp1 (f : Op1) : V → Hp → VK → Prop := fun x H Q => ∃ m st u w st', Rep K mg m H st ∧ RV K mg m H u x ∧ f st u = some (w, st') ∧ ∀ m' H' z, Ext m H m' H' → Rep K mg m' H' st' → RV K mg m' H' w z → Q z H'
def rOp2 (f : Op2) : R2 := fun x y H Q => ∃ m st u v w st', Rep K mg m H st ∧ RV K mg m H u x ∧ RV K mg m H v y ∧ f st u v = some (w, st') ∧ ∀ m' H' z, Ext m H m' H' → Rep K mg m' H' st' → RV K mg m' H' w z → Q z H'
def rOpN (f : OpN) : List V → Hp → VK → Prop := fun xs H Q => ∃ m st us w st', Rep K mg m H st ∧ RVs K mg m H us xs ∧ f st us = some (w, st') ∧ ∀ m' H' z, Ext m H m' H' → Rep K mg m' H' st' → RV K mg m' H' w z → Q z H'
def rMt (f : Sto → PV → List PV → O PV) : V → List V → Hp → VK → Prop := fun x xs H Q => ∃ m st u us w st', Rep K mg m H st ∧ RV K mg m H u x ∧ RVs K mg m H us xs ∧ f st u us = some (w, st') ∧ ∀ m' H' z, Ext m H m' H' → Rep K mg m' H' st' → RV K mg m' H' w z → Q z H'
end
section
variable {K : PySem.W.Frag} {mg : Str → Option Value} {W : WX} {σ : L2.St} {m : List Addr} {H : Hp}
theorem Post.ofO {Q : VK} {o : O PV} (h : Post K mg (relV K mg) W σ m H Q (R.ofO o)) : ∃ w st', o = some (w, st') ∧ ∀ m' H' z, Ext m H m' H' → Rep K mg m' H' st' → RV K mg m' H' w z → Q z H' := by
  cases o with
  | none => exact h.elim
  | some p => exact ⟨p.1, p.2, rfl, h⟩
end
def eBin (f : Op2) (ga gb : XF) : XF := fun ρ s => (ga ρ s).bind fun x s1 => (gb ρ s1).bind fun y s2 => R.ofO (f s2 x y)
def eUn (f : Op1) (ga : XF) : XF := fun ρ s => (ga ρ s).bind fun x s1 => R.ofO (f s1 x)
def eCall (f : OpN) (ga : Env → Sto → R (List PV)) : XF := fun ρ s => (ga ρ s).bind fun xs s1 => R.ofO (f s1 xs)
def aNil : Env → Sto → R (List PV) := fun _ s => .ok [] s
def aCons (g : XF) (h : Env → Sto → R (List PV)) : Env → Sto → R (List PV) := fun ρ s => (g ρ s).bind fun x s1 => (h ρ s1).bind fun xs s2 => .ok (x :: xs) s2
/-- a chain of two comparisons -/
def eChain (f f' : Op2) (ga gb gc : XF) : XF := fun ρ s => (ga ρ s).bind fun x s1 => (gb ρ s1).bind fun y s2 => (R.ofO (f s2 x y)).bind fun k s3 => match k with
  | .bl true => (gc ρ s3).bind fun z s4 => R.ofO (f' s4 y z)
  | .bl false => .ok (.bl false) s3
  | _ => .bad
section
variable {X : Cx} {W : WX} {pos : Pos} {a b c e : Expr} {es : List Expr} {ga gb gc g : XF} {gs : Env → Sto → R (List PV)}
theorem tOp_of {f : Op2} {σ : L2.St} {H : Hp} {Q : VK} (h : lift X.K X.mg (relV X.K X.mg) W (eBin f ga gb) σ H Q) :
    tOp (rOp2 X.K X.mg f) (lift X.K X.mg (relV X.K X.mg) W ga) (lift X.K X.mg (relV X.K X.mg) W gb) σ H Q := by
  obtain ⟨m, ρ, st, hE, hR, hP⟩ := h
  refine ⟨m, ρ, st, hE, hR, Post.split hE hP fun m1 H1 s1 u x e1 hE1 hR1 ru hP1 => ?_⟩
  refine ⟨m1, ρ, s1, hE1, hR1, Post.split hE1 hP1 fun m2 H2 s2 v y e2 hE2 hR2 rv hP2 => ?_⟩
  obtain ⟨w, st', e, q⟩ := hP2.ofO
  exact ⟨m2, s2, u, v, w, st', hR2, ru.mono e2, rv, e, q⟩
theorem fe_bin {op : Operator} {f : Op2} (ho : OpR X (binaryOp op) (rOp2 X.K X.mg f)) (ha : FE X W a ga) (hb : FE X W b gb) : FE X W (.BinOp a op b pos) (eBin f ga gb) :=
  (pe_op ho ha hb).wk fun _ _ _ h => tOp_of h
theorem fe_cmp {op : CmpOp} {f : Op2} (ho : OpR X (compareOp op) (rOp2 X.K X.mg f)) (ha : FE X W a ga) (hb : FE X W b gb) (hm : behindInMarks op b = false := by first | exact nomark _ | rfl) : FE X W (.Compare a [op] [b] pos) (eBin f ga gb) :=
  (pe_cmpR ho ha hb hm).wk fun _ _ _ h => tOp_of h
theorem fe_chain {op op' : CmpOp} {f f' : Op2} (ho : OpR X (compareOp op) (rOp2 X.K X.mg f)) (ho' : OpR X (compareOp op') (rOp2 X.K X.mg f')) (ha : FE X W a ga) (hb : FE X W b gb) (hc : FE X W c gc) (hm : lastMarks [op, op'] [b, c] = false := by with_unfolding_all rfl) : FE X W (.Compare a [op, op'] [b, c] pos) (eChain f f' ga gb gc) :=
  (pe_chain ho ho' ha hb hc hm).wk fun σ H Q h => by
    obtain ⟨m, ρ, st, hE, hR, hP⟩ := h
    refine ⟨m, ρ, st, hE, hR, Post.split hE hP fun m1 H1 s1 u x e1 hE1 hR1 ru hP1 => ?_⟩
    refine ⟨m1, ρ, s1, hE1, hR1, Post.split hE1 hP1 fun m2 H2 s2 v y e2 hE2 hR2 rv hP2 => ?_⟩
    cases hf : f s2 u v with
    | none => rw [hf] at hP2; exact hP2.elim
    | some p =>
      obtain ⟨k, s3⟩ := p
      rw [hf] at hP2
      refine ⟨m2, s2, u, v, k, s3, hR2, ru.mono e2, rv, hf, fun m3 H3 z e3 hR3 rk => ?_⟩
      have hP3 := Post.ext e3 hP2
      cases rk with
      | bl kb =>
        refine ⟨kb, rfl, ?_⟩
        cases kb with
        | true =>
          rw [if_pos rfl]
          refine ⟨m3, ρ, s3, hE2.mono e3, hR3, Post.split (hE2.mono e3) hP3 fun m4 H4 s4 w' z' e4 hE4 hR4 rz hP4 => ?_⟩
          obtain ⟨w, st', e, q⟩ := hP4.ofO
          exact ⟨m4, s4, v, w', w, st', hR4, (rv.mono e3).mono e4, rz, e, q⟩
        | false =>
          rw [if_neg Bool.false_ne_true]
          exact hP3 m3 H3 _ (Ext.refl _ _) hR3 (.bl false)
      | _ => exact hP3.elim
theorem fe_un {op : UnaryOp} {f : Op1} (ho : UnR X (unaryOp op) (rOp1 X.K X.mg f)) (ha : FE X W a ga) : FE X W (.UnaryOp op a pos) (eUn f ga) :=
  (pe_un ho ha).wk fun σ H Q h => by
    obtain ⟨m, ρ, st, hE, hR, hP⟩ := h
    refine ⟨m, ρ, st, hE, hR, Post.split hE hP fun m1 H1 s1 u x e1 hE1 hR1 ru hP1 => ?_⟩
    obtain ⟨w, st', e, q⟩ := hP1.ofO
    exact ⟨m1, s1, u, w, st', hR1, ru, e, q⟩
theorem fa_nil : FA X W [] aNil := pa_nil.wk fun σ H Q ⟨m, ρ, st, hE, hR, hP⟩ => hP m H [] (Ext.refl _ _) hR .nil
theorem fa_cons (ha : FE X W e g) (hr : FA X W es gs) (hs : starEach (e :: es) X.env = (false, eval e X.env) :: starEach es X.env := by rfl) : FA X W (e :: es) (aCons g gs) :=
  (pa_cons ha hr hs).wk fun σ H Q h => by
    obtain ⟨m, ρ, st, hE, hR, hP⟩ := h
    refine ⟨m, ρ, st, hE, hR, Post.split hE hP fun m1 H1 s1 u x e1 hE1 hR1 ru hP1 => ?_⟩
    refine ⟨m1, ρ, s1, hE1, hR1, Post.split (rel := relVs X.K X.mg) hE1 hP1 fun m2 H2 s2 us xs e2 hE2 hR2 rus hP2 => ?_⟩
    exact hP2 m2 H2 _ (Ext.refl _ _) hR2 (.cons (ru.mono e2) rus)
theorem tCB_of {f : OpN} {σ : L2.St} {H : Hp} {Q : VK} (h : lift X.K X.mg (relV X.K X.mg) W (eCall f gs) σ H Q) : tCB (rOpN X.K X.mg f) (lift X.K X.mg (relVs X.K X.mg) W gs) σ H Q := by
  obtain ⟨m, ρ, st, hE, hR, hP⟩ := h
  refine ⟨m, ρ, st, hE, hR, Post.split hE hP fun m1 H1 s1 us xs e1 hE1 hR1 ru hP1 => ?_⟩
  obtain ⟨w, st', e, q⟩ := hP1.ofO
  exact ⟨m1, s1, us, w, st', hR1, ru, e, q⟩
/-- a built-in by its name -/
theorem fe_callB {x : Str} {id : String} {f : OpN} {p : Pos} (hc : CallR X (.builtin id) (rOpN X.K X.mg f)) (hg : Gl X x) (hm : X.mg x = none) (hv : bootBuiltins x = some (.builtin id)) (ha : FA X W (e :: es) gs)
    (hn : x ≠ "__name__" := by decide) (hdb : (x == ("__debug__" : Str)) = false := by decide) (he : starEach (e :: es) X.env = (false, eval e X.env) :: starEach es X.env := by rfl) (hpl : (backTo pos (starEach es X.env)).any (·.1) = false := by rfl) :
    FE X W (.Call (.Name x p) (e :: es) [] pos) (eCall f gs) := (pe_callB hc hg hm hv ha hn hdb he hpl).wk fun _ _ _ h => tCB_of h
theorem fe_callTy {x : Str} {T : String} {f : OpN} {p : Pos} (hc : CallR X (.type T) (rOpN X.K X.mg f)) (hg : Gl X x) (hm : X.mg x = none) (hv : bootBuiltins x = some (.type T)) (ha : FA X W (e :: es) gs)
    (hn : x ≠ "__name__" := by decide) (hdb : (x == ("__debug__" : Str)) = false := by decide) (he : starEach (e :: es) X.env = (false, eval e X.env) :: starEach es X.env := by rfl) (hpl : (backTo pos (starEach es X.env)).any (·.1) = false := by rfl) :
    FE X W (.Call (.Name x p) (e :: es) [] pos) (eCall f gs) := (pe_callTy hc hg hm hv ha hn hdb he hpl).wk fun _ _ _ h => tCB_of h
theorem fe_callTy0 {x : Str} {T : String} {f : OpN} {p : Pos} (hc : CallR X (.type T) (rOpN X.K X.mg f)) (hg : Gl X x) (hm : X.mg x = none) (hv : bootBuiltins x = some (.type T))
    (hn : x ≠ "__name__" := by decide) (hdb : (x == ("__debug__" : Str)) = false := by decide) :
    FE X W (.Call (.Name x p) [] [] pos) (eCall f aNil) := (pe_callTy0 hc hg hm hv hn hdb).wk fun σ H Q h => by
      obtain ⟨m, ρ, st, hE, hR, hP⟩ := h
      obtain ⟨w, st', e, q⟩ := Post.ofO (o := f st []) hP
      exact ⟨m, st, [], w, st', hR, .nil, e, q⟩
end

/-! ### and, or, not, if -/
def tOfE (g : XF) : Env → Sto → R Bool := fun ρ s => (g ρ s).bind fun v s1 => match v with
  | .bl b => .ok b s1
  | _ => .bad
def bNot (g : Env → Sto → R Bool) : Env → Sto → R Bool := fun ρ s => (g ρ s).bind fun b s1 => .ok (!b) s1
def bAnd (g h : Env → Sto → R Bool) : Env → Sto → R Bool := fun ρ s => (g ρ s).bind fun b s1 => if b then h ρ s1 else .ok false s1
def bOr (g h : Env → Sto → R Bool) : Env → Sto → R Bool := fun ρ s => (g ρ s).bind fun b s1 => if b then .ok true s1 else h ρ s1
def eAnd (g h : XF) : XF := fun ρ s => (g ρ s).bind fun b s1 => match b with
  | .bl true => h ρ s1
  | .bl false => .ok (.bl false) s1
  | _ => .bad
def eOr (g h : XF) : XF := fun ρ s => (g ρ s).bind fun b s1 => match b with
  | .bl true => .ok (.bl true) s1
  | .bl false => h ρ s1
  | _ => .bad
def eNot (g : XF) : XF := fun ρ s => (g ρ s).bind fun b s1 => match b with
  | .bl b => .ok (.bl (!b)) s1
  | _ => .bad
def eIf (t : Env → Sto → R Bool) (g h : XF) : XF := fun ρ s => (t ρ s).bind fun b s1 => if b then g ρ s1 else h ρ s1
section
variable {X : Cx} {W : WX} {pos : Pos} {a b c e : Expr} {rest : List Expr} {ga gb gc g : XF} {ta tb tc : Env → Sto → R Bool}
theorem ft_tB {σ : L2.St} {H : Hp} {Q : Bool → Hp → Prop} (h : lift X.K X.mg relE W (tOfE g) σ H Q) : tB (lift X.K X.mg (relV X.K X.mg) W g) σ H Q := by
  obtain ⟨m, ρ, st, hE, hR, hP⟩ := h
  refine ⟨m, ρ, st, hE, hR, Post.split hE hP fun m1 H1 s1 u x e1 hE1 hR1 ru hP1 => ?_⟩
  cases ru with
  | bl k => exact ⟨k, rfl, hP1 m1 H1 k (Ext.refl _ _) hR1 rfl⟩
  | _ => exact hP1.elim
theorem ft_val (h : FE X W e g) (he : ∀ whole, isTrue e X.env whole = (do let v ← whole; standAt e.pos; holding [v] (truthy v)) := by intro _; rfl) : FT X W e (tOfE g) := (pt_val h he).wk fun _ _ _ q => ft_tB q
theorem ft_cmp {op : CmpOp} {f : Op2} (ho : OpR X (compareOp op) (rOp2 X.K X.mg f)) (ha : FE X W a ga) (hb : FE X W b gb) (hm : behindInMarks op b = false := by first | exact nomark _ | rfl) : FT X W (.Compare a [op] [b] pos) (tOfE (eBin f ga gb)) :=
  (pt_cmpR ho ha hb hm).wk fun σ H Q q => by
    have q := ft_tB q
    obtain ⟨m, ρ, st, hE, hR, hP⟩ := q
    exact tOp_of ⟨m, ρ, st, hE, hR, hP⟩
theorem ft_not (h : FT X W a ta) : FT X W (.UnaryOp .Not a pos) (bNot ta) := (pt_not h).wk fun σ H Q h => by
  obtain ⟨m, ρ, st, hE, hR, hP⟩ := h
  refine ⟨m, ρ, st, hE, hR, Post.split hE hP fun m1 H1 s1 u x e1 hE1 hR1 ru hP1 => ?_⟩
  cases ru
  exact hP1 m1 H1 _ (Ext.refl _ _) hR1 rfl
theorem fw_and1 (h : FT X W a ta) : FW X W (.BoolOp .And [a] pos) ta := pw_and1 h
theorem fw_or1 (h : FT X W a ta) : FW X W (.BoolOp .Or [a] pos) ta := pw_or1 h
theorem fw_and (h : FT X W a ta) (hb : FW X W (.BoolOp .And (b :: rest) pos) tb) : FW X W (.BoolOp .And (a :: b :: rest) pos) (bAnd ta tb) := (pw_and h hb).wk fun σ H Q h => by
  obtain ⟨m, ρ, st, hE, hR, hP⟩ := h
  refine ⟨m, ρ, st, hE, hR, Post.split hE hP fun m1 H1 s1 u x e1 hE1 hR1 ru hP1 => ?_⟩
  cases ru
  cases u with
  | true => rw [if_pos rfl]; exact ⟨m1, ρ, s1, hE1, hR1, hP1⟩
  | false => rw [if_neg Bool.false_ne_true]; exact hP1 m1 H1 _ (Ext.refl _ _) hR1 rfl
theorem fw_or (h : FT X W a ta) (hb : FW X W (.BoolOp .Or (b :: rest) pos) tb) : FW X W (.BoolOp .Or (a :: b :: rest) pos) (bOr ta tb) := (pw_or h hb).wk fun σ H Q h => by
  obtain ⟨m, ρ, st, hE, hR, hP⟩ := h
  refine ⟨m, ρ, st, hE, hR, Post.split hE hP fun m1 H1 s1 u x e1 hE1 hR1 ru hP1 => ?_⟩
  cases ru
  cases u with
  | true => rw [if_pos rfl]; exact hP1 m1 H1 _ (Ext.refl _ _) hR1 rfl
  | false => rw [if_neg Bool.false_ne_true]; exact ⟨m1, ρ, s1, hE1, hR1, hP1⟩
theorem ft_w (h : FW X W e ta) : FT X W e ta := h.pt
theorem fe_one {op} (h : FE X W a g) : FE X W (.BoolOp op [a] pos) g := pe_one h
theorem fe_and (ha : FE X W a ga) (hb : FE X W (.BoolOp .And (b :: rest) pos) gb) : FE X W (.BoolOp .And (a :: b :: rest) pos) (eAnd ga gb) := (pe_and ha hb).wk fun σ H Q h => by
  obtain ⟨m, ρ, st, hE, hR, hP⟩ := h
  refine ⟨m, ρ, st, hE, hR, Post.split hE hP fun m1 H1 s1 u x e1 hE1 hR1 ru hP1 => ?_⟩
  cases ru with
  | bl k =>
    refine ⟨k, rfl, ?_⟩
    cases k with
    | true => rw [if_pos rfl]; exact ⟨m1, ρ, s1, hE1, hR1, hP1⟩
    | false => rw [if_neg Bool.false_ne_true]; exact hP1 m1 H1 _ (Ext.refl _ _) hR1 (.bl false)
  | _ => exact hP1.elim
theorem fe_or (ha : FE X W a ga) (hb : FE X W (.BoolOp .Or (b :: rest) pos) gb) : FE X W (.BoolOp .Or (a :: b :: rest) pos) (eOr ga gb) := (pe_or ha hb).wk fun σ H Q h => by
  obtain ⟨m, ρ, st, hE, hR, hP⟩ := h
  refine ⟨m, ρ, st, hE, hR, Post.split hE hP fun m1 H1 s1 u x e1 hE1 hR1 ru hP1 => ?_⟩
  cases ru with
  | bl k =>
    refine ⟨k, rfl, ?_⟩
    cases k with
    | true => rw [if_pos rfl]; exact hP1 m1 H1 _ (Ext.refl _ _) hR1 (.bl true)
    | false => rw [if_neg Bool.false_ne_true]; exact ⟨m1, ρ, s1, hE1, hR1, hP1⟩
  | _ => exact hP1.elim
theorem fe_not (ha : FE X W a ga) : FE X W (.UnaryOp .Not a pos) (eNot ga) := (pe_not ha).wk fun σ H Q h => by
  obtain ⟨m, ρ, st, hE, hR, hP⟩ := h
  refine ⟨m, ρ, st, hE, hR, Post.split hE hP fun m1 H1 s1 u x e1 hE1 hR1 ru hP1 => ?_⟩
  cases ru with
  | bl k => exact ⟨k, rfl, hP1 m1 H1 _ (Ext.refl _ _) hR1 (.bl _)⟩
  | _ => exact hP1.elim
theorem fe_if (hc : FT X W c tc) (ha : FE X W a ga) (hb : FE X W b gb) : FE X W (.IfExp c a b pos) (eIf tc ga gb) := (pe_ifExp hc ha hb).wk fun σ H Q h => by
  obtain ⟨m, ρ, st, hE, hR, hP⟩ := h
  refine ⟨m, ρ, st, hE, hR, Post.split hE hP fun m1 H1 s1 u x e1 hE1 hR1 ru hP1 => ?_⟩
  cases ru
  cases u with
  | true => rw [if_pos rfl]; exact ⟨m1, ρ, s1, hE1, hR1, hP1⟩
  | false => rw [if_neg Bool.false_ne_true]; exact ⟨m1, ρ, s1, hE1, hR1, hP1⟩
end

/-! ### displays, subscripts, slices, methods of built-in types -/
def eTup (g : Env → Sto → R (List PV)) : XF := fun ρ s => (g ρ s).bind fun xs s1 => if xs.length ≤ sizeLine then .ok (.tup xs) s1 else .bad
def eLst (g : Env → Sto → R (List PV)) : XF := fun ρ s => (g ρ s).bind fun xs s1 => if xs.length ≤ sizeLine then .ok (.obj s1.length) (s1 ++ [.lst xs]) else .bad
def oNone : Env → Sto → R (Option Int) := fun _ s => .ok none s
def oSome (g : XF) : Env → Sto → R (Option Int) := fun ρ s => (g ρ s).bind fun v s1 => match v with
  | .int i => .ok (some i) s1
  | _ => .bad
def eSl (f : Sto → PV → Option Int → Option Int → O PV) (g : XF) (gl gh : Env → Sto → R (Option Int)) : XF := fun ρ s => (g ρ s).bind fun x s1 => (gl ρ s1).bind fun l s2 => (gh ρ s2).bind fun h s3 => R.ofO (f s3 x l h)
def rSlF (K : PySem.W.Frag) (mg : Str → Option Value) (f : Sto → PV → Option Int → Option Int → O PV) : V → Option Int → Option Int → Hp → VK → Prop := fun x l h H Q =>
  ∃ m st u w st', Rep K mg m H st ∧ RV K mg m H u x ∧ f st u l h = some (w, st') ∧ ∀ m' H' z, Ext m H m' H' → Rep K mg m' H' st' → RV K mg m' H' w z → Q z H'
/-- a value of a built-in type, as a method's receiver -/
def isTy (T : String) (s : Sto) : PV → Bool
  | .str _ => T == "str"
  | .int _ => T == "int"
  | .obj n => match s[n]? with
    | some (.lst _) => T == "list"
    | some (.frz (.lst _)) => T == "list"
    | some (.dct _) => T == "dict"
    | _ => false
  | _ => false
def eMt (T : String) (f : Sto → PV → List PV → O PV) (g : XF) (ga : Env → Sto → R (List PV)) : XF := fun ρ s => (g ρ s).bind fun x s1 => if isTy T s1 x then (ga ρ s1).bind fun xs s2 => R.ofO (f s2 x xs) else .bad
section
variable {X : Cx} {W : WX} {pos : Pos} {a b e : Expr} {es : List Expr} {ga gb g : XF} {gs : Env → Sto → R (List PV)} {lo hi : Option Expr} {gl gh : Env → Sto → R (Option Int)}
theorem fe_tup {x1} (h : FA X W es gs) : FE X W (.Tuple es x1 pos) (eTup gs) := (pe_tup h).wk fun σ H Q h => by
  obtain ⟨m, ρ, st, hE, hR, hP⟩ := h
  refine ⟨m, ρ, st, hE, hR, Post.split hE hP fun m1 H1 s1 us xs e1 hE1 hR1 ru hP1 => ?_⟩
  by_cases hl : us.length ≤ sizeLine
  · simp only [hl, if_true] at hP1
    refine ⟨by rw [← ru.length]; exact hl, fun p hp => ?_⟩
    have e := Ext.lay0 (m := m1) (o := .tup xs) hp
    exact hP1 m1 _ (.ref p) e (hR1.lay0 hp) (.tup (.inl upd_same) (ru.mono e))
  · simp only [hl, if_false] at hP1
    exact hP1.elim
theorem fe_lst (h : FA X W es gs) : FE X W (.List es pos) (eLst gs) := (pe_lst h).wk fun σ H Q h => by
  obtain ⟨m, ρ, st, hE, hR, hP⟩ := h
  refine ⟨m, ρ, st, hE, hR, Post.split hE hP fun m1 H1 s1 us xs e1 hE1 hR1 ru hP1 => ?_⟩
  by_cases hl : us.length ≤ sizeLine
  · simp only [hl, if_true] at hP1
    refine ⟨by rw [← ru.length]; exact hl, fun p hp => ?_⟩
    have e := Ext.lay (m := m1) (o := .lst xs) hp [p]
    exact hP1 _ _ (.ref p) e (hR1.lay hp (.lst (ru.mono e))) (.obj hR1.newAt)
  · simp only [hl, if_false] at hP1
    exact hP1.elim
theorem fe_ix {f : Op2} (hr : IxR X (rOp2 X.K X.mg f)) (ha : FE X W a ga) (hb : FE X W b gb) (hs : PlainIx b := by intro _ _; rfl) : FE X W (.Subscript a b pos) (eBin f ga gb) := (pe_ix hr ha hb hs).wk fun _ _ _ h => tOp_of h
theorem fo_none : FO X W none oNone := po_none.wk fun σ H Q ⟨m, ρ, st, hE, hR, hP⟩ => hP m H none (Ext.refl _ _) hR rfl
theorem fo_some (h : FE X W e g) : FO X W (some e) (oSome g) := (po_some h).wk fun σ H Q h => by
  obtain ⟨m, ρ, st, hE, hR, hP⟩ := h
  refine ⟨m, ρ, st, hE, hR, Post.split hE hP fun m1 H1 s1 u x e1 hE1 hR1 ru hP1 => ?_⟩
  cases ru with
  | int i => exact ⟨i, rfl, hP1 m1 H1 _ (Ext.refl _ _) hR1 rfl⟩
  | _ => exact hP1.elim
theorem fe_slice {f : Sto → PV → Option Int → Option Int → O PV} {p2 : Pos} (hr : SlR X (rSlF X.K X.mg f)) (he : FE X W e g) (hl : FO X W lo gl) (hh : FO X W hi gh) : FE X W (.Subscript e (.Slice lo hi none p2) pos) (eSl f g gl gh) :=
  (pe_slice hr he hl hh).wk fun σ H Q h => by
    obtain ⟨m, ρ, st, hE, hR, hP⟩ := h
    refine ⟨m, ρ, st, hE, hR, Post.split hE hP fun m1 H1 s1 u x e1 hE1 hR1 ru hP1 => ?_⟩
    refine ⟨m1, ρ, s1, hE1, hR1, Post.split (rel := relE) hE1 hP1 fun m2 H2 s2 l l' e2 hE2 hR2 el hP2 => ?_⟩
    cases el
    refine ⟨m2, ρ, s2, hE2, hR2, Post.split (rel := relE) hE2 hP2 fun m3 H3 s3 h h' e3 hE3 hR3 eh hP3 => ?_⟩
    cases eh
    obtain ⟨w, st', e, q⟩ := hP3.ofO
    exact ⟨m3, s3, u, w, st', hR3, (ru.mono e2).mono e3, e, q⟩
theorem isTy_ok {T : String} {m : List Addr} {H : Hp} {s : Sto} {u : PV} {x : V} (hR : Rep X.K X.mg m H s) (r : RV X.K X.mg m H u x) (h : isTy T s u = true) : tyV X.K T x H := by
  cases r with
  | str z => exact eq_of_beq h
  | int i => exact eq_of_beq h
  | @obj n a hn =>
    replace h : (match s[n]? with
      | some (.lst _) => T == "list"
      | some (.frz (.lst _)) => T == "list"
      | some (.dct _) => T == "dict"
      | _ => false) = true := h
    split at h
    · rename_i xs e
      obtain ⟨u, hu, ro⟩ := hR.to _ _ _ hn e
      cases ro
      exact .inl ⟨eq_of_beq h, _, SqL.of hu⟩
    · rename_i xs e
      obtain ⟨u, hu, ro⟩ := hR.to _ _ _ hn e
      cases ro with
      | frz ro =>
        cases ro
        exact .inl ⟨eq_of_beq h, _, .inl (.inr ⟨_, hu⟩)⟩
    · rename_i xs e
      obtain ⟨u, hu, ro⟩ := hR.to _ _ _ hn e
      cases ro
      exact .inr (.inr (.inl ⟨eq_of_beq h, .inl ⟨_, hu⟩⟩))
    · cases h
  | _ => cases h
theorem fe_mt {T id : String} {f : Sto → PV → List PV → O PV} {name : Str} {apos : Pos} (pa : PlainAttrs T) (slot : Slot T name id) (hty : typeOf (.builtin id) = pure (.type "method_descriptor")) (hm : MtR X id (rMt X.K X.mg f)) (ho : FE X W a g) (ha : FA X W (e :: es) gs)
    (hbase : attributeBase a name X.env (eval a X.env) = eval a X.env := by rfl)
    (hfew : ((backTo pos (starEach (e :: es) X.env)).all (fun x => !x.1) && (backToKw pos (keywordEach [] X.env)).all (fun x => x.1.isSome)
      && decide ((e :: es).length + ([] : List Keyword).length + (if ([] : List Keyword).isEmpty then 0 else 1) < 30)) = true := by rfl)
    (hline : (apos.endLine == pos.line) = true := by rfl) (hs : starEach (e :: es) X.env = (false, eval e X.env) :: starEach es X.env := by rfl) (hplain : (backTo pos (starEach es X.env)).any (·.1) = false := by rfl) :
    FE X W (.Call (.Attribute a name apos) (e :: es) [] pos) (eMt T f g gs) := (pe_bm pa slot hty hm ho ha hbase hfew hline hs hplain).wk fun σ H Q h => by
  obtain ⟨m, ρ, st, hE, hR, hP⟩ := h
  refine ⟨m, ρ, st, hE, hR, Post.split hE hP fun m1 H1 s1 u x e1 hE1 hR1 ru hP1 => ?_⟩
  cases ht : isTy T s1 u with
  | false => rw [ht] at hP1; exact hP1.elim
  | true =>
    rw [ht] at hP1
    refine ⟨isTy_ok hR1 ru ht, m1, ρ, s1, hE1, hR1, Post.split (rel := relVs X.K X.mg) hE1 hP1 fun m2 H2 s2 us xs e2 hE2 hR2 rus hP2 => ?_⟩
    obtain ⟨w, st', e, q⟩ := hP2.ofO
    exact ⟨m2, s2, u, us, w, st', hR2, ru.mono e2, rus, e, q⟩
theorem fe_mt0 {T id : String} {f : Sto → PV → List PV → O PV} {name : Str} {apos : Pos} (pa : PlainAttrs T) (slot : Slot T name id) (hty : typeOf (.builtin id) = pure (.type "method_descriptor")) (hm : MtR X id (rMt X.K X.mg f)) (ho : FE X W a g)
    (hbase : attributeBase a name X.env (eval a X.env) = eval a X.env := by rfl) (hline : (apos.endLine == pos.line) = true := by rfl) :
    FE X W (.Call (.Attribute a name apos) [] [] pos) (eMt T f g aNil) := (pe_bm0 pa slot hty hm ho hbase hline).wk fun σ H Q h => by
  obtain ⟨m, ρ, st, hE, hR, hP⟩ := h
  refine ⟨m, ρ, st, hE, hR, Post.split hE hP fun m1 H1 s1 u x e1 hE1 hR1 ru hP1 => ?_⟩
  cases ht : isTy T s1 u with
  | false => rw [ht] at hP1; exact hP1.elim
  | true =>
    rw [ht] at hP1
    refine ⟨isTy_ok hR1 ru ht, ?_⟩
    obtain ⟨w, st', e, q⟩ := Post.ofO (o := f s1 u []) hP1
    exact ⟨m1, s1, u, [], w, st', hR1, ru, .nil, e, q⟩
end
end FS

/-! FS: targets, statements, loops, comprehensions, locks. -/
namespace FS
open PySem PySem.Spec PyProof.Rows L2

/-! ### patterns: names and tuples of patterns -/
inductive Pat where
  | nm (i : Nat)
  | tp (ps : List Pat)
mutual
def Pat.run : Pat → PV → Env → Option Env
  | .nm i, v, ρ => some (ρ.set i (some v))
  | .tp ps, v, ρ => match v with
    | .tup xs => Pat.runs ps xs ρ
    | _ => none
def Pat.runs : List Pat → List PV → Env → Option Env
  | [], [], ρ => some ρ
  | p :: ps, x :: xs, ρ => (p.run x ρ).bind fun ρ' => Pat.runs ps xs ρ'
  | _, _, _ => none
end
mutual
def Pat.slots : Pat → List Nat
  | .nm i => [i]
  | .tp ps => Pat.slotss ps
def Pat.slotss : List Pat → List Nat
  | [] => []
  | p :: ps => p.slots ++ Pat.slotss ps
end
mutual
def Pat.g (K : PySem.W.Frag) : Pat → TG
  | .nm i => gName i
  | .tp ps => gTup K ps.length (Pat.gs K ps)
def Pat.gs (K : PySem.W.Frag) : List Pat → TGs
  | [] => gNil
  | p :: ps => gCons (Pat.g K p) (Pat.gs K ps)
end
theorem wipe_set {σ : L2.St} {i : Nat} {x : Option V} : ∀ {vs : List Nat}, i ∈ vs → wipe (σ.set i x) vs = wipe σ vs
  | v :: vs, h => by
    show (wipe (σ.set i x) vs).set v none = (wipe σ vs).set v none
    by_cases hi : i ∈ vs
    · rw [wipe_set hi]
    · have hv : v = i := by
        rcases List.mem_cons.mp h with e | e
        · exact e.symm
        · exact absurd e hi
      subst hv
      have key : ∀ ws : List Nat, v ∉ ws → wipe (σ.set v x) ws = (wipe σ ws).set v x := by
        intro ws
        induction ws with
        | nil => intro _; rfl
        | cons w ws ih =>
          intro hw
          show (wipe (σ.set v x) ws).set w none = ((wipe σ ws).set w none).set v x
          rw [ih fun z => hw (List.mem_cons_of_mem _ z), List.set_comm _ _ (fun z => hw (by simp [z]))]
      rw [key vs hi, List.set_set]
section
variable {K : PySem.W.Frag} {mg : Str → Option Value} {m : List Addr} {H : Hp}
mutual
theorem Pat.ok : ∀ (p : Pat) {v : PV} {x : V} {ρ ρ' : Env} {σ : L2.St} {Q : L2.St → Hp → Prop}, RV K mg m H v x → RE K mg m H ρ σ → p.run v ρ = some ρ' →
    (∀ σ', RE K mg m H ρ' σ' → (∀ vs, (∀ i ∈ p.slots, i ∈ vs) → wipe σ' vs = wipe σ vs) → Q σ' H) → p.g K x σ H Q
  | .nm i, v, x, ρ, ρ', σ, Q, r, hE, e, q => by
    cases e
    exact q _ (hE.set r i) fun vs h => wipe_set (h i List.mem_cons_self)
  | .tp ps, v, x, ρ, ρ', σ, Q, r, hE, e, q => by
    cases r with
    | @tup xs a vs ta rs =>
      have e : Pat.runs ps xs ρ = some ρ' := e
      refine ⟨a, vs, rfl, ta.sq, ?_, Pat.oks ps rs hE e q⟩
      rw [← rs.length]
      exact Pat.runs_len ps e
    | _ => cases e
theorem Pat.oks : ∀ (ps : List Pat) {v : List PV} {x : List V} {ρ ρ' : Env} {σ : L2.St} {Q : L2.St → Hp → Prop}, RVs K mg m H v x → RE K mg m H ρ σ → Pat.runs ps v ρ = some ρ' →
    (∀ σ', RE K mg m H ρ' σ' → (∀ vs, (∀ i ∈ Pat.slotss ps, i ∈ vs) → wipe σ' vs = wipe σ vs) → Q σ' H) → Pat.gs K ps x σ H Q
  | [], v, x, ρ, ρ', σ, Q, r, hE, e, q => by
    cases r with
    | nil =>
      cases e
      exact ⟨rfl, q σ hE fun _ _ => rfl⟩
    | cons _ _ => cases e
  | p :: ps, v, x, ρ, ρ', σ, Q, r, hE, e, q => by
    cases r with
    | nil => cases e
    | @cons y u ys us r rs =>
      have e : ((p.run y ρ).bind fun ρ' => Pat.runs ps ys ρ') = some ρ' := e
      cases h1 : p.run y ρ with
      | none => rw [h1] at e; cases e
      | some ρ1 =>
        rw [h1] at e
        have e : Pat.runs ps ys ρ1 = some ρ' := e
        refine ⟨u, us, rfl, Pat.ok p r hE h1 fun σ1 hE1 w1 => ?_⟩
        refine Pat.oks ps rs hE1 e fun σ2 hE2 w2 => q σ2 hE2 fun vs hv => ?_
        rw [w2 vs fun i hi => hv i (List.mem_append_right _ hi), w1 vs fun i hi => hv i (List.mem_append_left _ hi)]
theorem Pat.runs_len : ∀ (ps : List Pat) {xs : List PV} {ρ ρ' : Env}, Pat.runs ps xs ρ = some ρ' → xs.length = ps.length
  | [], [], _, _, _ => rfl
  | [], _ :: _, _, _, e => nomatch e
  | _ :: _, [], _, _, e => nomatch e
  | p :: ps, x :: xs, ρ, ρ', e => by
    have e : ((p.run x ρ).bind fun ρ' => Pat.runs ps xs ρ') = some ρ' := e
    cases h1 : p.run x ρ with
    | none => rw [h1] at e; cases e
    | some ρ1 =>
      rw [h1] at e
      exact congrArg (· + 1) (Pat.runs_len ps e)
end
end
def FP (X : Cx) (tg : Expr) (p : Pat) : Prop := PG X tg (p.g X.K)
def FPs (X : Cx) (tg : List Expr) (p : List Pat) : Prop := PGs X tg (Pat.gs X.K p)
section
variable {X : Cx} {pos : Pos}
theorem fp_nm {i : Nat} {x : Str} (hN : X.N.Nodup) (hi : X.N[i]? = some x := by rfl) (hx : Loc X.env.scope x := by first | exact .inl rfl | exact .inr rfl) (hf : X.fn x = true ∨ X.env.scope.names.lookup x = some .local := by first | exact .inl rfl | exact .inr rfl | assumption) : FP X (.Name x pos) (.nm i) := pg_name hN hi hx hf
theorem fps_nil : FPs X [] [] := pgs_nil
theorem fps_cons {e : Expr} {es : List Expr} {p : Pat} {ps : List Pat} (h1 : FP X e p) (h2 : FPs X es ps) (hs : (assignEach (e :: es) X.env).map (·.2) = assign e X.env :: (assignEach es X.env).map (·.2) := by rfl) : FPs X (e :: es) (p :: ps) := pgs_cons h1 h2 hs
theorem fp_tp {es : List Expr} {k : Nat} {ps : List Pat} (hc : X.calm = true) (h : FPs X es ps) (hn : (assignEach es X.env).length = ps.length := by rfl) (hst : (assignEach es X.env).findIdx? (·.1) = none := by rfl) : FP X (.Tuple es k pos) (.tp ps) := pg_tup hc h hn hst
end

/-! ### statements -/
abbrev SF := Env → Sto → RS
def sNext : SF := fun ρ s => .nx ρ s
def sSeq (g h : SF) : SF := fun ρ s => (g ρ s).bind h
def sExpr (g : XF) : SF := fun ρ s => (g ρ s).thenS ρ fun _ s1 => .nx ρ s1
def sRet (g : XF) : SF := fun ρ s => (g ρ s).thenS ρ fun v s1 => .rt v s1
def sRetN : SF := fun _ s => .rt .non s
def sIf (t : Env → Sto → R Bool) (g h : SF) : SF := fun ρ s => (t ρ s).thenS ρ fun b s1 => if b then g ρ s1 else h ρ s1
def sBreak : SF := fun ρ s => .bk ρ s
def sCont : SF := fun ρ s => .ct ρ s
def sSet (i : Nat) (g : XF) : SF := fun ρ s => (g ρ s).thenS ρ fun v s1 => .nx (ρ.set i (some v)) s1
def sAsg (p : Pat) (g : XF) : SF := fun ρ s => (g ρ s).thenS ρ fun v s1 => match p.run v ρ with
  | some ρ' => .nx ρ' s1
  | none => .bad
def sPar (i j : Nat) (g : Env → Sto → R (List PV)) : SF := fun ρ s => (g ρ s).thenS ρ fun vs s1 => match vs with
  | [v, w] => .nx ((ρ.set i (some v)).set j (some w)) s1
  | _ => .bad
def sAug (i : Nat) (f : Op2) (g : XF) : SF := fun ρ s => match ρ[i]? with
  | some (some x) => (g ρ s).thenS ρ fun y s1 => match f s1 x y with
    | some (z, s2) => .nx (ρ.set i (some z)) s2
    | none => .bad
  | _ => .bad
section
variable {X : Cx} {W : WX} {pos : Pos} {e : Expr} {g : XF} {st : Stmt} {rest : List Stmt} {h k : SF}
theorem post_thenS {K : PySem.W.Frag} {mg : Str → Option Value} {α β : Type} {rel : Rel α β} {σ : L2.St} {m : List Addr} {H : Hp} {D : Ends} {Q1 : β → Hp → Prop} {ρ : Env} (hE : RE K mg m H ρ σ) {r : R α} {k : α → Sto → RS} (h : PostS K mg W m H D (r.thenS ρ k))
    (hq : ∀ m1 H1 st a x, Ext m H m1 H1 → RE K mg m1 H1 ρ σ → Rep K mg m1 H1 st → rel m1 H1 a x → PostS K mg W m1 H1 D (k a st) → Q1 x H1) : Post K mg rel W σ m H Q1 r := PostS.split hE h hq
theorem fs_nil : FSs X W [] sNext := pss_nil.wk fun D σ H ⟨m, ρ, st, hE, hR, h⟩ => h m H σ (Ext.refl _ _) hE hR
theorem lift_seq {D : Ends} {σ : L2.St} {H : Hp} (q : liftS X.K X.mg W (sSeq h k) D σ H) : tSeq (liftS X.K X.mg W h) (liftS X.K X.mg W k) D σ H := by
  obtain ⟨m, ρ, st, hE, hR, hP⟩ := q
  refine ⟨m, ρ, st, hE, hR, ?_⟩
  have hP : PostS X.K X.mg W m H D ((h ρ st).bind k) := hP
  cases hr : h ρ st with
  | nx ρ' s' => rw [hr] at hP; exact fun m' H' σ' e hE' hR' => ⟨m', ρ', s', hE', hR', PostS.ext e hP⟩
  | rt v s' => rw [hr] at hP; exact hP
  | bk ρ' s' => rw [hr] at hP; exact hP
  | ct ρ' s' => rw [hr] at hP; exact hP
  | exc C fs ρ' s' => rw [hr] at hP; exact hP
  | bad => rw [hr] at hP; exact hP
theorem fs_cons (h1 : FS1 X W st h) (h2 : FSs X W rest k) : FSs X W (st :: rest) (sSeq h k) := (pss_cons h1 h2).wk fun _ _ _ q => lift_seq q
theorem fs_one (h1 : FS1 X W st h) : FSs X W [st] h := pss_one h1
theorem fs_pass : FS1 X W (.Pass pos) sNext := ps_pass.wk fun D σ H ⟨m, ρ, st, hE, hR, h⟩ => h m H σ (Ext.refl _ _) hE hR
theorem fs_break : FS1 X W (.Break pos) sBreak := ps_break.wk fun D σ H ⟨m, ρ, st, hE, hR, h⟩ => h m H σ (Ext.refl _ _) hE hR
theorem fs_cont : FS1 X W (.Continue pos) sCont := ps_continue.wk fun D σ H ⟨m, ρ, st, hE, hR, h⟩ => h m H σ (Ext.refl _ _) hE hR
theorem fs_expr (he : FE X W e g) (hs : swapsWith e none pos.line X.env = pure false := by rfl) : FS1 X W (.Expr e pos) (sExpr g) := (ps_expr he hs).wk fun D σ H ⟨m, ρ, st, hE, hR, h⟩ =>
  ⟨m, ρ, st, hE, hR, post_thenS hE h fun m1 H1 s1 a x e1 hE1 hR1 ra hP => hP m1 H1 σ (Ext.refl _ _) hE1 hR1⟩
theorem fs_ret (he : FE X W e g) : FS1 X W (.Return (some e) pos) (sRet g) := (ps_ret he).wk fun D σ H ⟨m, ρ, st, hE, hR, h⟩ =>
  ⟨m, ρ, st, hE, hR, post_thenS hE h fun m1 H1 s1 a x e1 hE1 hR1 ra hP => hP m1 H1 x (Ext.refl _ _) hR1 ra⟩
theorem fs_retN : FS1 X W (.Return none pos) sRetN := ps_retN.wk fun D σ H ⟨m, ρ, st, hE, hR, h⟩ => h m H .non (Ext.refl _ _) hR .non
theorem fs_if {c : Expr} {a b : List Stmt} {t : Env → Sto → R Bool} (hc : FT X W c t) (ha : FSs X W a h) (hb : FSs X W b k) : FS1 X W (.If c a b pos) (sIf t h k) := (ps_if hc ha hb).wk fun D σ H ⟨m, ρ, st, hE, hR, hP⟩ =>
  ⟨m, ρ, st, hE, hR, post_thenS (rel := relE) hE hP fun m1 H1 s1 a x e1 hE1 hR1 ra hP1 => by
    cases ra
    cases a with
    | true => rw [if_pos rfl]; exact ⟨m1, ρ, s1, hE1, hR1, hP1⟩
    | false => rw [if_neg Bool.false_ne_true]; exact ⟨m1, ρ, s1, hE1, hR1, hP1⟩⟩
theorem fs_set (i : Nat) {x : Str} {pos' : Pos} (hN : X.N.Nodup) (he : FE X W e g) (hi : X.N[i]? = some x := by rfl) (hx : Loc X.env.scope x := by first | exact .inl rfl | exact .inr rfl) (hs : swapsWith e (some (.Name x pos')) pos.line X.env = pure false := by rfl)
    (hf : X.fn x = true ∨ X.env.scope.names.lookup x = some .local := by first | exact .inl rfl | exact .inr rfl | assumption) : FS1 X W (.Assign [.Name x pos'] e pos) (sSet i g) := (ps_set hN hi hx he hs hf).wk fun D σ H ⟨m, ρ, st, hE, hR, h⟩ =>
  ⟨m, ρ, st, hE, hR, post_thenS hE h fun m1 H1 s1 a x e1 hE1 hR1 ra hP => hP m1 H1 _ (Ext.refl _ _) (hE1.set ra i) hR1⟩
theorem fs_asg {tg : Expr} {p : Pat} (he : FE X W e g) (hg : FP X tg p) (hs : swapsWithSole [tg] e pos.line X.env = pure false := by rfl) (hw : swappedStores [tg] e X.env = pure none := by rfl)
    (h1 : (assignEach [tg] X.env).map (·.2) = [assign tg X.env] := by rfl) : FS1 X W (.Assign [tg] e pos) (sAsg p g) := (ps_asg he hg hs hw h1).wk fun D σ H ⟨m, ρ, st, hE, hR, h⟩ =>
  ⟨m, ρ, st, hE, hR, post_thenS hE h fun m1 H1 s1 a x e1 hE1 hR1 ra hP => by
    cases hp : p.run a ρ with
    | none => rw [hp] at hP; exact hP.elim
    | some ρ' =>
      rw [hp] at hP
      exact p.ok ra hE1 hp fun σ' hE' _ => hP m1 H1 σ' (Ext.refl _ _) hE' hR1⟩
theorem fs_par (i j : Nat) {x y : Str} {a b : Expr} {ga : Env → Sto → R (List PV)} {px py pt : Pos} {kt k2 pt2} (hc : X.calm = true) (hN : X.N.Nodup) (ha : FA X W [a, b] ga) (hi : X.N[i]? = some x := by rfl) (hj : X.N[j]? = some y := by rfl) (hij : i ≠ j := by decide)
    (hx : X.env.scope.names.lookup x = some .local := by rfl) (hy : X.env.scope.names.lookup y = some .local := by rfl)
    (hw : swappedStores [.Tuple [.Name x px, .Name y py] kt pt] (.Tuple [a, b] k2 pt2) X.env = pure (some [x, y]) := by rfl)
    (hs : swapsWithSole [.Tuple [.Name x px, .Name y py] kt pt] (.Tuple [a, b] k2 pt2) pos.line X.env = pure false := by rfl) :
    FS1 X W (.Assign [.Tuple [.Name x px, .Name y py] kt pt] (.Tuple [a, b] k2 pt2) pos) (sPar i j ga) := (ps_par hc hN hi hj hij hx hy ha hw hs).wk fun D σ H ⟨m, ρ, st, hE, hR, h⟩ =>
  ⟨m, ρ, st, hE, hR, post_thenS (rel := relVs X.K X.mg) hE h fun m1 H1 s1 a x e1 hE1 hR1 ra hP => by
    cases ra with
    | nil => exact hP.elim
    | cons r1 t =>
      cases t with
      | nil => exact hP.elim
      | cons r2 t =>
        cases t with
        | nil => exact ⟨_, _, rfl, hP m1 H1 _ (Ext.refl _ _) ((hE1.set r1 i).set r2 j) hR1⟩
        | cons _ _ => exact hP.elim⟩
def rIp (K : PySem.W.Frag) (mg : Str → Option Value) (f : Op2) : TIp := rOp2 K mg f
theorem fs_aug (i : Nat) {x : Str} {op : Operator} {f : Op2} {pos' : Pos} (hN : X.N.Nodup) (ho : PIp X op (rIp X.K X.mg f)) (he : FE X W e g) (hi : X.N[i]? = some x := by rfl) (hx : Loc X.env.scope x := by first | exact .inl rfl | exact .inr rfl)
    (hf : X.fn x = true ∨ X.env.scope.names.lookup x = some .local := by first | exact .inl rfl | exact .inr rfl | assumption) : FS1 X W (.AugAssign (.Name x pos') op e pos) (sAug i f g) := (ps_aug hN hi hx he ho hf).wk fun D σ H ⟨m, ρ, st, hE, hR, h⟩ => by
  have h : PostS X.K X.mg W m H D (sAug i f g ρ st) := h
  unfold sAug at h
  split at h
  · rename_i v ev
    obtain ⟨xv, ex, rx⟩ := hE.get ev
    refine ⟨xv, ex, m, ρ, st, hE, hR, post_thenS hE h fun m1 H1 s1 a y e1 hE1 hR1 ra hP => ?_⟩
    cases hf : f s1 v a with
    | none => rw [hf] at hP; exact hP.elim
    | some p =>
      obtain ⟨z, s2⟩ := p
      rw [hf] at hP
      exact ⟨m1, s1, v, a, z, s2, hR1, rx.mono e1, ra, hf, fun m2 H2 zz e2 hR2 rz => hP m2 H2 _ e2 ((hE1.mono e2).set rz i) hR2⟩
  · exact h.elim
end

/-! ### what a loop walks -/
structure ItD where
  items : List PV
  chk : Sto → Bool
def relI (K : PySem.W.Frag) (mg : Str → Option Value) : Rel ItD It := fun m H d J =>
  ∀ i m' H' st', Ext m H m' H' → Rep K mg m' H' st' → d.chk st' = true →
    (∀ x, d.items[i]? = some x → J.go i H' ∧ ∀ y H'', J.yld i H' y H'' → Ext m' H' m' H'' ∧ Rep K mg m' H'' st' ∧ RV K mg m' H'' x y) ∧ (i = d.items.length → J.stop i H')
def FI (X : Cx) (W : WX) (tg e : Expr) (g : Env → Sto → R ItD) : Prop := PI X tg e (lift X.K X.mg (relI X.K X.mg) W g)
def forL (chk : Sto → Bool) (p : Pat) (b : SF) : List PV → Env → Sto → RS
  | [], ρ, s => if chk s then .nx ρ s else .bad
  | x :: xs, ρ, s => if chk s then (match p.run x ρ with
    | none => .bad
    | some ρ1 => match b ρ1 s with
      | .nx ρ2 s2 => forL chk p b xs ρ2 s2
      | .ct ρ2 s2 => forL chk p b xs ρ2 s2
      | .bk ρ2 s2 => .nx ρ2 s2
      | .rt v s2 => .rt v s2
      | .exc C fs ρ2 s2 => .exc C fs ρ2 s2
      | .bad => .bad) else .bad
def sFor (gi : Env → Sto → R ItD) (p : Pat) (b : SF) : SF := fun ρ s => (gi ρ s).thenS ρ fun d s1 => forL d.chk p b d.items ρ s1
section
variable {X : Cx} {W : WX} {pos : Pos} {tg iter : Expr} {gi : Env → Sto → R ItD} {p : Pat} {b : SF} {body : List Stmt}
theorem fs_for (hp : PassesOwn (model X.prog X.w) X.A X.env X.xe) (hc : X.calm = true) (hi : FI X W tg iter gi) (hg : FP X tg p) (hb : FSs X W body b)
    (hs : ∀ x, foldedSetIterable iter X.env x = pure x := by intro _; rfl) : FS1 X W (.For tg iter body [] pos) (sFor gi p b) := (ps_for hp hc hi hg hb hs).wk fun D σ H ⟨m, ρ, st, hE, hR, h⟩ => by
  refine ⟨m, ρ, st, hE, hR, post_thenS (rel := relI X.K X.mg) hE h fun m1 H1 s1 d J e1 hE1 hR1 rJ hP => ?_⟩
  refine ⟨fun i k σ' H' => k = d.items.length - i ∧ i ≤ d.items.length ∧ ∃ m' ρ' s', Ext m1 H1 m' H' ∧ RE X.K X.mg m' H' ρ' σ' ∧ Rep X.K X.mg m' H' s' ∧ PostS X.K X.mg W m' H' D (forL d.chk p b (d.items.drop i) ρ' s'),
    ⟨d.items.length, by simp, Nat.zero_le _, m1, ρ, s1, Ext.refl _ _, hE1, hR1, hP⟩, ?_⟩
  rintro i k σ' H' ⟨rfl, hi, m', ρ', s', e', hE', hR', hP'⟩
  by_cases hl : i < d.items.length
  · right
    rw [List.drop_eq_getElem_cons hl] at hP'
    have hP' : PostS X.K X.mg W m' H' D (if d.chk s' then (match p.run d.items[i] ρ' with
      | none => .bad
      | some ρ1 => match b ρ1 s' with
        | .nx ρ2 s2 => forL d.chk p b (d.items.drop (i + 1)) ρ2 s2
        | .ct ρ2 s2 => forL d.chk p b (d.items.drop (i + 1)) ρ2 s2
        | .bk ρ2 s2 => .nx ρ2 s2
        | .rt v s2 => .rt v s2
        | .exc C fs ρ2 s2 => .exc C fs ρ2 s2
        | .bad => .bad) else .bad) := hP'
    cases hk : d.chk s' with
    | false => rw [hk] at hP'; exact hP'.elim
    | true =>
      rw [hk, if_pos rfl] at hP'
      obtain ⟨go, _⟩ := rJ i m' H' s' e' hR' hk
      obtain ⟨g1, g2⟩ := go d.items[i] (List.getElem?_eq_getElem hl)
      cases hrun : p.run d.items[i] ρ' with
      | none => rw [hrun] at hP'; exact hP'.elim
      | some ρ1 =>
        rw [hrun] at hP'
        dsimp only at hP'
        refine ⟨g1, fun σ2 H2 => ∃ m2 ρ2 s2, Ext m1 H1 m2 H2 ∧ RE X.K X.mg m2 H2 ρ2 σ2 ∧ Rep X.K X.mg m2 H2 s2 ∧ PostS X.K X.mg W m2 H2 D (forL d.chk p b (d.items.drop (i + 1)) ρ2 s2), fun σ2 H2 ⟨m2, ρ2, s2, q1, q2, q3, q4⟩ => ⟨_, ?_, rfl, hl, m2, ρ2, s2, q1, q2, q3, q4⟩, fun x H2 y => ?_⟩
        · omega
        · obtain ⟨e2, hR2, rx⟩ := g2 x H2 y
          refine p.ok rx (hE'.mono e2) hrun fun σ3 hE3 _ => ⟨m', ρ1, s', hE3, hR2, ?_⟩
          have e12 := e'.trans e2
          cases hb' : b ρ1 s' with
          | nx ρ2 s2 => rw [hb'] at hP'; exact fun m3 H3 σ3 e3 h1 h2 => ⟨m3, ρ2, s2, e12.trans e3, h1, h2, PostS.ext (e2.trans e3) hP'⟩
          | ct ρ2 s2 => rw [hb'] at hP'; exact fun m3 H3 σ3 e3 h1 h2 => ⟨m3, ρ2, s2, e12.trans e3, h1, h2, PostS.ext (e2.trans e3) hP'⟩
          | bk ρ2 s2 => rw [hb'] at hP'; exact fun m3 H3 σ3 e3 h1 h2 => hP' m3 H3 σ3 (e2.trans e3) h1 h2
          | rt v s2 => rw [hb'] at hP'; exact fun m3 H3 σ3 e3 h1 h2 => hP' m3 H3 σ3 (e2.trans e3) h1 h2
          | exc C fs ρ2 s2 => rw [hb'] at hP'; exact fun m3 H3 cv d σ3 e3 h1 h2 => hP' m3 H3 cv d σ3 (e2.trans e3) h1 h2
          | bad => rw [hb'] at hP'; exact hP'.elim
  · left
    have e : i = d.items.length := by omega
    subst e
    rw [List.drop_length] at hP'
    have hP' : PostS X.K X.mg W m' H' D (if d.chk s' then .nx ρ' s' else .bad) := hP'
    cases hk : d.chk s' with
    | false => rw [hk] at hP'; exact hP'.elim
    | true =>
      rw [hk, if_pos rfl] at hP'
      exact ⟨(rJ _ m' H' s' e' hR' hk).2 rfl, hP' m' H' σ' (Ext.refl _ _) hE' hR'⟩
end

/-! ### while -/
def whileN (t : Env → Sto → R Bool) (b : SF) : Nat → Env → Sto → RS
  | 0, _, _ => .bad
  | n + 1, ρ, s => (t ρ s).thenS ρ fun c s1 => if c then (match b ρ s1 with
    | .nx ρ2 s2 => whileN t b n ρ2 s2
    | .ct ρ2 s2 => whileN t b n ρ2 s2
    | .bk ρ2 s2 => .nx ρ2 s2
    | .rt v s2 => .rt v s2
    | .exc C fs ρ2 s2 => .exc C fs ρ2 s2
    | .bad => .bad) else .nx ρ s1
open Classical in
/-- as often as it takes -/
noncomputable def sWhile (t : Env → Sto → R Bool) (b : SF) : SF := fun ρ s => if h : ∃ n, whileN t b n ρ s ≠ .bad then whileN t b h.choose ρ s else .bad
theorem whileN_up {t : Env → Sto → R Bool} {b : SF} : ∀ {n : Nat} {ρ : Env} {s : Sto}, whileN t b n ρ s ≠ .bad → whileN t b (n + 1) ρ s = whileN t b n ρ s
  | 0, _, _, h => absurd rfl h
  | n + 1, ρ, s, h => by
    show ((t ρ s).thenS ρ _) = ((t ρ s).thenS ρ _)
    have h : ((t ρ s).thenS ρ fun c s1 => if c then (match b ρ s1 with
      | .nx ρ2 s2 => whileN t b n ρ2 s2
      | .ct ρ2 s2 => whileN t b n ρ2 s2
      | .bk ρ2 s2 => .nx ρ2 s2
      | .rt v s2 => .rt v s2
      | .exc C fs ρ2 s2 => .exc C fs ρ2 s2
      | .bad => .bad) else .nx ρ s1) ≠ .bad := h
    cases ht : t ρ s with
    | bad => rfl
    | exc C fs s1 => rfl
    | ok c s1 =>
      rw [ht] at h
      cases c with
      | false => rfl
      | true =>
        show (match b ρ s1 with
          | .nx ρ2 s2 => whileN t b (n + 1) ρ2 s2
          | .ct ρ2 s2 => whileN t b (n + 1) ρ2 s2
          | .bk ρ2 s2 => .nx ρ2 s2
          | .rt v s2 => .rt v s2
          | .exc C fs ρ2 s2 => .exc C fs ρ2 s2
          | .bad => .bad) = (match b ρ s1 with
          | .nx ρ2 s2 => whileN t b n ρ2 s2
          | .ct ρ2 s2 => whileN t b n ρ2 s2
          | .bk ρ2 s2 => .nx ρ2 s2
          | .rt v s2 => .rt v s2
          | .exc C fs ρ2 s2 => .exc C fs ρ2 s2
          | .bad => .bad)
        have h : (match b ρ s1 with
          | .nx ρ2 s2 => whileN t b n ρ2 s2
          | .ct ρ2 s2 => whileN t b n ρ2 s2
          | .bk ρ2 s2 => .nx ρ2 s2
          | .rt v s2 => .rt v s2
          | .exc C fs ρ2 s2 => .exc C fs ρ2 s2
          | .bad => .bad) ≠ .bad := h
        cases hb : b ρ s1 with
        | nx ρ2 s2 => rw [hb] at h; exact whileN_up h
        | ct ρ2 s2 => rw [hb] at h; exact whileN_up h
        | _ => rfl
theorem whileN_le {t : Env → Sto → R Bool} {b : SF} {n k : Nat} {ρ : Env} {s : Sto} (h : whileN t b n ρ s ≠ .bad) (hk : n ≤ k) : whileN t b k ρ s = whileN t b n ρ s := by
  induction hk with
  | refl => rfl
  | step _ ih => rw [whileN_up (by rw [ih]; exact h), ih]
theorem sWhile_eq {t : Env → Sto → R Bool} {b : SF} {n : Nat} {ρ : Env} {s : Sto} (h : whileN t b n ρ s ≠ .bad) : sWhile t b ρ s = whileN t b n ρ s := by
  have he : ∃ n, whileN t b n ρ s ≠ .bad := ⟨n, h⟩
  unfold sWhile
  rw [dif_pos he]
  rcases Nat.le_total n he.choose with hl | hl
  · exact whileN_le h hl
  · exact (whileN_le he.choose_spec hl).symm
section
variable {X : Cx} {W : WX} {pos : Pos} {c : Expr} {t : Env → Sto → R Bool} {b : SF} {body : List Stmt}
theorem fs_while (hp : PassesOwn (model X.prog X.w) X.A X.env X.xe) (hc : FT X W c t) (hb : FSs X W body b) : FS1 X W (.While c body [] pos) (sWhile t b) := (ps_while hp hc hb).wk fun D σ H ⟨m, ρ, st, hE, hR, h⟩ => by
  have hn : ∃ n, whileN t b n ρ st ≠ .bad := by
    by_cases hn : ∃ n, whileN t b n ρ st ≠ .bad
    · exact hn
    · have h : PostS X.K X.mg W m H D (sWhile t b ρ st) := h
      unfold sWhile at h
      rw [dif_neg hn] at h
      exact h.elim
  obtain ⟨n, hn⟩ := hn
  rw [sWhile_eq hn] at h
  refine ⟨fun k σ' H' => ∃ m' ρ' s', RE X.K X.mg m' H' ρ' σ' ∧ Rep X.K X.mg m' H' s' ∧ PostS X.K X.mg W m' H' D (whileN t b k ρ' s'), ⟨n, m, ρ, st, hE, hR, h⟩, ?_⟩
  rintro k σ' H' ⟨m', ρ', s', hE', hR', hP'⟩
  cases k with
  | zero => exact hP'.elim
  | succ k =>
    refine ⟨m', ρ', s', hE', hR', post_thenS (rel := relE) hE' hP' fun m1 H1 s1 a x e1 hE1 hR1 ra hP => ?_⟩
    cases ra
    cases a with
    | false => rw [if_neg Bool.false_ne_true]; exact hP m1 H1 _ (Ext.refl _ _) hE1 hR1
    | true =>
      rw [if_pos rfl]
      have hP : PostS X.K X.mg W m1 H1 D (match b ρ' s1 with
          | .nx ρ2 s2 => whileN t b k ρ2 s2
          | .ct ρ2 s2 => whileN t b k ρ2 s2
          | .bk ρ2 s2 => .nx ρ2 s2
          | .rt v s2 => .rt v s2
          | .exc C fs ρ2 s2 => .exc C fs ρ2 s2
          | .bad => .bad) := hP
      refine ⟨fun σ2 H2 => ∃ m2 ρ2 s2, RE X.K X.mg m2 H2 ρ2 σ2 ∧ Rep X.K X.mg m2 H2 s2 ∧ PostS X.K X.mg W m2 H2 D (whileN t b k ρ2 s2), fun σ2 H2 q => ⟨k, Nat.lt_succ_self k, q⟩, m1, ρ', s1, hE1, hR1, ?_⟩
      cases hb' : b ρ' s1 with
      | nx ρ2 s2 => rw [hb'] at hP; exact fun m3 H3 σ3 e3 h1 h2 => ⟨m3, ρ2, s2, h1, h2, PostS.ext e3 hP⟩
      | ct ρ2 s2 => rw [hb'] at hP; exact fun m3 H3 σ3 e3 h1 h2 => ⟨m3, ρ2, s2, h1, h2, PostS.ext e3 hP⟩
      | bk ρ2 s2 => rw [hb'] at hP; exact hP
      | rt v s2 => rw [hb'] at hP; exact hP
      | exc C fs ρ2 s2 => rw [hb'] at hP; exact hP
      | bad => rw [hb'] at hP; exact hP.elim
end
end FS

/-! FS: operators, comparisons, subscripts, lengths by values. -/
namespace FS
open PySem PySem.Spec PyProof.Rows L2

/-! ### values are told apart -/
mutual
def PV.eqb : PV → PV → Bool
  | .non, .non => true
  | .bl a, .bl b => a == b
  | .int a, .int b => a == b
  | .str a, .str b => decide (a = b)
  | .tup a, .tup b => PV.eqbs a b
  | .obj a, .obj b => a == b
  | .ty a, .ty b => a == b
  | .glo a, .glo b => decide (a = b)
  | _, _ => false
def PV.eqbs : List PV → List PV → Bool
  | [], [] => true
  | x :: xs, y :: ys => PV.eqb x y && PV.eqbs xs ys
  | _, _ => false
end
mutual
theorem PV.eqb_eq : ∀ (a b : PV), PV.eqb a b = true → a = b
  | .non, b, h => by cases b <;> first | rfl | cases h
  | .bl a, b, h => by cases b <;> first | cases h | exact congrArg PV.bl (eq_of_beq h)
  | .int a, b, h => by cases b <;> first | cases h | exact congrArg PV.int (eq_of_beq h)
  | .str a, b, h => by cases b <;> first | cases h | exact congrArg PV.str (of_decide_eq_true h)
  | .tup a, b, h => by cases b <;> first | cases h | exact congrArg PV.tup (PV.eqbs_eq _ _ h)
  | .obj a, b, h => by cases b <;> first | cases h | exact congrArg PV.obj (eq_of_beq h)
  | .ty a, b, h => by cases b <;> first | cases h | exact congrArg PV.ty (eq_of_beq h)
  | .glo a, b, h => by cases b <;> first | cases h | exact congrArg PV.glo (of_decide_eq_true h)
theorem PV.eqbs_eq : ∀ (a b : List PV), PV.eqbs a b = true → a = b
  | [], [], _ => rfl
  | [], _ :: _, h => nomatch h
  | _ :: _, [], h => nomatch h
  | x :: xs, y :: ys, h => by
    have h : (PV.eqb x y && PV.eqbs xs ys) = true := h
    rw [Bool.and_eq_true] at h
    rw [PV.eqb_eq x y h.1, PV.eqbs_eq xs ys h.2]
end
mutual
theorem PV.eqb_refl : ∀ (a : PV), PV.eqb a a = true
  | .non => rfl
  | .bl a => by show (a == a) = true; simp
  | .int a => by show (a == a) = true; simp
  | .str a => by show decide (a = a) = true; simp
  | .tup a => PV.eqbs_refl a
  | .obj a => by show (a == a) = true; simp
  | .ty a => by show (a == a) = true; simp
  | .glo a => by show decide (a = a) = true; simp
theorem PV.eqbs_refl : ∀ (a : List PV), PV.eqbs a a = true
  | [] => rfl
  | x :: xs => by
    show (PV.eqb x x && PV.eqbs xs xs) = true
    rw [PV.eqb_refl x, PV.eqbs_refl xs]; rfl
end
instance : DecidableEq PV := fun a b => if h : PV.eqb a b = true then isTrue (PV.eqb_eq a b h) else isFalse fun e => h (e ▸ PV.eqb_refl a)

/-! ### dicts by values -/
def getP (kvs : List (PV × PV)) (k : PV) : Option PV := (kvs.find? fun p => decide (p.1 = k)).map (·.2)
def putP (kvs : List (PV × PV)) (k v : PV) : List (PV × PV) :=
  if (kvs.any fun p => decide (p.1 = k)) = true then kvs.map (fun p => if p.1 = k then (p.1, v) else p) else kvs ++ [(k, v)]
def dropP (kvs : List (PV × PV)) (k : PV) : List (PV × PV) := kvs.filter fun p => decide (p.1 ≠ k)
/-- the key that a value is -/
def toKey : PV → Option Key
  | .int i => some (.inl i)
  | .str s => some (.inr s)
  | _ => none
theorem keyP_inj {a b : Key} (h : keyP a = keyP b) : a = b := by
  cases a <;> cases b <;> simp [keyP] at h <;> rw [h]
theorem toKey_ok {v : PV} {k : Key} (h : toKey v = some k) : v = keyP k := by
  cases v <;> simp [toKey] at h <;> subst h <;> rfl
section
variable {K : PySem.W.Frag} {mg : Str → Option Value} {m : List Addr} {H : Hp}
theorem RV.key {k : Key} {x : V} (r : RV K mg m H (keyP k) x) : x = kV k := by
  cases k with
  | inl i => cases r; rfl
  | inr s => cases r; rfl
theorem RV.key' (k : Key) : RV K mg m H (keyP k) (kV k) := by
  cases k with
  | inl i => exact .int i
  | inr s => exact .str s
theorem RKV.get : ∀ {xs : List (PV × PV)} {vs : List (Key × V)} (k : Key), RKV K mg m H xs vs → (∀ v, getP xs (keyP k) = some v → ∃ u, valV vs k = some u ∧ RV K mg m H v u) ∧ (getP xs (keyP k) = none → valV vs k = none)
  | _, _, k, .nil => ⟨fun v e => (nomatch e), fun _ => rfl⟩
  | _, _, k, @RKV.cons _ _ _ _ k' x v xs vs h t => by
    by_cases e : k' = k
    · subst e
      refine ⟨fun v' e' => ?_, fun e' => ?_⟩
      · have e2 : getP ((keyP k', x) :: xs) (keyP k') = some x := by simp [getP, List.find?_cons]
        rw [e2] at e'; cases e'
        exact ⟨v, by rw [valV_pos rfl], h⟩
      · have e2 : getP ((keyP k', x) :: xs) (keyP k') = some x := by simp [getP, List.find?_cons]
        rw [e2] at e'; cases e'
    · have e1 : ¬ keyP k' = keyP k := fun z => e (keyP_inj z)
      have e2 : getP ((keyP k', x) :: xs) (keyP k) = getP xs (keyP k) := by simp [getP, List.find?_cons, e1]
      rw [e2, valV_neg e]
      exact RKV.get k t
theorem RKV.any : ∀ {xs : List (PV × PV)} {vs : List (Key × V)} (k : Key), RKV K mg m H xs vs → (xs.any fun p => decide (p.1 = keyP k)) = (vs.any fun p => decide (p.1 = k))
  | _, _, k, .nil => rfl
  | _, _, k, @RKV.cons _ _ _ _ k' x v xs vs h t => by
    rw [List.any_cons, List.any_cons, RKV.any k t]
    congr 1
    by_cases e : k' = k
    · subst e; simp
    · have e1 : ¬ keyP k' = keyP k := fun z => e (keyP_inj z)
      simp [e, e1]
theorem RKV.append : ∀ {xs ys : List (PV × PV)} {vs us : List (Key × V)}, RKV K mg m H xs vs → RKV K mg m H ys us → RKV K mg m H (xs ++ ys) (vs ++ us)
  | _, _, _, _, .nil, s => s
  | _, _, _, _, .cons h t, s => .cons h (RKV.append t s)
theorem RKV.map : ∀ {xs : List (PV × PV)} {vs : List (Key × V)} (k : Key) {x : PV} {v : V}, RKV K mg m H xs vs → RV K mg m H x v →
    RKV K mg m H (xs.map fun p => if p.1 = keyP k then (p.1, x) else p) (vs.map fun p => if p.1 = k then (p.1, v) else p)
  | _, _, k, x, v, .nil, _ => .nil
  | _, _, k, x, v, @RKV.cons _ _ _ _ k' x' v' xs vs h t, r => by
    rw [List.map_cons, List.map_cons]
    by_cases e : k' = k
    · subst e
      simp only [if_true]
      exact .cons r (RKV.map k' t r)
    · have e1 : ¬ keyP k' = keyP k := fun z => e (keyP_inj z)
      simp only [e, e1, if_false]
      exact .cons h (RKV.map k t r)
theorem RKV.put {xs : List (PV × PV)} {vs : List (Key × V)} (k : Key) {x : PV} {v : V} (h : RKV K mg m H xs vs) (r : RV K mg m H x v) : RKV K mg m H (putP xs (keyP k) x) (putK vs k v) := by
  unfold putP putK
  rw [h.any k]
  by_cases e : (vs.any fun p => decide (p.1 = k)) = true
  · rw [if_pos e, if_pos e]; exact h.map k r
  · rw [if_neg e, if_neg e]; exact h.append (.cons r .nil)
theorem RKV.drop : ∀ {xs : List (PV × PV)} {vs : List (Key × V)} (k : Key), RKV K mg m H xs vs → RKV K mg m H (dropP xs (keyP k)) (dropK vs k)
  | _, _, k, .nil => .nil
  | _, _, k, @RKV.cons _ _ _ _ k' x v xs vs h t => by
    have ih := RKV.drop k t
    unfold dropP dropK at *
    rw [List.filter_cons, List.filter_cons]
    by_cases e : k' = k
    · subst e; simpa using ih
    · have e1 : ¬ keyP k' = keyP k := fun z => e (keyP_inj z)
      simp only [e, e1, ne_eq, not_false_eq_true, decide_true, if_true]
      exact .cons h ih
theorem RKV.length : ∀ {xs : List (PV × PV)} {vs : List (Key × V)}, RKV K mg m H xs vs → xs.length = vs.length
  | _, _, .nil => rfl
  | _, _, .cons _ t => congrArg (· + 1) (RKV.length t)
theorem RKV.at : ∀ {xs : List (PV × PV)} {vs : List (Key × V)} {i : Nat} {p : PV × PV}, RKV K mg m H xs vs → xs[i]? = some p → ∃ k v, vs[i]? = some (k, v) ∧ p.1 = keyP k ∧ RV K mg m H p.2 v
  | _, _, 0, p, .cons h _, e => by simp at e; subst e; exact ⟨_, _, rfl, rfl, h⟩
  | _, _, i + 1, p, .cons _ t, e => by simpa using RKV.at t (by simpa using e)
theorem RKV.keysOf {xs : List (PV × PV)} {vs : List (Key × V)} (h : RKV K mg m H xs vs) : RVs K mg m H (xs.map (·.1)) (vs.map fun kv => kV kv.1) := by
  induction h with
  | nil => exact .nil
  | cons _ _ ih => exact .cons (RV.key' _) ih
end

/-! ### what a store says of an object -/
/-- a list that may be read -/
def lstOf (s : Sto) : PV → Option (List PV)
  | .obj n => match s[n]? with
    | some (.lst xs) => some xs
    | some (.frz (.lst xs)) => some xs
    | _ => none
  | _ => none
/-- a list or tuple -/
def seqOf (s : Sto) : PV → Option (List PV)
  | .tup xs => some xs
  | .obj n => match s[n]? with
    | some (.lst xs) => some xs
    | some (.frz (.lst xs)) => some xs
    | _ => none
  | _ => none
def dctOf (s : Sto) : PV → Option (List (PV × PV))
  | .obj n => match s[n]? with
    | some (.dct xs) => some xs
    | some (.frz (.dct xs)) => some xs
    | _ => none
  | _ => none
section
variable {K : PySem.W.Frag} {mg : Str → Option Value} {m : List Addr} {H : Hp} {s : Sto}
theorem lstOf_ok (hR : Rep K mg m H s) {u : PV} {x : V} (r : RV K mg m H u x) {xs : List PV} (h : lstOf s u = some xs) : ∃ a vs, x = .ref a ∧ SqL K H a vs ∧ RVs K mg m H xs vs := by
  cases r with
  | @obj n a hn =>
    replace h : (match s[n]? with
      | some (.lst xs) => some xs
      | some (.frz (.lst xs)) => some xs
      | _ => none) = some xs := h
    split at h
    · rename_i ys e
      cases h
      obtain ⟨u, hu, ro⟩ := hR.to _ _ _ hn e
      cases ro with
      | lst rs => exact ⟨a, _, rfl, SqL.of hu, rs⟩
    · rename_i ys e
      cases h
      obtain ⟨u, hu, ro⟩ := hR.to _ _ _ hn e
      cases ro with
      | frz ro =>
        cases ro with
        | lst rs => exact ⟨a, _, rfl, .inl (.inr ⟨_, hu⟩), rs⟩
    · cases h
  | _ => cases h
theorem seqOf_ok (hR : Rep K mg m H s) {u : PV} {x : V} (r : RV K mg m H u x) {xs : List PV} (h : seqOf s u = some xs) : ∃ a vs, x = .ref a ∧ (SqL K H a vs ∨ SqT K H a vs) ∧ RVs K mg m H xs vs := by
  cases r with
  | @obj n a hn =>
    obtain ⟨b, vs, e, q, rs⟩ := lstOf_ok hR (.obj hn) (xs := xs) h
    exact ⟨b, vs, e, .inl q, rs⟩
  | tup t rs => cases h; exact ⟨_, _, rfl, .inr t.sq, rs⟩
  | _ => cases h
theorem dctOf_ok (hR : Rep K mg m H s) {u : PV} {x : V} (r : RV K mg m H u x) {xs : List (PV × PV)} (h : dctOf s u = some xs) : ∃ a vs, x = .ref a ∧ Rd H a (.dK vs) ∧ RKV K mg m H xs vs := by
  cases r with
  | @obj n a hn =>
    replace h : (match s[n]? with
      | some (.dct xs) => some xs
      | some (.frz (.dct xs)) => some xs
      | _ => none) = some xs := h
    split at h
    · rename_i ys e
      cases h
      obtain ⟨u, hu, ro⟩ := hR.to _ _ _ hn e
      cases ro with
      | dct rs => exact ⟨a, _, rfl, .inl hu, rs⟩
    · rename_i ys e
      cases h
      obtain ⟨u, hu, ro⟩ := hR.to _ _ _ hn e
      cases ro with
      | frz ro =>
        cases ro with
        | dct rs => exact ⟨a, _, rfl, .inr ⟨_, hu⟩, rs⟩
    · cases h
  | _ => cases h
end

/-! ### data: what == sees -/
mutual
def toT : PV → Option PyData
  | .non => some .none
  | .bl b => some (.bool b)
  | .int i => some (.int i)
  | .str x => some (.str x)
  | .tup xs => (toTs xs).map .tuple
  | _ => none
def toTs : List PV → Option (List PyData)
  | [] => some []
  | x :: xs => (toT x).bind fun d => (toTs xs).map (d :: ·)
end
/-- lists of what f takes, or what f takes -/
def toL (s : Sto) (f : PV → Option PyData) (v : PV) : Option PyData := match v with
  | .obj n => (lstOf s (.obj n)).bind fun xs => (xs.mapM f).map .list
  | v => f v
/-- lists of lists of tuples -/
def toD (s : Sto) : PV → Option PyData := toL s (toL s toT)
section
variable {K : PySem.W.Frag} {mg : Str → Option Value} {m : List Addr} {H : Hp} {s : Sto}
mutual
theorem toT_ok : ∀ (u : PV) {x : V} {d : PyData}, RV K mg m H u x → toT u = some d → Dp K H x d
  | .non, _, _, .non, h => by cases h; exact .non
  | .bl b, _, _, .bl _, h => by cases h; exact .bl b
  | .int b, _, _, .int _, h => by cases h; exact .int b
  | .str b, _, _, .str _, h => by cases h; exact .str b
  | .tup xs, _, _, .tup t rs, h => by
    have h : (toTs xs).map PyData.tuple = some _ := h
    cases e : toTs xs with
    | none => rw [e] at h; cases h
    | some ds => rw [e] at h; cases h; exact .tup t.sq (toTs_ok xs rs e)
theorem toTs_ok : ∀ (us : List PV) {xs : List V} {ds : List PyData}, RVs K mg m H us xs → toTs us = some ds → DpAll K H xs ds
  | [], _, _, .nil, h => by cases h; exact .nil
  | u :: us, _, _, .cons r rs, h => by
    have h : ((toT u).bind fun d => (toTs us).map (d :: ·)) = some _ := h
    cases e : toT u with
    | none => rw [e] at h; cases h
    | some d =>
      rw [e] at h
      have h : (toTs us).map (d :: ·) = some _ := h
      cases e2 : toTs us with
      | none => rw [e2] at h; cases h
      | some ds => rw [e2] at h; cases h; exact .cons (toT_ok u r e) (toTs_ok us rs e2)
end
theorem toL_ok (hR : Rep K mg m H s) {f : PV → Option PyData} (hf : ∀ u x d, RV K mg m H u x → f u = some d → Dp K H x d) : ∀ u x d, RV K mg m H u x → toL s f u = some d → Dp K H x d := by
  intro u x d r h
  have all : ∀ (us : List PV) (xs : List V) (ds : List PyData), RVs K mg m H us xs → us.mapM f = some ds → DpAll K H xs ds := by
    intro us
    induction us with
    | nil => intro xs ds r h; cases r; rw [List.mapM_nil] at h; cases h; exact .nil
    | cons u us ih =>
      intro xs ds r h
      cases r with
      | cons r rs =>
        rw [List.mapM_cons] at h
        cases e : f u with
        | none => rw [e] at h; cases h
        | some d =>
          rw [e] at h
          cases e2 : us.mapM f with
          | none => rw [e2] at h; cases h
          | some ds' => rw [e2] at h; cases h; exact .cons (hf _ _ _ r e) (ih _ _ rs e2)
  unfold toL at h
  split at h
  · rename_i n
    cases e : lstOf s (.obj n) with
    | none => rw [e] at h; cases h
    | some xs =>
      rw [e] at h
      have h : (xs.mapM f).map PyData.list = some d := h
      cases e2 : xs.mapM f with
      | none => rw [e2] at h; cases h
      | some ds =>
        rw [e2] at h; cases h
        obtain ⟨a, vs, rfl, q, rs⟩ := lstOf_ok hR r e
        exact .lst q (all _ _ _ rs e2)
  · exact hf _ _ _ r h
theorem toD_ok (hR : Rep K mg m H s) {u : PV} {x : V} {d : PyData} (r : RV K mg m H u x) (h : toD s u = some d) : Dp K H x d := toL_ok hR (toL_ok hR fun u x d r h => toT_ok u r h) u x d r h
end

/-! ### arithmetic -/
def pure2 (f : PV → PV → Option PV) : Op2 := fun s x y => (f x y).map (·, s)
def bAdd : Op2 := fun s x y => match x, y with
  | .int i, .int j => some (.int (i + j), s)
  | .str a, .str b => if a.length + b.length ≤ sizeLine then some (.str (a ++ b), s) else none
  | .tup a, .tup b => if a.length + b.length ≤ sizeLine then some (.tup (a ++ b), s) else none
  | .obj p, .obj q => match s[p]?, s[q]? with
    | some (.lst a), some (.lst b) => if a.length + b.length ≤ sizeLine then some (.obj s.length, s ++ [.lst (a ++ b)]) else none
    | _, _ => none
  | _, _ => none
def bSub : Op2 := fun s x y => match x, y with
  | .int i, .int j => some (.int (i - j), s)
  | _, _ => none
def bMul : Op2 := fun s x y => match x, y with
  | .int i, .int j => if (-(2 ^ 64) < i ∧ i < 2 ^ 64) ∨ (-(2 ^ 64) < j ∧ j < 2 ^ 64) then some (.int (i * j), s) else none
  | .str a, .int k => if a.length ≤ 16 ∧ -(2 ^ 63) ≤ k ∧ k ≤ 1048576 then some (.str (Txt.mul a k), s) else none
  | .tup a, .int k => if a ≠ [] ∧ 2 ≤ k ∧ k ≤ 1000 ∧ a.length ≤ 1000 then some (.tup (List.replicate k.toNat a).flatten, s) else none
  | .obj p, .int k => match s[p]? with
    | some (.lst a) => if -(2 ^ 63) ≤ k ∧ k < 2 ^ 63 ∧ a.length * k.toNat ≤ sizeLine then some (.obj s.length, s ++ [.lst (List.replicate k.toNat a).flatten]) else none
    | _ => none
  | _, _ => none
def bMod : Op2 := fun s x y => match x, y with
  | .int i, .int j => if 0 < j then some (.int (i % j), s) else none
  | _, _ => none
def bFdiv : Op2 := fun s x y => match x, y with
  | .int i, .int j => if 0 < j ∧ j < 1073741824 then some (.int (i / j), s) else none
  | _, _ => none
def bPow : Op2 := fun s x y => match x, y with
  | .int i, .int j => if 0 ≤ j ∧ j ≤ 1000000 ∧ i.natAbs < 2 ^ 64 then some (.int (i ^ j.toNat), s) else none
  | _, _ => none
def uNeg : Op1 := fun s x => match x with
  | .int i => some (.int (-i), s)
  | _ => none
section
variable {X : Cx}
/-- a pure answer -/
theorem fin {H : Hp} {m : List Addr} {st : Sto} {Q : VK} {w : PV} {z : V} (hR : Rep X.K X.mg m H st)
    (q : ∀ m' H' z, Ext m H m' H' → Rep X.K X.mg m' H' st → RV X.K X.mg m' H' w z → Q z H') (r : RV X.K X.mg m H w z) : Q z H := q m H z (Ext.refl _ _) hR r
/-- a new tuple -/
theorem finT {H : Hp} {m : List Addr} {st : Sto} {Q : VK} {ws : List PV} {zs : List V} (hR : Rep X.K X.mg m H st)
    (q : ∀ m' H' z, Ext m H m' H' → Rep X.K X.mg m' H' st → RV X.K X.mg m' H' (.tup ws) z → Q z H') (r : RVs X.K X.mg m H ws zs) : ∀ p, H p = none → Q (.ref p) (upd H p (.tup zs)) := fun p hp =>
  have e := Ext.lay0 (m := m) (o := .tup zs) hp
  q m _ _ e (hR.lay0 hp) (.tup (.inl upd_same) (r.mono e))
/-- a new list -/
theorem finL {H : Hp} {m : List Addr} {st : Sto} {Q : VK} {ws : List PV} {zs : List V} (hR : Rep X.K X.mg m H st)
    (q : ∀ m' H' z, Ext m H m' H' → Rep X.K X.mg m' H' (st ++ [.lst ws]) → RV X.K X.mg m' H' (.obj st.length) z → Q z H') (r : RVs X.K X.mg m H ws zs) : ∀ p, H p = none → Q (.ref p) (upd H p (.lst zs)) := fun p hp =>
  have e := Ext.lay (m := m) (o := .lst zs) hp [p]
  q _ _ _ e (hR.lay hp (.lst (r.mono e))) (.obj hR.newAt)
theorem RVs.rep {K : PySem.W.Frag} {mg : Str → Option Value} {m : List Addr} {H : Hp} {xs : List PV} {vs : List V} (r : RVs K mg m H xs vs) : ∀ n, RVs K mg m H (List.replicate n xs).flatten (List.replicate n vs).flatten
  | 0 => .nil
  | n + 1 => by rw [List.replicate_succ, List.replicate_succ, List.flatten_cons, List.flatten_cons]; exact r.append (RVs.rep r n)
theorem o_add : OpR X (binaryOp .Add) (rOp2 X.K X.mg bAdd) := by
  intro pins s σ H x y v u Q I rx ry ⟨m, st, a, b, w, st', hR, ra, rb, hf, q⟩
  unfold bAdd at hf
  split at hf
  · cases hf; cases ra; cases rb
    exact op_add pins s σ H _ _ v u Q I rx ry ⟨_, _, rfl, rfl, fin hR q (.int _)⟩
  · split at hf
    · cases hf; cases ra; cases rb
      exact op_add_str pins s σ H _ _ v u Q I rx ry ⟨_, _, rfl, rfl, ‹_›, fin hR q (.str _)⟩
    · cases hf
  · split at hf
    · cases hf
      cases ra with
      | tup ta ra =>
        cases rb with
        | tup tb rb =>
          refine op_catA pins s σ H _ _ v u Q I rx ry ⟨_, _, _, _, rfl, rfl, ta.sq, tb.sq, by rw [← ra.length, ← rb.length]; assumption, fun e => ?_, fun _ e => ?_, fun _ _ => finT hR q (ra.append rb)⟩
          · subst e; cases ra; exact fin hR q (.tup tb rb)
          · subst e; cases rb; rw [List.append_nil] at q; exact fin hR q (.tup ta ra)
    · cases hf
  · rename_i p p2
    split at hf
    · rename_i a b e1 e2
      split at hf
      · cases hf
        cases ra with
        | obj ha =>
          cases rb with
          | obj hb =>
            obtain ⟨o1, h1, r1⟩ := hR.to _ _ _ ha e1
            obtain ⟨o2, h2, r2⟩ := hR.to _ _ _ hb e2
            cases r1 with
            | lst r1 =>
              cases r2 with
              | lst r2 =>
                exact op_cat pins s σ H _ _ v u Q I rx ry ⟨_, _, _, _, rfl, rfl, h1, h2, by rw [← r1.length, ← r2.length]; assumption, finL hR q (r1.append r2)⟩
      · cases hf
    · cases hf
  · cases hf
theorem o_sub : OpR X (binaryOp .Sub) (rOp2 X.K X.mg bSub) := by
  intro pins s σ H x y v u Q I rx ry ⟨m, st, a, b, w, st', hR, ra, rb, hf, q⟩
  unfold bSub at hf
  split at hf
  · cases hf; cases ra; cases rb
    exact op_sub pins s σ H _ _ v u Q I rx ry ⟨_, _, rfl, rfl, fin hR q (.int _)⟩
  · cases hf
theorem o_mul : OpR X (binaryOp .Mult) (rOp2 X.K X.mg bMul) := by
  intro pins s σ H x y v u Q I rx ry ⟨m, st, a, b, w, st', hR, ra, rb, hf, q⟩
  unfold bMul at hf
  split at hf
  · split at hf
    · cases hf; cases ra; cases rb
      exact op_mul pins s σ H _ _ v u Q I rx ry ⟨_, _, rfl, rfl, ‹_›, fin hR q (.int _)⟩
    · cases hf
  · split at hf
    · rename_i z k h
      cases hf; cases ra; cases rb
      obtain ⟨t, rfl⟩ := rx
      obtain ⟨t', rfl⟩ := ry
      refine PySem.W.KXi.mul (n := z.length) rfl h.1 h.2.1 h.2.2 fun t'' k' _ _ => ?_
      obtain ⟨t'', e⟩ : ∃ t, Value.str (Txt.mul z k) t'' = Value.str (Txt.mul z k) t := ⟨_, rfl⟩
      exact ⟨.str (Txt.mul z k), H, I.tok _, ⟨_, rfl⟩, fin hR q (.str _)⟩
    · cases hf
  · split at hf
    · rename_i z k h
      cases hf; cases rb
      cases ra with
      | tup ta ra =>
        refine op_repT pins s σ H _ _ v u Q I rx ry ⟨_, _, _, rfl, rfl, ta.sq, fun e => ?_, h.2.1, h.2.2.1, by rw [← ra.length]; exact h.2.2.2, finT hR q (ra.rep _)⟩
        subst e; cases ra; exact h.1 rfl
    · cases hf
  · split at hf
    · rename_i a e
      split at hf
      · rename_i h
        cases hf; cases rb
        cases ra with
        | obj ha =>
          obtain ⟨o1, h1, r1⟩ := hR.to _ _ _ ha e
          cases r1 with
          | lst r1 => exact op_rep pins s σ H _ _ v u Q I rx ry ⟨_, _, _, rfl, rfl, h1, h.1, h.2.1, by rw [← r1.length]; exact h.2.2, finL hR q (r1.rep _)⟩
      · cases hf
    · cases hf
  · cases hf
theorem o_mod : OpR X (binaryOp .Mod) (rOp2 X.K X.mg bMod) := by
  intro pins s σ H x y v u Q I rx ry ⟨m, st, a, b, w, st', hR, ra, rb, hf, q⟩
  unfold bMod at hf
  split at hf
  · split at hf
    · cases hf; cases ra; cases rb
      exact op_mod pins s σ H _ _ v u Q I rx ry ⟨_, _, rfl, rfl, ‹_›, fin hR q (.int _)⟩
    · cases hf
  · cases hf
theorem o_fdiv : OpR X (binaryOp .FloorDiv) (rOp2 X.K X.mg bFdiv) := by
  intro pins s σ H x y v u Q I rx ry ⟨m, st, a, b, w, st', hR, ra, rb, hf, q⟩
  unfold bFdiv at hf
  split at hf
  · split at hf
    · cases hf; cases ra; cases rb
      exact op_fdiv pins s σ H _ _ v u Q I rx ry ⟨_, _, rfl, rfl, ‹_›, fin hR q (.int _)⟩
    · cases hf
  · cases hf
theorem o_pow : OpR X (binaryOp .Pow) (rOp2 X.K X.mg bPow) := by
  intro pins s σ H x y v u Q I rx ry ⟨m, st, a, b, w, st', hR, ra, rb, hf, q⟩
  unfold bPow at hf
  split at hf
  · split at hf
    · cases hf; cases ra; cases rb
      exact op_pow pins s σ H _ _ v u Q I rx ry ⟨_, _, rfl, rfl, ‹_›, fin hR q (.int _)⟩
    · cases hf
  · cases hf
theorem o_neg : UnR X (unaryOp .USub) (rOp1 X.K X.mg uNeg) := by
  intro pins s σ H x v Q I rx ⟨m, st, a, w, st', hR, ra, hf, q⟩
  unfold uNeg at hf
  split at hf
  · cases hf; cases ra
    exact un_neg pins s σ H _ v Q I rx ⟨_, rfl, fin hR q (.int _)⟩
  · cases hf
end

/-! ### comparisons -/
def eqG (s : Sto) (x y : PV) : Option Bool := match toD s x, toD s y with
  | some d, some e => if SeqAt.shaped d = true ∧ SeqAt.shaped e = true then some (PyData.eqv d e) else none
  | _, _ => none
def eqF (s : Sto) (x y : PV) : Option Bool := match x, y with
  | .str a, .str b => some (decide (a = b))
  | x, y => eqG s x y
def cEq : Op2 := fun s x y => (eqF s x y).map fun b => (.bl b, s)
def cNe : Op2 := fun s x y => (eqF s x y).map fun b => (.bl (!b), s)
def cLt : Op2 := fun s x y => match x, y with
  | .int i, .int j => some (.bl (decide (i < j)), s)
  | .str i, .str j => some (.bl (decide (i.cps.toList < j.cps.toList)), s)
  | _, _ => none
def cLe : Op2 := fun s x y => match x, y with
  | .int i, .int j => some (.bl (decide (i ≤ j)), s)
  | .str i, .str j => some (.bl (!decide (j.cps.toList < i.cps.toList)), s)
  | _, _ => none
def cGt : Op2 := fun s x y => match x, y with
  | .int i, .int j => some (.bl (decide (j < i)), s)
  | _, _ => none
def cGe : Op2 := fun s x y => match x, y with
  | .int i, .int j => some (.bl (decide (j ≤ i)), s)
  | _, _ => none
def cIs : Op2 := fun s x y => match y with
  | .non => some (.bl (decide (x = .non)), s)
  | _ => none
def cIsNot : Op2 := fun s x y => match y with
  | .non => some (.bl (!decide (x = .non)), s)
  | _ => none
/-- is x in y: a sign or text in a text, a flat thing among flat things, a key -/
def flatP : PV → Bool
  | .non => true
  | .bl _ => true
  | .int _ => true
  | .str _ => true
  | _ => false
def eqP : PV → PV → Bool
  | .non, .non => true
  | .bl a, .bl b => a == b
  | .bl a, .int j => (if a then 1 else 0) == j
  | .int i, .bl b => i == (if b then 1 else 0)
  | .int i, .int j => i == j
  | .str x, .str y => decide (x = y)
  | _, _ => false
def inF (s : Sto) (x y : PV) : Option Bool := match y with
  | .str j => match x with
    | .str i => some (!(Builtin.Str.occurrences j i 0 j.length 1).isEmpty)
    | _ => none
  | y => match dctOf s y with
    | some kvs => (toKey x).map fun k => (getP kvs (keyP k)).isSome
    | none => (seqOf s y).bind fun xs => if flatP x = true ∧ xs.all flatP = true then some (xs.any fun y => eqP y x) else none
def cIn : Op2 := fun s x y => (inF s x y).map fun b => (.bl b, s)
def cNotIn : Op2 := fun s x y => (inF s x y).map fun b => (.bl (!b), s)
section
variable {K : PySem.W.Frag} {mg : Str → Option Value} {m : List Addr} {H : Hp}
theorem flat_ok {u : PV} {x : V} (r : RV K mg m H u x) : flatP u = true → flatV x = true := by
  cases r <;> intro h <;> first | rfl | cases h
theorem flats_ok : ∀ {us : List PV} {xs : List V}, RVs K mg m H us xs → us.all flatP = true → xs.all flatV = true
  | _, _, .nil, _ => rfl
  | _, _, .cons r rs, h => by
    rw [List.all_cons, Bool.and_eq_true] at h
    rw [List.all_cons, flat_ok r h.1, flats_ok rs h.2]; rfl
theorem eqP_ok {u w : PV} {x y : V} (r : RV K mg m H u x) (r' : RV K mg m H w y) : eqV x y = eqP u w := by
  cases r <;> cases r' <;> first | rfl | (simp [eqV, eqP])
theorem anyP_ok {w : PV} {y : V} (r' : RV K mg m H w y) : ∀ {us : List PV} {xs : List V}, RVs K mg m H us xs → inV y xs = us.any fun z => eqP z w
  | _, _, .nil => rfl
  | _, _, .cons r rs => by
    show (eqV _ _ || inV _ _) = _
    rw [List.any_cons, eqP_ok r r', anyP_ok r' rs]
end
section
variable {X : Cx}
theorem o_eq (hu : X.A.units + 64 < cLine) : OpR X (compareOp .Eq) (rOp2 X.K X.mg cEq) := by
  intro pins s σ H x y v u Q I rx ry ⟨m, st, a, b, w, st', hR, ra, rb, hf, q⟩
  unfold cEq at hf
  cases hb : eqF st a b with
  | none => rw [hb] at hf; cases hf
  | some r =>
  rw [hb] at hf
  cases hf
  unfold eqF at hb
  split at hb
  · cases hb; cases ra; cases rb
    refine op_eq pins s σ H _ _ v u Q I rx ry ⟨rfl, ?_⟩
    have e : ∀ x y : Str, decide (V.str x = V.str y) = decide (x = y) := fun x y => by rw [Bool.eq_iff_iff]; simp
    rw [e]
    exact fin hR q (.bl _)
  unfold eqG at hb
  split at hb
  · rename_i d e hd he
    split at hb
    · cases hb
      exact op_eqD hu pins s σ H x y v u Q I rx ry ⟨d, e, toD_ok hR ra hd, toD_ok hR rb he, ‹_ ∧ _›.1, ‹_ ∧ _›.2, fin hR q (.bl _)⟩
    · cases hb
  · cases hb
theorem o_ne (hu : X.A.units + 64 < cLine) : OpR X (compareOp .NotEq) (rOp2 X.K X.mg cNe) := by
  intro pins s σ H x y v u Q I rx ry ⟨m, st, a, b, w, st', hR, ra, rb, hf, q⟩
  unfold cNe at hf
  cases hb : eqF st a b with
  | none => rw [hb] at hf; cases hf
  | some r =>
  rw [hb] at hf
  cases hf
  unfold eqF at hb
  split at hb
  · cases hb; cases ra; cases rb
    refine op_ne pins s σ H _ _ v u Q I rx ry ⟨rfl, ?_⟩
    have e : ∀ x y : Str, decide (V.str x = V.str y) = decide (x = y) := fun x y => by rw [Bool.eq_iff_iff]; simp
    rw [e]
    exact fin hR q (.bl _)
  unfold eqG at hb
  split at hb
  · rename_i d e hd he
    split at hb
    · cases hb
      exact op_neD hu pins s σ H x y v u Q I rx ry ⟨d, e, toD_ok hR ra hd, toD_ok hR rb he, ‹_ ∧ _›.1, ‹_ ∧ _›.2, fin hR q (.bl _)⟩
    · cases hb
  · cases hb
theorem o_lt : OpR X (compareOp .Lt) (rOp2 X.K X.mg cLt) := by
  intro pins s σ H x y v u Q I rx ry ⟨m, st, a, b, w, st', hR, ra, rb, hf, q⟩
  unfold cLt at hf
  split at hf
  · cases hf; cases ra; cases rb
    exact op_lt pins s σ H _ _ v u Q I rx ry ⟨_, _, rfl, rfl, fin hR q (.bl _)⟩
  · cases hf; cases ra; cases rb
    exact op_lt_str pins s σ H _ _ v u Q I rx ry ⟨_, _, rfl, rfl, fin hR q (.bl _)⟩
  · cases hf
theorem o_le : OpR X (compareOp .LtE) (rOp2 X.K X.mg cLe) := by
  intro pins s σ H x y v u Q I rx ry ⟨m, st, a, b, w, st', hR, ra, rb, hf, q⟩
  unfold cLe at hf
  split at hf
  · cases hf; cases ra; cases rb
    exact op_le pins s σ H _ _ v u Q I rx ry ⟨_, _, rfl, rfl, fin hR q (.bl _)⟩
  · cases hf; cases ra; cases rb
    exact op_le_str pins s σ H _ _ v u Q I rx ry ⟨_, _, rfl, rfl, fin hR q (.bl _)⟩
  · cases hf
theorem o_gt : OpR X (compareOp .Gt) (rOp2 X.K X.mg cGt) := by
  intro pins s σ H x y v u Q I rx ry ⟨m, st, a, b, w, st', hR, ra, rb, hf, q⟩
  unfold cGt at hf
  split at hf
  · cases hf; cases ra; cases rb
    exact op_gt pins s σ H _ _ v u Q I rx ry ⟨_, _, rfl, rfl, fin hR q (.bl _)⟩
  · cases hf
theorem o_ge : OpR X (compareOp .GtE) (rOp2 X.K X.mg cGe) := by
  intro pins s σ H x y v u Q I rx ry ⟨m, st, a, b, w, st', hR, ra, rb, hf, q⟩
  unfold cGe at hf
  split at hf
  · cases hf; cases ra; cases rb
    exact op_ge pins s σ H _ _ v u Q I rx ry ⟨_, _, rfl, rfl, fin hR q (.bl _)⟩
  · cases hf
theorem RV.non_iff {K : PySem.W.Frag} {mg : Str → Option Value} {m : List Addr} {H : Hp} {u : PV} {x : V} (r : RV K mg m H u x) : decide (x = .non) = decide (u = .non) := by
  cases r <;> rfl
theorem o_is : OpR X (compareOp .Is) (rOp2 X.K X.mg cIs) := by
  intro pins s σ H x y v u Q I rx ry ⟨m, st, a, b, w, st', hR, ra, rb, hf, q⟩
  unfold cIs at hf
  split at hf
  · cases hf; cases rb
    exact op_isN pins s σ H _ _ v u Q I rx ry ⟨rfl, by rw [ra.non_iff]; exact fin hR q (.bl _)⟩
  · cases hf
theorem o_isNot : OpR X (compareOp .IsNot) (rOp2 X.K X.mg cIsNot) := by
  intro pins s σ H x y v u Q I rx ry ⟨m, st, a, b, w, st', hR, ra, rb, hf, q⟩
  unfold cIsNot at hf
  split at hf
  · cases hf; cases rb
    exact op_notN pins s σ H _ _ v u Q I rx ry ⟨rfl, by rw [ra.non_iff]; exact fin hR q (.bl _)⟩
  · cases hf
theorem inF_ok (hu : X.A.units + 1 < cLine) {pins : List (Addr × Obj)} {s : Shared} {σ : L2.St} {H : Hp} {x y : V} {v u : Value} {m : List Addr} {st : Sto} {a b : PV} {r : Bool} (I : Inv X pins σ H s) (rx : RelV x v) (ry : RelV y u)
    (hR : Rep X.K X.mg m H st) (ra : RV X.K X.mg m H a x) (rb : RV X.K X.mg m H b y) (hf : inF st a b = some r) :
    (∀ Q : VK, Q (.bl r) H → wpAny (model X.prog X.w) X.A (compareOp .In v u) (EP X pins σ Q) X.xe s) ∧ ∀ Q : VK, Q (.bl (!r)) H → wpAny (model X.prog X.w) X.A (compareOp .NotIn v u) (EP X pins σ Q) X.xe s := by
  unfold inF at hf
  split at hf
  · split at hf
    · cases hf; cases ra; cases rb
      exact ⟨fun Q q => op_in_str pins s σ H _ _ v u Q I rx ry ⟨_, _, rfl, rfl, q⟩, fun Q q => op_notIn_str pins s σ H _ _ v u Q I rx ry ⟨_, _, rfl, rfl, q⟩⟩
    · cases hf
  · split at hf
    · rename_i kvs hd
      obtain ⟨d, vs, rfl, hrd, rk⟩ := dctOf_ok hR rb hd
      cases hk : toKey a with
      | none => rw [hk] at hf; cases hf
      | some k =>
        rw [hk] at hf
        cases hf
        have ea := toKey_ok hk
        subst ea
        have ex := ra.key
        subst ex
        cases ry
        have hs : (valV vs k).isSome = (getP kvs (keyP k)).isSome := by
          cases hg : getP kvs (keyP k) with
          | none => rw [(rk.get k).2 hg]; rfl
          | some w => obtain ⟨z, hz, _⟩ := (rk.get k).1 w hg; rw [hz]; rfl
        have g : DGet H d (kV k) (valV vs k) := .inl ⟨vs, k, hrd, rfl, rfl⟩
        exact ⟨fun Q q => d_in hu I g rx fun s3 I3 => ⟨.bl _, H, I3, rfl, by rw [hs]; exact q⟩, fun Q q => d_notIn hu I g rx fun s3 I3 => ⟨.bl _, H, I3, rfl, by rw [hs]; exact q⟩⟩
    · cases hq : seqOf st b with
      | none => rw [hq] at hf; cases hf
      | some xs =>
        rw [hq] at hf
        obtain ⟨d, vs, rfl, hrd, rs⟩ := seqOf_ok hR rb hq
        have hf : (if flatP a = true ∧ xs.all flatP = true then some (xs.any fun y => eqP y a) else none) = some r := hf
        split at hf
        · cases hf
          refine ⟨fun Q q => op_in_seq pins s σ H _ _ v u Q I rx ry ⟨d, vs, rfl, hrd, flat_ok ra ‹_ ∧ _›.1, flats_ok rs ‹_ ∧ _›.2, ?_⟩, fun Q q => op_notIn_seq pins s σ H _ _ v u Q I rx ry ⟨d, vs, rfl, hrd, flat_ok ra ‹_ ∧ _›.1, flats_ok rs ‹_ ∧ _›.2, ?_⟩⟩
          · rw [anyP_ok ra rs]; exact q
          · rw [anyP_ok ra rs]; exact q
        · cases hf
theorem o_in (hu : X.A.units + 1 < cLine) : OpR X (compareOp .In) (rOp2 X.K X.mg cIn) := by
  intro pins s σ H x y v u Q I rx ry ⟨m, st, a, b, w, st', hR, ra, rb, hf, q⟩
  unfold cIn at hf
  cases hi : inF st a b with
  | none => rw [hi] at hf; cases hf
  | some r => rw [hi] at hf; cases hf; exact (inF_ok hu I rx ry hR ra rb hi).1 Q (fin hR q (.bl _))
theorem o_notIn (hu : X.A.units + 1 < cLine) : OpR X (compareOp .NotIn) (rOp2 X.K X.mg cNotIn) := by
  intro pins s σ H x y v u Q I rx ry ⟨m, st, a, b, w, st', hR, ra, rb, hf, q⟩
  unfold cNotIn at hf
  cases hi : inF st a b with
  | none => rw [hi] at hf; cases hf
  | some r => rw [hi] at hf; cases hf; exact (inF_ok hu I rx ry hR ra rb hi).2 Q (fin hR q (.bl _))
end

/-! ### subscripts, slices, stores, lengths -/
def ixF : Op2 := fun s x y => match x with
  | .str z => match y with
    | .int i => if z.length ≤ sizeLine then (atI z.cps.toList i).map fun c => (.str ⟨#[c]⟩, s) else none
    | _ => none
  | x => match dctOf s x with
    | some kvs => (toKey y).bind fun k => (getP kvs (keyP k)).map (·, s)
    | none => match y with
      | .int i => (seqOf s x).bind fun xs => (atI xs i).map (·, s)
      | _ => none
def cutP (xs : List PV) (lo hi : Option Int) : List PV := (xs.drop (HT.sIx xs.length 0 lo)).take (HT.sIx xs.length xs.length hi - HT.sIx xs.length 0 lo)
def slF : Sto → PV → Option Int → Option Int → O PV := fun s x lo hi => match x with
  | .str z => if z.length ≤ sizeLine then some (.str (cutS z lo hi), s) else none
  | .tup xs => some (.tup (cutP xs lo hi), s)
  | .obj n => (lstOf s (.obj n)).map fun xs => (.obj s.length, s ++ [.lst (cutP xs lo hi)])
  | _ => none
def lenF : OpN := fun s xs => match xs with
  | [.str z] => if z.length ≤ sizeLine then some (.int z.length, s) else none
  | [x] => match dctOf s x with
    | some kvs => some (.int kvs.length, s)
    | none => (seqOf s x).map fun xs => (.int xs.length, s)
  | _ => none
section
variable {K : PySem.W.Frag} {mg : Str → Option Value} {m : List Addr} {H : Hp}
theorem RVs.atI {xs : List PV} {vs : List V} {i : Int} {x : PV} (r : RVs K mg m H xs vs) (h : L2.atI xs i = some x) : ∃ v, L2.atI vs i = some v ∧ RV K mg m H x v := by
  unfold L2.atI at h ⊢
  rw [← r.length]
  cases e : ixN xs.length i with
  | none => rw [e] at h; cases h
  | some j => rw [e] at h; exact r.get h
theorem RVs.cut {xs : List PV} {vs : List V} (r : RVs K mg m H xs vs) (lo hi : Option Int) : RVs K mg m H (cutP xs lo hi) (cutV vs lo hi) := by
  unfold cutP cutV
  rw [← r.length]
  exact (r.drop _).take _
end
section
variable {X : Cx}
theorem ix_dict (hu : X.A.units + 1 < cLine) : IxR X (fun x y H Q => ∃ a v, x = .ref a ∧ DGet H a y (some v) ∧ Q v H) := by
  intro value slice pins s σ H x y v u Q I rx ry ⟨a, w, ex, g, q⟩ hs
  subst ex
  cases rx
  have hT : s.TypeIs (.ref a) "dict" := by
    rcases g with ⟨kvs, k, e, ey, l⟩ | ⟨kvs, k, b, e, ey, eb, l⟩
    · obtain ⟨z, hd, vs, rel, dd⟩ := dk_rd I.hok e; exact dd.typeIs
    · obtain ⟨z, hd, xs, rel, dd⟩ := dt_rd I.hok e; exact dd.typeIs
  exact tail_any hT PySem.F.slot_dict_getitem.lookup (d_getItem hu I g ry fun w' s' I' r => ⟨w, H, I', r, q⟩) hs
theorem o_ix (hu : X.A.units + 1 < cLine) : IxR X (rOp2 X.K X.mg ixF) := by
  intro value slice pins s σ H x y v u Q I rx ry ⟨m, st, a, b, w, st', hR, ra, rb, hf, q⟩ hs
  unfold ixF at hf
  split at hf
  · rename_i z
    split at hf
    · rename_i i
      split at hf
      · cases hc : atI z.cps.toList i with
        | none => rw [hc] at hf; cases hf
        | some c =>
          rw [hc] at hf
          cases hf; cases ra; cases rb
          exact ix_str value slice pins s σ H _ _ v u Q I rx ry ⟨_, _, c, rfl, rfl, ‹_›, hc, fin hR q (.str _)⟩ hs
      · cases hf
    · cases hf
  · split at hf
    · rename_i kvs hd
      obtain ⟨d, vs, rfl, hrd, rk⟩ := dctOf_ok hR ra hd
      cases hk : toKey b with
      | none => rw [hk] at hf; cases hf
      | some k =>
        rw [hk] at hf
        have hf : (getP kvs (keyP k)).map (·, st) = some (w, st') := hf
        cases hg : getP kvs (keyP k) with
        | none => rw [hg] at hf; cases hf
        | some z =>
          rw [hg] at hf
          cases hf
          have eb := toKey_ok hk
          subst eb
          have ey := rb.key
          subst ey
          obtain ⟨zv, hz, rz⟩ := (rk.get k).1 w hg
          exact ix_dict hu value slice pins s σ H _ _ v u Q I rx ry ⟨d, zv, rfl, .inl ⟨vs, k, hrd, rfl, hz.symm⟩, fin hR q rz⟩ hs
    · split at hf
      · cases hq : seqOf st a with
        | none => rw [hq] at hf; cases hf
        | some xs =>
          rw [hq] at hf
          obtain ⟨d, vs, rfl, hrd, rs⟩ := seqOf_ok hR ra hq
          rename_i i
          have hf : (atI xs i).map (·, st) = some (w, st') := hf
          cases hg : atI xs i with
          | none => rw [hg] at hf; cases hf
          | some z =>
            rw [hg] at hf
            cases hf; cases rb
            obtain ⟨zv, hz, rz⟩ := rs.atI hg
            rcases hrd with h1 | h1
            · exact ix_list value slice pins s σ H _ _ v u Q I rx ry ⟨d, vs, i, zv, rfl, rfl, h1, hz, fin hR q rz⟩ hs
            · exact ix_tup value slice pins s σ H _ _ v u Q I rx ry ⟨d, vs, i, zv, rfl, rfl, h1, hz, fin hR q rz⟩ hs
      · cases hf
theorem o_len : CallR X (.builtin "len") (rOpN X.K X.mg lenF) := by
  intro pins s σ H xs us Q I rx ⟨m, st, as, w, st', hR, ra, hf, q⟩
  unfold lenF at hf
  split at hf
  · split at hf
    · cases hf
      cases ra with
      | cons r t =>
        cases t; cases r
        exact call_len_str pins s σ H _ us Q I rx ⟨_, rfl, ‹_›, fin hR q (.int _)⟩
    · cases hf
  · split at hf
    · rename_i kvs hd
      cases hf
      cases ra with
      | cons r t =>
        cases t
        obtain ⟨d, vs, rfl, hrd, rk⟩ := dctOf_ok hR r hd
        obtain ⟨u, rfl, rv⟩ := Vals.one rx
        cases rv
        exact d_len I hrd fun t s' I' => ⟨.int _, H, I', ⟨t, rfl⟩, by rw [← rk.length]; exact fin hR q (.int _)⟩
    · cases hq : seqOf st _ with
      | none => rw [hq] at hf; cases hf
      | some ys =>
        rw [hq] at hf
        cases hf
        cases ra with
        | cons r t =>
          cases t
          obtain ⟨d, vs, rfl, hrd, rs⟩ := seqOf_ok hR r hq
          exact call_len_seq pins s σ H _ us Q I rx ⟨d, vs, rfl, hrd, by rw [← rs.length]; exact fin hR q (.int _)⟩
  · cases hf
theorem o_sl : SlR X (rSlF X.K X.mg slF) := by
  intro pins s σ H x v vl vu lo hi sl Q I rx hs pl pu ⟨m, st, a, w, st', hR, ra, hf, q⟩
  unfold slF at hf
  split at hf
  · split at hf
    · cases hf; cases ra
      exact sl_str pins s σ H _ v vl vu lo hi sl Q I rx hs pl pu ⟨_, rfl, ‹_›, fin hR q (.str _)⟩
    · cases hf
  · cases hf
    cases ra with
    | tup ta rs =>
      refine sl_tupA pins s σ H _ v vl vu lo hi sl Q I rx hs pl pu ⟨_, _, rfl, ta.sq, fun hw => ?_, fun _ => finT hR q (rs.cut lo hi)⟩
      have rc := rs.cut lo hi
      rename_i xs _ vs
      have e : cutP xs lo hi = xs := by
        unfold cutP
        rw [rs.length, hw.1, hw.2, ← rs.length]
        simp
      rw [e] at q
      exact fin hR q (.tup ta rs)
  · rename_i n
    cases hl : lstOf st (.obj n) with
    | none => rw [hl] at hf; cases hf
    | some xs =>
      rw [hl] at hf
      cases hf
      obtain ⟨d, vs, rfl, hrd, rs⟩ := lstOf_ok hR ra hl
      exact sl_list pins s σ H _ v vl vu lo hi sl Q I rx hs pl pu ⟨d, vs, rfl, hrd, finL hR q (rs.cut lo hi)⟩
  · cases hf
end
end FS

/-! FS: what loops walk, comprehensions, locks. -/
namespace FS
open PySem PySem.Spec PyProof.Rows L2

/-! ### a value walked: a list, a tuple, a text, a locked dict's keys -/
def iVal (K : PySem.W.Frag) (x : V) (H : Hp) (R : It → Hp → Prop) : Prop :=
  (∃ a, x = .ref a ∧ (∃ xs, SqL K H a xs) ∧ R (Itl K a) H) ∨ (∃ a, x = .ref a ∧ (∃ xs, SqT K H a xs) ∧ R (Itt K a) H) ∨ (∃ z, x = .str z ∧ R (Its z) H) ∨ ∃ d o kvs, x = .ref d ∧ H d = some (.frz o (.dK kvs)) ∧ R (Itk d o kvs) H
theorem pi_val {X : Cx} {tg e : Expr} {te : TE} (he : PE X e te) : PI X tg e (fun σ H R => te σ H fun x H1 => iVal X.K x H1 R) := by
  refine ⟨fun pins s σ H R I h => ?_⟩
  refine thn (he.run pins s σ H _ I h) fun v s1 ⟨x, H1, I1, r1, q1⟩ => ?_
  rcases q1 with ⟨a, e, ⟨xs, hq⟩, q⟩ | ⟨a, e, ⟨xs, hq⟩, q⟩ | ⟨z, e, q⟩ | ⟨d, o, kvs, e, hd, q⟩
  · subst e
    cases r1
    obtain ⟨its, rv, p, hz⟩ := I1.list hq
    refine wpAny_pyIter_list p.isList ?_
    refine ⟨s1.heap.objs.size, [s1.heap.objs.size], _, _, H1, rfl, I1.kept (t' := s1.toks) fun b o e => Heap.get?_push_of_some _ e, turn_list a _, ⟨_, Heap.get?_push_size _ rfl, rfl, rfl⟩, fun b hb => ?_, q⟩
    have e : b = s1.heap.objs.size := by simpa using hb
    subst e
    exact I1.fpOk (Nat.le_refl _) (I1.hok.fresh (Nat.le_refl _))
  · subst e
    cases r1
    obtain ⟨its, rv, p, hz⟩ := I1.tuple hq
    refine wpAny_pyIter_tuple (show s1.heap.IsTuple a its.toArray from p) ?_
    refine ⟨s1.heap.objs.size, [s1.heap.objs.size], _, _, H1, rfl, I1.kept (t' := s1.toks) fun b o e => Heap.get?_push_of_some _ e, turn_tuple a _, ⟨_, Heap.get?_push_size _ rfl, rfl, rfl⟩, fun b hb => ?_, q⟩
    have e : b = s1.heap.objs.size := by simpa using hb
    subst e
    exact I1.fpOk (Nat.le_refl _) (I1.hok.fresh (Nat.le_refl _))
  · subst e
    obtain ⟨t, rfl⟩ := r1
    cases ha : z.cps.all (· < 128)
    · exact wpAny_pyIter_wide ha (pi_one (tk := s1.toks) I1 _ (turn_str _ z t "str_iterator" (.inr rfl)) ⟨_, Heap.get?_push_size _ rfl, rfl, rfl⟩ q)
    · exact wpAny_pyIter_ascii ha (pi_one (tk := s1.toks) I1 _ (turn_str _ z t "str_ascii_iterator" (.inl rfl)) ⟨_, Heap.get?_push_size _ rfl, rfl, rfl⟩ q)
  · subst e
    cases r1
    obtain ⟨hs, hgd, hx, es, ep, vs, hdt, hsz, kv, hm⟩ := I1.frzK hd
    refine iter_keys hs hgd hx hdt (pi_one (tk := s1.toks) I1 _ (turn_keys _ hdt) ⟨_, Heap.get?_push_size _ rfl, rfl, ?_⟩ q)
    rw [hsz] <;> rfl
def signP (c : Nat) : PV := .str ⟨#[c]⟩
abbrev IF := Env → Sto → R ItD
def valIt (s : Sto) (v : PV) : Option ItD := match v with
  | .str z => some ⟨z.cps.toList.map signP, fun _ => true⟩
  | .tup xs => some ⟨xs, fun _ => true⟩
  | .obj n => match s[n]? with
    | some (.lst xs) => some ⟨xs, fun s' => decide (lstOf s' (.obj n) = some xs)⟩
    | some (.frz (.lst xs)) => some ⟨xs, fun s' => decide (lstOf s' (.obj n) = some xs)⟩
    | some (.frz (.dct kvs)) => some ⟨kvs.map (·.1), fun _ => true⟩
    | _ => none
  | _ => none
def R.ofI (o : Option ItD) (s : Sto) : R ItD := match o with
  | some d => .ok d s
  | none => .bad
def iOf (g : XF) : IF := fun ρ s => (g ρ s).bind fun v s1 => R.ofI (valIt s1 v) s1
def iRange1 (g : Env → Sto → R (List PV)) : IF := fun ρ s => (g ρ s).bind fun vs s1 => match vs with
  | [.int j] => if -(2 ^ 62) ≤ j ∧ j < 2 ^ 62 then .ok ⟨(List.range j.toNat).map fun (i : Nat) => .int (i : Int), fun _ => true⟩ s1 else .bad
  | _ => .bad
def iRange2 (g : Env → Sto → R (List PV)) : IF := fun ρ s => (g ρ s).bind fun vs s1 => match vs with
  | [.int i, .int j] => if -(2 ^ 62) ≤ i ∧ i < 2 ^ 62 ∧ -(2 ^ 62) ≤ j ∧ j < 2 ^ 62 then .ok ⟨(List.range (j - i).toNat).map fun k => .int (i + (k : Nat)), fun _ => true⟩ s1 else .bad
  | _ => .bad
/-- downward by ones -/
def iRange3 (g : Env → Sto → R (List PV)) : IF := fun ρ s => (g ρ s).bind fun vs s1 => match vs with
  | [.int i, .int j, .int c] => if c ≠ 0 ∧ c.natAbs < 1073741824 ∧ Builtin.Range.small i j c = true ∧ 0 ≤ Builtin.Range.rangeSize i j c then .ok ⟨(List.range (Builtin.Range.rangeSize i j c).toNat).map fun k => .int (i + (k : Nat) * c), fun _ => true⟩ s1 else .bad
  | _ => .bad
def iEnumL (g : Env → Sto → R (List PV)) : IF := fun ρ s => (g ρ s).bind fun vs s1 => match vs with
  | [v] => match lstOf s1 v with
    | some xs => .ok ⟨(List.range xs.length).map fun (i : Nat) => .tup [.int (i : Int), xs.getD i .non], fun s' => decide (lstOf s' v = some xs)⟩ s1
    | none => .bad
  | _ => .bad
/-- of lists or of tuples -/
def iZip2 (g : Env → Sto → R (List PV)) : IF := fun ρ s => (g ρ s).bind fun vs s1 => match vs with
  | [.tup xs, .tup ys] => .ok ⟨(xs.zip ys).map fun p => .tup [p.1, p.2], fun _ => true⟩ s1
  | [v, w] => match lstOf s1 v, lstOf s1 w with
    | some xs, some ys => .ok ⟨(xs.zip ys).map fun p => .tup [p.1, p.2], fun s' => decide (lstOf s' v = some xs) && decide (lstOf s' w = some ys)⟩ s1
    | _, _ => .bad
  | _ => .bad
/-- a locked dict -/
def lockedOf (s : Sto) : PV → Option (List (PV × PV))
  | .obj n => match s[n]? with
    | some (.frz (.dct xs)) => some xs
    | _ => none
  | _ => none
def iItemsD (g : XF) : IF := fun ρ s => (g ρ s).bind fun v s1 => R.ofI ((lockedOf s1 v).map fun kvs => ⟨kvs.map fun p => .tup [p.1, p.2], fun _ => true⟩) s1
def iValuesD (g : XF) : IF := fun ρ s => (g ρ s).bind fun v s1 => R.ofI ((lockedOf s1 v).map fun kvs => ⟨kvs.map (·.2), fun _ => true⟩) s1
section
variable {K : PySem.W.Frag} {mg : Str → Option Value} {m : List Addr} {H : Hp} {s : Sto}
theorem rel_list {v : PV} {a : Addr} (r : RV K mg m H v (.ref a)) {xs : List PV} : relI K mg m H ⟨xs, fun s' => decide (lstOf s' v = some xs)⟩ (Itl K a) := by
  intro i m' H' st' e hR hk
  obtain ⟨b, vs, e2, hs, rs⟩ := lstOf_ok hR (r.mono e) (of_decide_eq_true hk)
  cases e2
  refine ⟨fun x hx => ?_, fun hi => ⟨vs, hs, by rw [hi, ← rs.length]; exact Nat.le_refl _⟩⟩
  obtain ⟨y, hy, ry⟩ := rs.get hx
  refine ⟨⟨vs, y, hs, hy⟩, fun y' H'' h => ?_⟩
  obtain ⟨h1, h2⟩ := h
  subst h1
  have := h2 vs hs
  rw [hy] at this; cases this
  exact ⟨Ext.refl _ _, hR, ry⟩
theorem rel_tup {a : Addr} {xs : List PV} {vs : List V} (t : TupAt K H a vs) (rs : RVs K mg m H xs vs) : relI K mg m H ⟨xs, fun _ => true⟩ (Itt K a) := by
  intro i m' H' st' e hR _
  have t' := (t.mono e).sq
  have rs' := rs.mono e
  refine ⟨fun x hx => ?_, fun hi => ⟨vs, t', by rw [hi, ← rs.length]; exact Nat.le_refl _⟩⟩
  obtain ⟨y, hy, ry⟩ := rs'.get hx
  refine ⟨⟨vs, y, t', hy⟩, fun y' H'' h => ?_⟩
  obtain ⟨h1, h2⟩ := h
  subst h1
  have := h2 vs t'
  rw [hy] at this; cases this
  exact ⟨Ext.refl _ _, hR, ry⟩
theorem rel_str {z : Str} : relI K mg m H ⟨z.cps.toList.map signP, fun _ => true⟩ (Its z) := by
  intro i m' H' st' e hR _
  refine ⟨fun x hx => ?_, fun hi => ?_⟩
  · rw [List.getElem?_map, Array.getElem?_toList] at hx
    cases hc : z.cps[i]? with
    | none => rw [hc] at hx; cases hx
    | some c =>
      rw [hc] at hx; cases hx
      refine ⟨(Array.getElem?_eq_some_iff.mp hc).1, fun y H'' h => ?_⟩
      obtain ⟨h1, c', h2, rfl⟩ := h
      subst h1
      rw [hc] at h2; cases h2
      exact ⟨Ext.refl _ _, hR, .str _⟩
  · show z.cps.size ≤ i
    rw [hi]; simp
theorem rel_keys {d : Addr} {o : Obj} {kvs : List (PV × PV)} {vs : List (Key × V)} (hd : H d = some (.frz o (.dK vs))) (rk : RKV K mg m H kvs vs) : relI K mg m H ⟨kvs.map (·.1), fun _ => true⟩ (Itk d o vs) := by
  intro i m' H' st' e hR _
  have hd' := e.frz _ _ _ hd
  refine ⟨fun x hx => ?_, fun hi => ⟨hd', by rw [hi, List.length_map, rk.length]; exact Nat.le_refl _⟩⟩
  rw [List.getElem?_map] at hx
  cases hc : kvs[i]? with
  | none => rw [hc] at hx; cases hx
  | some p =>
    rw [hc] at hx; cases hx
    obtain ⟨k, v, hv, hk, rv⟩ := rk.at hc
    refine ⟨⟨hd', (List.getElem?_eq_some_iff.mp hv).1⟩, fun y H'' h => ?_⟩
    obtain ⟨h1, k', v', h2, rfl⟩ := h
    subst h1
    rw [hv] at h2; cases h2
    show _ ∧ _ ∧ RV K mg m' H'' p.1 _
    rw [hk]
    exact ⟨Ext.refl _ _, hR, RV.key' k⟩
theorem rel_values {d : Addr} {o : Obj} {kvs : List (PV × PV)} {vs : List (Key × V)} (hd : H d = some (.frz o (.dK vs))) (rk : RKV K mg m H kvs vs) : relI K mg m H ⟨kvs.map (·.2), fun _ => true⟩ (Itd d o vs) := by
  intro i m' H' st' e hR _
  have hd' := e.frz _ _ _ hd
  refine ⟨fun x hx => ?_, fun hi => ⟨hd', by rw [hi, List.length_map, rk.length]; exact Nat.le_refl _⟩⟩
  rw [List.getElem?_map] at hx
  cases hc : kvs[i]? with
  | none => rw [hc] at hx; cases hx
  | some p =>
    rw [hc] at hx; cases hx
    obtain ⟨k, v, hv, hk, rv⟩ := (rk.mono e).at hc
    refine ⟨⟨hd', (List.getElem?_eq_some_iff.mp hv).1⟩, fun y H'' h => ?_⟩
    obtain ⟨h1, k', h2⟩ := h
    subst h1
    rw [hv] at h2; cases h2
    exact ⟨Ext.refl _ _, hR, rv⟩
theorem rel_items {d : Addr} {o : Obj} {kvs : List (PV × PV)} {vs : List (Key × V)} (hd : H d = some (.frz o (.dK vs))) (rk : RKV K mg m H kvs vs) : relI K mg m H ⟨kvs.map fun p => .tup [p.1, p.2], fun _ => true⟩ (Iti d o vs) := by
  intro i m' H' st' e hR _
  have hd' := e.frz _ _ _ hd
  refine ⟨fun x hx => ?_, fun hi => ⟨hd', by rw [hi, List.length_map, rk.length]; exact Nat.le_refl _⟩⟩
  rw [List.getElem?_map] at hx
  cases hc : kvs[i]? with
  | none => rw [hc] at hx; cases hx
  | some p =>
    rw [hc] at hx; cases hx
    obtain ⟨k, v, hv, hk, rv⟩ := (rk.mono e).at hc
    refine ⟨⟨hd', (List.getElem?_eq_some_iff.mp hv).1⟩, fun y H'' h => ?_⟩
    obtain ⟨T, k', v', h2, rfl, hT, rfl⟩ := h
    rw [hv] at h2; cases h2
    have e2 := Ext.lay0 (m := m') (o := .tup [kV k, v]) hT
    refine ⟨e2, hR.lay0 hT, .tup (.inl upd_same) ?_⟩
    show RVs K mg m' _ [p.1, p.2] _
    rw [hk]
    exact .cons (RV.key' k) (.cons (rv.mono e2) .nil)
theorem rel_range (lo : Int) (n : Nat) : relI K mg m H ⟨(List.range n).map fun k => .int (lo + (k : Nat)), fun _ => true⟩ (Itr lo n) := by
  intro i m' H' st' e hR _
  refine ⟨fun x hx => ?_, fun hi => by show n ≤ i; rw [hi]; simp⟩
  rw [List.getElem?_map] at hx
  cases hc : (List.range n)[i]? with
  | none => rw [hc] at hx; cases hx
  | some k =>
    rw [hc] at hx; cases hx
    obtain ⟨h1, h2⟩ := List.getElem?_eq_some_iff.mp hc
    rw [List.getElem_range] at h2
    subst h2
    refine ⟨show i < n by simpa using h1, fun y H'' h => ?_⟩
    obtain ⟨h1, rfl⟩ := h
    subst h1
    exact ⟨Ext.refl _ _, hR, .int _⟩
theorem rel_rangeC (lo c : Int) (n : Nat) : relI K mg m H ⟨(List.range n).map fun k => .int (lo + (k : Nat) * c), fun _ => true⟩ (Itc lo c n) := by
  intro i m' H' st' e hR _
  refine ⟨fun x hx => ?_, fun hi => by show n ≤ i; rw [hi]; simp⟩
  rw [List.getElem?_map] at hx
  cases hc : (List.range n)[i]? with
  | none => rw [hc] at hx; cases hx
  | some k =>
    rw [hc] at hx; cases hx
    obtain ⟨h1, h2⟩ := List.getElem?_eq_some_iff.mp hc
    rw [List.getElem_range] at h2
    subst h2
    refine ⟨show i < n by simpa using h1, fun y H'' h => ?_⟩
    obtain ⟨h1, rfl⟩ := h
    subst h1
    exact ⟨Ext.refl _ _, hR, .int _⟩
theorem rel_enum {v : PV} {a : Addr} (r : RV K mg m H v (.ref a)) {xs : List PV} : relI K mg m H ⟨(List.range xs.length).map fun (i : Nat) => .tup [.int (i : Int), xs.getD i .non], fun s' => decide (lstOf s' v = some xs)⟩ (Ite K a) := by
  intro i m' H' st' e hR hk
  obtain ⟨b, vs, e2, hs, rs⟩ := lstOf_ok hR (r.mono e) (of_decide_eq_true hk)
  cases e2
  refine ⟨fun x hx => ?_, fun hi => ⟨vs, hs, by rw [hi, ← rs.length]; simp⟩⟩
  rw [List.getElem?_map] at hx
  cases hc : (List.range xs.length)[i]? with
  | none => rw [hc] at hx; cases hx
  | some k =>
    rw [hc] at hx; cases hx
    obtain ⟨h1, h2⟩ := List.getElem?_eq_some_iff.mp hc
    rw [List.getElem_range] at h2
    subst h2
    have h1 : i < xs.length := by simpa using h1
    obtain ⟨y, hy, ry⟩ := rs.get (List.getElem?_eq_getElem h1)
    refine ⟨⟨vs, y, hs, hy⟩, fun y' H'' h => ?_⟩
    obtain ⟨T, y2, rfl, hT, rfl, hq⟩ := h
    have := hq vs hs
    rw [hy] at this; cases this
    have e2 := Ext.lay0 (m := m') (o := .tup [.int (i : Nat), y]) hT
    refine ⟨e2, hR.lay0 hT, .tup (.inl upd_same) (.cons (.int _) (.cons ?_ .nil))⟩
    rw [List.getD_eq_getElem?_getD, List.getElem?_eq_getElem h1]
    exact ry.mono e2
theorem zip_get {α β : Type} {xs : List α} {ys : List β} {i : Nat} {p : α × β} (h : (xs.zip ys)[i]? = some p) : xs[i]? = some p.1 ∧ ys[i]? = some p.2 := by
  rw [List.getElem?_zip_eq_some] at h; exact h
theorem rel_zipL {v w : PV} {a b : Addr} (r : RV K mg m H v (.ref a)) (r' : RV K mg m H w (.ref b)) {xs ys : List PV} :
    relI K mg m H ⟨(xs.zip ys).map fun p => .tup [p.1, p.2], fun s' => decide (lstOf s' v = some xs) && decide (lstOf s' w = some ys)⟩ (Itz K a b) := by
  intro i m' H' st' e hR hk
  have hk : (decide (lstOf st' v = some xs) && decide (lstOf st' w = some ys)) = true := hk
  rw [Bool.and_eq_true] at hk
  obtain ⟨b1, vs, e2, hs, rs⟩ := lstOf_ok hR (r.mono e) (of_decide_eq_true hk.1)
  cases e2
  obtain ⟨b2, ws, e2, hs2, rs2⟩ := lstOf_ok hR (r'.mono e) (of_decide_eq_true hk.2)
  cases e2
  refine ⟨fun x hx => ?_, fun hi => ⟨vs, ws, hs, hs2, ?_⟩⟩
  · rw [List.getElem?_map] at hx
    cases hc : (xs.zip ys)[i]? with
    | none => rw [hc] at hx; cases hx
    | some p =>
      rw [hc] at hx; cases hx
      obtain ⟨h1, h2⟩ := zip_get hc
      obtain ⟨y, hy, ry⟩ := rs.get h1
      obtain ⟨z, hz, rz⟩ := rs2.get h2
      refine ⟨⟨vs, ws, y, z, hs, hs2, hy, hz⟩, fun y' H'' h => ?_⟩
      obtain ⟨T, y2, z2, rfl, hT, rfl, hq, hq2⟩ := h
      have := hq vs hs
      rw [hy] at this; cases this
      have := hq2 ws hs2
      rw [hz] at this; cases this
      have e2 := Ext.lay0 (m := m') (o := .tup [y, z]) hT
      exact ⟨e2, hR.lay0 hT, .tup (.inl upd_same) (.cons (ry.mono e2) (.cons (rz.mono e2) .nil))⟩
  · rw [hi, ← rs.length, ← rs2.length]
    show xs.length ≤ ((xs.zip ys).map _).length ∨ ys.length ≤ ((xs.zip ys).map _).length
    rw [List.length_map, List.length_zip]
    omega
theorem rel_zipT {a b : Addr} {xs ys : List PV} {vs ws : List V} (t : TupAt K H a vs) (rs : RVs K mg m H xs vs) (t2 : TupAt K H b ws) (rs2 : RVs K mg m H ys ws) :
    relI K mg m H ⟨(xs.zip ys).map fun p => .tup [p.1, p.2], fun _ => true⟩ (RZ.ItzT K a b) := by
  intro i m' H' st' e hR _
  have t' := (t.mono e).sq
  have t2' := (t2.mono e).sq
  have rs' := rs.mono e
  have rs2' := rs2.mono e
  refine ⟨fun x hx => ?_, fun hi => ⟨vs, ws, t', t2', ?_⟩⟩
  · rw [List.getElem?_map] at hx
    cases hc : (xs.zip ys)[i]? with
    | none => rw [hc] at hx; cases hx
    | some p =>
      rw [hc] at hx; cases hx
      obtain ⟨h1, h2⟩ := zip_get hc
      obtain ⟨y, hy, ry⟩ := rs'.get h1
      obtain ⟨z, hz, rz⟩ := rs2'.get h2
      refine ⟨⟨vs, ws, y, z, t', t2', hy, hz⟩, fun y' H'' h => ?_⟩
      obtain ⟨T, y2, z2, rfl, hT, rfl, hq, hq2⟩ := h
      have := hq vs t'
      rw [hy] at this; cases this
      have := hq2 ws t2'
      rw [hz] at this; cases this
      have e2 := Ext.lay0 (m := m') (o := .tup [y, z]) hT
      exact ⟨e2, hR.lay0 hT, .tup (.inl upd_same) (.cons (ry.mono e2) (.cons (rz.mono e2) .nil))⟩
  · rw [hi, ← rs.length, ← rs2.length]
    show xs.length ≤ ((xs.zip ys).map _).length ∨ ys.length ≤ ((xs.zip ys).map _).length
    rw [List.length_map, List.length_zip]
    omega
theorem lockedOf_ok (hR : Rep K mg m H s) {u : PV} {x : V} (r : RV K mg m H u x) {xs : List (PV × PV)} (h : lockedOf s u = some xs) : ∃ a o vs, x = .ref a ∧ H a = some (.frz o (.dK vs)) ∧ RKV K mg m H xs vs := by
  cases r with
  | @obj n a hn =>
    replace h : (match s[n]? with
      | some (.frz (.dct xs)) => some xs
      | _ => none) = some xs := h
    split at h
    · rename_i ys e
      cases h
      obtain ⟨u, hu, ro⟩ := hR.to _ _ _ hn e
      cases ro with
      | frz ro =>
        cases ro with
        | dct rs => exact ⟨a, _, _, rfl, hu, rs⟩
    · cases h
  | _ => cases h
end
section
variable {X : Cx} {W : WX} {pos : Pos} {tg e : Expr} {g : XF} {ga : Env → Sto → R (List PV)}
theorem fi_val (he : FE X W e g) : FI X W tg e (iOf g) := (pi_val he).wk fun σ H Q h => by
  obtain ⟨m, ρ, st, hE, hR, hP⟩ := h
  refine ⟨m, ρ, st, hE, hR, Post.split hE hP fun m1 H1 s1 u x e1 hE1 hR1 ru hP1 => ?_⟩
  have hP1 : Post X.K X.mg (relI X.K X.mg) W σ m1 H1 Q (R.ofI (valIt s1 u) s1) := hP1
  cases ru with
  | @obj n a hn =>
    cases hs : s1[n]? with
    | none => simp only [valIt, hs] at hP1; exact hP1.elim
    | some o =>
      simp only [valIt, hs] at hP1
      have lst : ∀ xs, lstOf s1 (.obj n) = some xs → Post X.K X.mg (relI X.K X.mg) W σ m1 H1 Q (.ok ⟨xs, fun s' => decide (lstOf s' (.obj n) = some xs)⟩ s1) → iVal X.K (.ref a) H1 Q := fun xs hl q => by
        obtain ⟨b, vs, e, q1, rs⟩ := lstOf_ok hR1 (.obj hn) hl
        cases e
        exact .inl ⟨a, rfl, ⟨vs, q1⟩, q m1 H1 _ (Ext.refl _ _) hR1 (rel_list (.obj hn))⟩
      cases o with
      | lst xs => exact lst xs (by simp [lstOf, hs]) hP1
      | frz o =>
        cases o with
        | lst xs => exact lst xs (by simp [lstOf, hs]) hP1
        | dct kvs =>
          obtain ⟨b, o, vs, e, hd, rk⟩ := lockedOf_ok (u := .obj n) hR1 (.obj hn) (xs := kvs) (by simp [lockedOf, hs])
          cases e
          exact .inr (.inr (.inr ⟨_, o, vs, rfl, hd, hP1 m1 H1 _ (Ext.refl _ _) hR1 (rel_keys hd rk)⟩))
        | _ => exact hP1.elim
      | _ => exact hP1.elim
  | tup t rs => exact .inr (.inl ⟨_, rfl, ⟨_, t.sq⟩, hP1 m1 H1 _ (Ext.refl _ _) hR1 (rel_tup t rs)⟩)
  | str z => exact .inr (.inr (.inl ⟨z, rfl, hP1 m1 H1 _ (Ext.refl _ _) hR1 rel_str⟩))
  | _ => exact hP1.elim
theorem fi_range1 {a : Expr} {p : Pos} (hm : X.mg "range" = none) (ha : FA X W [a] ga) (hg : Gl X "range" := by rfl) (hs : starEach [a] X.env = [(false, eval a X.env)] := by rfl) : FI X W tg (.Call (.Name "range" p) [a] [] pos) (iRange1 ga) :=
  (pi_range1 hg hm ha hs).wk fun σ H R h => by
    obtain ⟨m, ρ, st, hE, hR, hP⟩ := h
    refine ⟨m, ρ, st, hE, hR, Post.split (rel := relVs X.K X.mg) hE hP fun m1 H1 s1 u x e1 hE1 hR1 ru hP1 => ?_⟩
    split at hP1
    · rename_i j
      split at hP1
      · rename_i hj
        cases ru with
        | cons r t =>
          cases t; cases r
          refine ⟨j, rfl, hj.1, hj.2, hP1 m1 H1 _ (Ext.refl _ _) hR1 ?_⟩
          have z := rel_range (K := X.K) (mg := X.mg) (m := m1) (H := H1) 0 j.toNat
          simpa using z
      · exact hP1.elim
    · exact hP1.elim
theorem fi_range2 {a b : Expr} {p : Pos} (hm : X.mg "range" = none) (ha : FA X W [a, b] ga) (hg : Gl X "range" := by rfl) (hs : starEach [a, b] X.env = [(false, eval a X.env), (false, eval b X.env)] := by rfl) (hs2 : starEach [b] X.env = [(false, eval b X.env)] := by rfl) : FI X W tg (.Call (.Name "range" p) [a, b] [] pos) (iRange2 ga) :=
  (pi_range2 hg hm ha hs hs2).wk fun σ H R h => by
    obtain ⟨m, ρ, st, hE, hR, hP⟩ := h
    refine ⟨m, ρ, st, hE, hR, Post.split (rel := relVs X.K X.mg) hE hP fun m1 H1 s1 u x e1 hE1 hR1 ru hP1 => ?_⟩
    split at hP1
    · split at hP1
      · rename_i hj
        cases ru with
        | cons r t =>
          cases t with
          | cons r2 t =>
            cases t; cases r; cases r2
            exact ⟨_, _, rfl, hj, hP1 m1 H1 _ (Ext.refl _ _) hR1 (rel_range _ _)⟩
      · exact hP1.elim
    · exact hP1.elim
theorem fi_range3 {a b c : Expr} {p : Pos} (hm : X.mg "range" = none) (ha : FA X W [a, b, c] ga) (hg : Gl X "range" := by rfl) (hs : starEach [a, b, c] X.env = (false, eval a X.env) :: starEach [b, c] X.env := by rfl) (hpl : (backTo pos (starEach [b, c] X.env)).any (·.1) = false := by rfl) : FI X W tg (.Call (.Name "range" p) [a, b, c] [] pos) (iRange3 ga) :=
  (pi_range3 hg hm ha hs hpl).wk fun σ H R h => by
    obtain ⟨m, ρ, st, hE, hR, hP⟩ := h
    refine ⟨m, ρ, st, hE, hR, Post.split (rel := relVs X.K X.mg) hE hP fun m1 H1 s1 u x e1 hE1 hR1 ru hP1 => ?_⟩
    split at hP1
    · split at hP1
      · rename_i hj
        cases ru with
        | cons r t =>
          cases t with
          | cons r2 t =>
            cases t with
            | cons r3 t =>
              cases t; cases r; cases r2; cases r3
              exact ⟨_, _, _, _, rfl, ⟨hj.1, hj.2.1, hj.2.2.1, by rw [Int.toNat_of_nonneg hj.2.2.2]⟩, hP1 m1 H1 _ (Ext.refl _ _) hR1 (rel_rangeC _ _ _)⟩
      · exact hP1.elim
    · exact hP1.elim
theorem fi_enum {a : Expr} {p tpos : Pos} {elts : List Expr} {kk : Nat} (hm : X.mg "enumerate" = none) (ha : FA X W [a] ga) (hg : Gl X "enumerate" := by rfl) (hs : starEach [a] X.env = [(false, eval a X.env)] := by rfl) : FI X W (.Tuple elts kk tpos) (.Call (.Name "enumerate" p) [a] [] pos) (iEnumL ga) :=
  (pi_enum hg hm ha hs).wk fun σ H R h => by
    obtain ⟨m, ρ, st, hE, hR, hP⟩ := h
    refine ⟨m, ρ, st, hE, hR, Post.split (rel := relVs X.K X.mg) hE hP fun m1 H1 s1 u x e1 hE1 hR1 ru hP1 => ?_⟩
    split at hP1
    · rename_i v
      cases hl : lstOf s1 v with
      | none => rw [hl] at hP1; exact hP1.elim
      | some xs =>
        rw [hl] at hP1
        cases ru with
        | cons r t =>
          cases t
          obtain ⟨b, vs, rfl, q1, rs⟩ := lstOf_ok hR1 r hl
          exact ⟨b, vs, rfl, q1, hP1 m1 H1 _ (Ext.refl _ _) hR1 (rel_enum r)⟩
    · exact hP1.elim
theorem fi_zip {a b : Expr} {p tpos : Pos} {elts : List Expr} {kk : Nat} (hm : X.mg "zip" = none) (ha : FA X W [a, b] ga) (hg : Gl X "zip" := by rfl) (hs : starEach [a, b] X.env = (false, eval a X.env) :: starEach [b] X.env := by rfl) (hpl : (backTo pos (starEach [b] X.env)).any (·.1) = false := by rfl) : FI X W (.Tuple elts kk tpos) (.Call (.Name "zip" p) [a, b] [] pos) (iZip2 ga) :=
  (RZ.pi_zipA hg hm ha hs hpl).wk fun σ H R h => by
    obtain ⟨m, ρ, st, hE, hR, hP⟩ := h
    refine ⟨m, ρ, st, hE, hR, Post.split (rel := relVs X.K X.mg) hE hP fun m1 H1 s1 u x e1 hE1 hR1 ru hP1 => ?_⟩
    split at hP1
    · cases ru with
      | cons r t =>
        cases t with
        | cons r2 t =>
          cases t
          cases r with
          | tup ta rs =>
            cases r2 with
            | tup tb rs2 => exact ⟨_, _, _, _, rfl, .inr ⟨ta.sq, tb.sq, hP1 m1 H1 _ (Ext.refl _ _) hR1 (rel_zipT ta rs tb rs2)⟩⟩
    · rename_i v w _
      cases hl : lstOf s1 v with
      | none => rw [hl] at hP1; exact hP1.elim
      | some xs =>
        cases hl2 : lstOf s1 w with
        | none => rw [hl, hl2] at hP1; exact hP1.elim
        | some ys =>
          rw [hl, hl2] at hP1
          cases ru with
          | cons r t =>
            cases t with
            | cons r2 t =>
              cases t
              obtain ⟨b, vs, rfl, q1, rs⟩ := lstOf_ok hR1 r hl
              obtain ⟨b2, vs2, rfl, q2, rs2⟩ := lstOf_ok hR1 r2 hl2
              exact ⟨_, _, _, _, rfl, .inl ⟨q1, q2, hP1 m1 H1 _ (Ext.refl _ _) hR1 (rel_zipL r r2)⟩⟩
    · exact hP1.elim
theorem fi_items {apos tpos : Pos} {elts : List Expr} {kk : Nat} (he : FE X W e g) (hbase : attributeBase e "items" X.env (eval e X.env) = eval e X.env := by rfl) (hline : (apos.endLine == pos.line) = true := by rfl) : FI X W (.Tuple elts kk tpos) (.Call (.Attribute e "items" apos) [] [] pos) (iItemsD g) :=
  (pi_items he hbase hline).wk fun σ H R h => by
    obtain ⟨m, ρ, st, hE, hR, hP⟩ := h
    refine ⟨m, ρ, st, hE, hR, Post.split hE hP fun m1 H1 s1 u x e1 hE1 hR1 ru hP1 => ?_⟩
    cases hl : lockedOf s1 u with
    | none => rw [hl] at hP1; exact hP1.elim
    | some kvs =>
      rw [hl] at hP1
      obtain ⟨b, o, vs, rfl, hd, rk⟩ := lockedOf_ok hR1 ru hl
      exact ⟨b, o, vs, rfl, hd, hP1 m1 H1 _ (Ext.refl _ _) hR1 (rel_items hd rk)⟩
theorem fi_values {apos : Pos} (he : FE X W e g) (hbase : attributeBase e "values" X.env (eval e X.env) = eval e X.env := by rfl) (hline : (apos.endLine == pos.line) = true := by rfl) : FI X W tg (.Call (.Attribute e "values" apos) [] [] pos) (iValuesD g) :=
  (pi_values he hbase hline).wk fun σ H R h => by
    obtain ⟨m, ρ, st, hE, hR, hP⟩ := h
    refine ⟨m, ρ, st, hE, hR, Post.split hE hP fun m1 H1 s1 u x e1 hE1 hR1 ru hP1 => ?_⟩
    cases hl : lockedOf s1 u with
    | none => rw [hl] at hP1; exact hP1.elim
    | some kvs =>
      rw [hl] at hP1
      obtain ⟨b, o, vs, rfl, hd, rk⟩ := lockedOf_ok hR1 ru hl
      exact ⟨b, o, vs, rfl, hd, hP1 m1 H1 _ (Ext.refl _ _) hR1 (rel_values hd rk)⟩
end
end FS

/-! FS: comprehensions, locks. -/
namespace FS
open PySem PySem.Spec PyProof.Rows L2

def wipeE (ρ : Env) : List Nat → Env
  | [] => ρ
  | v :: vs => (wipeE ρ vs).set v none
theorem RE.wipe {K : PySem.W.Frag} {mg : Str → Option Value} {m : List Addr} {H : Hp} {ρ : Env} {σ : L2.St} (h : RE K mg m H ρ σ) : ∀ vs, RE K mg m H (wipeE ρ vs) (wipe σ vs)
  | [] => h
  | v :: vs => (RE.wipe h vs).unset v
theorem wipe_sub {σ : L2.St} {vs : List Nat} : ∀ {ws : List Nat}, (∀ i ∈ ws, i ∈ vs) → L2.wipe (L2.wipe σ ws) vs = L2.wipe σ vs
  | [], _ => rfl
  | w :: ws, h => by
    show L2.wipe ((L2.wipe σ ws).set w none) vs = _
    rw [wipe_set (h w List.mem_cons_self), wipe_sub fun i hi => h i (List.mem_cons_of_mem _ hi)]
theorem wipe_self (σ : L2.St) (vs : List Nat) : L2.wipe (L2.wipe σ vs) vs = L2.wipe σ vs := wipe_sub fun _ h => h

/-- one clause's loop into the list n -/
def compL (chk : Sto → Bool) (p : Pat) (tt : Env → Sto → R Bool) (te : XF) (n : Nat) (ρ : Env) : List PV → Sto → Option Sto
  | [], s => if chk s then some s else none
  | x :: xs, s => if chk s then (p.run x ρ).bind fun ρ1 => match tt ρ1 s with
      | .ok true s1 => (match te ρ1 s1 with
        | .ok y s2 => (match s2[n]? with
          | some (.lst acc) => if acc.length < sizeLine then compL chk p tt te n ρ xs (s2.set n (.lst (acc ++ [y]))) else none
          | _ => none)
        | _ => none)
      | .ok false s1 => compL chk p tt te n ρ xs s1
      | _ => none
    else none
def W0 : WX := fun _ _ _ _ => False
def tYesF : Env → Sto → R Bool := fun _ s => .ok true s
def eLc (gi : IF) (p : Pat) (tt : Env → Sto → R Bool) (te : XF) (vs : List Nat) : XF := fun ρ s => (gi ρ s).bind fun d s1 =>
  match compL d.chk p tt te s1.length (wipeE ρ vs) d.items (s1 ++ [.lst []]) with
  | some s2 => .ok (.obj s1.length) s2
  | none => .bad
/-- the second clause's loops -/
def compL2 (chk : Sto → Bool) (p : Pat) (tt : Env → Sto → R Bool) (gi1 : IF) (p1 : Pat) (tt1 : Env → Sto → R Bool) (te : XF) (vs1 : List Nat) (n : Nat) (ρ : Env) : List PV → Sto → Option Sto
  | [], s => if chk s then some s else none
  | x :: xs, s => if chk s then (p.run x ρ).bind fun ρ1 => match tt ρ1 s with
      | .ok true s1 => (match gi1 ρ1 s1 with
        | .ok d1 s2 => (compL d1.chk p1 tt1 te n (wipeE ρ1 vs1) d1.items s2).bind fun s3 => compL2 chk p tt gi1 p1 tt1 te vs1 n ρ xs s3
        | _ => none)
      | .ok false s1 => compL2 chk p tt gi1 p1 tt1 te vs1 n ρ xs s1
      | _ => none
    else none
def eLc2 (gi : IF) (p : Pat) (tt : Env → Sto → R Bool) (gi1 : IF) (p1 : Pat) (tt1 : Env → Sto → R Bool) (te : XF) (vs vs1 : List Nat) : XF := fun ρ s => (gi ρ s).bind fun d s1 =>
  match compL2 d.chk p tt gi1 p1 tt1 te vs1 s1.length (wipeE ρ vs) d.items (s1 ++ [.lst []]) with
  | some s2 => .ok (.obj s1.length) s2
  | none => .bad
/-- a dict's -/
def compD (chk : Sto → Bool) (p : Pat) (tt : Env → Sto → R Bool) (tk tv : XF) (n : Nat) (ρ : Env) : List PV → Sto → Option Sto
  | [], s => if chk s then some s else none
  | x :: xs, s => if chk s then (p.run x ρ).bind fun ρ1 => match tt ρ1 s with
      | .ok true s1 => (match tk ρ1 s1 with
        | .ok y s2 => (match tv ρ1 s2 with
          | .ok z s3 => (match toKey y, s3[n]? with
            | some k, some (.dct acc) => if acc.length < sizeLine then compD chk p tt tk tv n ρ xs (s3.set n (.dct (putP acc (keyP k) z))) else none
            | _, _ => none)
          | _ => none)
        | _ => none)
      | .ok false s1 => compD chk p tt tk tv n ρ xs s1
      | _ => none
    else none
def eDc (gi : IF) (p : Pat) (tt : Env → Sto → R Bool) (tk tv : XF) (vs : List Nat) : XF := fun ρ s => (gi ρ s).bind fun d s1 =>
  match compD d.chk p tt tk tv s1.length (wipeE ρ vs) d.items (s1 ++ [.dct []]) with
  | some s2 => .ok (.obj s1.length) s2
  | none => .bad
section
variable {K : PySem.W.Frag} {mg : Str → Option Value}
theorem comp_loop {d : ItD} {J : It} {p : Pat} {tt : Env → Sto → R Bool} {te : XF} {n : Nat} {D : Addr} {vs : List Nat} {m : List Addr} {H : Hp} {ρ : Env} {σ : L2.St} {s sf : Sto} {Fin : Hp → Prop}
    (hE : RE K mg m H ρ σ) (hR : Rep K mg m H s) (rJ : relI K mg m H d J) (hD : m[n]? = some D) (hp : ∀ i ∈ p.slots, i ∈ vs)
    (h : compL d.chk p tt te n (wipeE ρ vs) d.items s = some sf) (fin : ∀ m' H', Ext m H m' H' → Rep K mg m' H' sf → Fin H') :
    ∃ W : Nat → Nat → Hp → Prop, (∃ k, W 0 k H) ∧ ∀ i k H, W i k H → (J.stop i H ∧ Fin H) ∨ (J.go i H ∧ ∃ Nx : Hp → Prop, (∀ H', Nx H' → ∃ m', m' < k ∧ W (i + 1) m' H') ∧
      ∀ x H', J.yld i H x H' → p.g K x (wipe σ vs) H' fun σ2 H2 => wipe σ2 vs = wipe σ vs ∧ lift K mg relE W0 tt σ2 H2 fun b H3 =>
        if b = true then lift K mg (relV K mg) W0 te σ2 H3 fun y H4 => ∃ acc, H4 D = some (.lst acc) ∧ acc.length < sizeLine ∧ Nx (upd H4 D (.lst (acc ++ [y]))) else Nx H3) := by
  refine ⟨fun i k H' => k = d.items.length - i ∧ i ≤ d.items.length ∧ ∃ m' s', Ext m H m' H' ∧ Rep K mg m' H' s' ∧ compL d.chk p tt te n (wipeE ρ vs) (d.items.drop i) s' = some sf,
    ⟨d.items.length, by simp, Nat.zero_le _, m, s, Ext.refl _ _, hR, h⟩, ?_⟩
  rintro i k H' ⟨rfl, hi, m', s', e', hR', h'⟩
  by_cases hl : i < d.items.length
  · right
    rw [List.drop_eq_getElem_cons hl] at h'
    unfold compL at h'
    split at h'
    · rename_i hk
      obtain ⟨go, _⟩ := rJ i m' H' s' e' hR' hk
      obtain ⟨g1, g2⟩ := go d.items[i] (List.getElem?_eq_getElem hl)
      cases hrun : p.run d.items[i] (wipeE ρ vs) with
      | none => rw [hrun] at h'; cases h'
      | some ρ1 =>
        rw [hrun] at h'
        simp only [Option.bind_some] at h'
        refine ⟨g1, fun H2 => ∃ m2 s2, Ext m H m2 H2 ∧ Rep K mg m2 H2 s2 ∧ compL d.chk p tt te n (wipeE ρ vs) (d.items.drop (i + 1)) s2 = some sf, fun H2 ⟨m2, s2, q1, q2, q3⟩ => ⟨_, ?_, rfl, hl, m2, s2, q1, q2, q3⟩, fun x H2 y => ?_⟩
        · omega
        · obtain ⟨e2, hR2, rx⟩ := g2 x H2 y
          refine p.ok rx (((hE.mono e').mono e2).wipe vs) hrun fun σ3 hE3 hw => ⟨by rw [hw vs hp, wipe_self], m', ρ1, s', hE3, hR2, ?_⟩
          have e12 := e'.trans e2
          cases ht : tt ρ1 s' with
          | bad => rw [ht] at h'; cases h'
          | exc C fs s1 => rw [ht] at h'; cases h'
          | ok b s1 =>
            rw [ht] at h'
            refine fun m3 H3 b' e3 hR3 eb => ?_
            cases eb
            cases b with
            | false =>
              rw [if_neg Bool.false_ne_true]
              exact ⟨m3, s1, e12.trans e3, hR3, h'⟩
            | true =>
              rw [if_pos rfl]
              refine ⟨m3, ρ1, s1, hE3.mono e3, hR3, ?_⟩
              dsimp only at h'
              cases hv : te ρ1 s1 with
              | bad => rw [hv] at h'; cases h'
              | exc C fs s1 => rw [hv] at h'; cases h'
              | ok y s2 =>
                rw [hv] at h'
                refine fun m4 H4 yv e4 hR4 ry => ?_
                have e14 := (e12.trans e3).trans e4
                dsimp only at h'
                split at h'
                · rename_i acc hacc
                  split at h'
                  · rename_i hz
                    obtain ⟨u, hu, ro⟩ := hR4.to n D _ (e14.at hD) hacc
                    cases ro with
                    | @lst _ avs rs =>
                      have wr : Wr (.lst avs) := RO.wr (.lst rs) rfl
                      have e5 : Ext m4 H4 m4 (upd H4 D (.lst (avs ++ [yv]))) := Ext.wr hu wr
                      exact ⟨avs, hu, by rw [← rs.length]; exact hz, m4, _, e14.trans e5, hR4.wr (e14.at hD) hu wr (.lst ((rs.append (.cons ry .nil)).mono e5)), h'⟩
                  · cases h'
                · cases h'
    · cases h'
  · left
    have e : i = d.items.length := by omega
    subst e
    rw [List.drop_length] at h'
    unfold compL at h'
    split at h'
    · rename_i hk
      cases h'
      exact ⟨(rJ _ m' H' _ e' hR' hk).2 rfl, fin m' H' e' hR'⟩
    · cases h'
end
section
variable {X : Cx} {W : WX} {pos : Pos} {tg iter elt : Expr} {ifs : List Expr} {scope : Scope} {own : List (Str × Nat)} {gi gi1 : IF} {p p1 : Pat} {tt tt1 : Env → Sto → R Bool} {te tk tv : XF}
/-- a clause's tests -/
def FTs (X : Cx) (W : WX) (ifs : List Expr) (g : Env → Sto → R Bool) : Prop := PTs X ifs (lift X.K X.mg relE W g)
theorem fts_nil : FTs X W [] tYesF := ⟨fun pins s σ H Q I ⟨m, ρ, st, hE, hR, h⟩ => pts_nil.run pins s σ H Q I (h m H true (Ext.refl _ _) hR rfl)⟩
theorem fts_one {c : Expr} (h : FT X W c tt) : FTs X W [c] tt := pts_one h
theorem tLc_of {σ : L2.St} {H : Hp} {Q : VK} {vs : List Nat} (hp : ∀ i ∈ p.slots, i ∈ vs) (h : lift X.K X.mg (relV X.K X.mg) W (eLc gi p tt te vs) σ H Q) :
    tLc (lift X.K X.mg (relI X.K X.mg) W gi) (p.g X.K) (lift X.K X.mg relE W0 tt) (lift X.K X.mg (relV X.K X.mg) W0 te) vs σ H Q := by
  obtain ⟨m, ρ, st, hE, hR, hP⟩ := h
  refine ⟨m, ρ, st, hE, hR, Post.split (rel := relI X.K X.mg) hE hP fun m1 H1 s1 d J e1 hE1 hR1 rJ hP1 => ?_⟩
  intro D hD
  cases hc : compL d.chk p tt te s1.length (wipeE ρ vs) d.items (s1 ++ [.lst []]) with
  | none => rw [hc] at hP1; exact hP1.elim
  | some sf =>
    rw [hc] at hP1
    have e2 : Ext m1 H1 (m1 ++ [D]) (upd H1 D (.lst [])) := Ext.lay hD [D]
    exact comp_loop (hE1.mono e2) (hR1.lay hD (.lst .nil)) (fun i m' H' st' e => rJ i m' H' st' (e2.trans e)) hR1.newAt hp hc fun m' H' e hR' => hP1 m' H' _ (e2.trans e) hR' (.obj (e.at hR1.newAt))
theorem fe_lc (vs : List Nat) (hc : X.calm = true) (hN : X.N.Nodup) (hi : FI X W tg iter gi) (ok : BlkOk X.N X.env.scope scope own)
    (hg : ∀ (s : Shared) (H : Hp) (C : Addr) (cl : List (Str × Addr)) (fp : List Addr), FP (X.blk s H scope (compEnvC scope cl C X.env) fp) tg p)
    (ht : ∀ (s : Shared) (H : Hp) (C : Addr) (cl : List (Str × Addr)) (fp : List Addr), FTs (X.blk s H scope (compEnvC scope cl C X.env) fp) W0 ifs tt)
    (he : ∀ (s : Shared) (H : Hp) (C : Addr) (cl : List (Str × Addr)) (fp : List Addr), FE (X.blk s H scope (compEnvC scope cl C X.env) fp) W0 elt te)
    (hp : ∀ i ∈ p.slots, i ∈ own.map (·.2) := by decide) (hv : vs = own.map (·.2) := by rfl) (hs : ∀ x, foldedSetIterable iter X.env x = pure x := by intro _; rfl) :
    FE X W (.ListComp elt [⟨tg, iter, ifs, 0⟩] scope pos) (eLc gi p tt te vs) := (pe_lc (g := p.g X.K) (tt := lift X.K X.mg relE W0 tt) (te := lift X.K X.mg (relV X.K X.mg) W0 te) hc hN hi ok hg ht he hs).wk fun σ H Q h => by
  subst hv; exact tLc_of hp h
theorem fs_setLc (i : Nat) (vs : List Nat) {y : Str} {py spos : Pos} (hc : X.calm = true) (hN : X.N.Nodup) (hi : FI X W tg iter gi) (ok : BlkOk X.N X.env.scope scope own)
    (hg : ∀ (s : Shared) (H : Hp) (C : Addr) (cl : List (Str × Addr)) (fp : List Addr), FP (X.blk s H scope (compEnvC scope cl C X.env) fp) tg p)
    (ht : ∀ (s : Shared) (H : Hp) (C : Addr) (cl : List (Str × Addr)) (fp : List Addr), FTs (X.blk s H scope (compEnvC scope cl C X.env) fp) W0 ifs tt)
    (he : ∀ (s : Shared) (H : Hp) (C : Addr) (cl : List (Str × Addr)) (fp : List Addr), FE (X.blk s H scope (compEnvC scope cl C X.env) fp) W0 elt te)
    (hsw : swapsWith (.ListComp elt [⟨tg, iter, ifs, 0⟩] scope pos) (some (.Name y py)) spos.line X.env = pure true := by exact sw_true rfl rfl rfl (by decide +kernel))
    (hy : X.N[i]? = some y := by rfl) (hyl : X.env.scope.names.lookup y = some .local := by rfl)
    (hp : ∀ i ∈ p.slots, i ∈ own.map (·.2) := by decide) (hv : vs = own.map (·.2) := by rfl) (hs : ∀ x, foldedSetIterable iter X.env x = pure x := by intro _; rfl) :
    FS1 X W (.Assign [.Name y py] (.ListComp elt [⟨tg, iter, ifs, 0⟩] scope pos) spos) (sSet i (eLc gi p tt te vs)) := (ps_setLc (g := p.g X.K) (tt := lift X.K X.mg relE W0 tt) (te := lift X.K X.mg (relV X.K X.mg) W0 te) hc hN hy hyl hsw hi ok hg ht he hs).wk fun D σ H ⟨m, ρ, st, hE, hR, h⟩ => by
  subst hv
  exact tLc_of (W := W) hp ⟨m, ρ, st, hE, hR, post_thenS hE h fun m1 H1 s1 a x e1 hE1 hR1 ra hP => hP m1 H1 _ (Ext.refl _ _) (hE1.set ra i) hR1⟩
theorem tLc2_of {σ : L2.St} {H : Hp} {Q : VK} {vs vs1 : List Nat} (hp : ∀ i ∈ p.slots, i ∈ vs) (hp1 : ∀ i ∈ p1.slots, i ∈ vs1) (h : lift X.K X.mg (relV X.K X.mg) W (eLc2 gi p tt gi1 p1 tt1 te vs vs1) σ H Q) :
    tLc2 (lift X.K X.mg (relI X.K X.mg) W gi) (p.g X.K) (lift X.K X.mg relE W0 tt) (lift X.K X.mg (relI X.K X.mg) W0 gi1) (p1.g X.K) (lift X.K X.mg relE W0 tt1) (lift X.K X.mg (relV X.K X.mg) W0 te) vs vs1 σ H Q := by
  obtain ⟨m, ρ, st, hE, hR, hP⟩ := h
  refine ⟨m, ρ, st, hE, hR, Post.split (rel := relI X.K X.mg) hE hP fun m1 H1 s1 d J e1 hE1 hR1 rJ hP1 => ?_⟩
  intro D hD
  cases hc : compL2 d.chk p tt gi1 p1 tt1 te vs1 s1.length (wipeE ρ vs) d.items (s1 ++ [.lst []]) with
  | none => rw [hc] at hP1; exact hP1.elim
  | some sf =>
    rw [hc] at hP1
    have e2 : Ext m1 H1 (m1 ++ [D]) (upd H1 D (.lst [])) := Ext.lay hD [D]
    have hR2 := hR1.lay (so := .lst []) hD (.lst .nil)
    generalize hm2 : m1 ++ [D] = m2 at e2 hR2
    generalize hH2 : upd H1 D (.lst []) = H2 at e2 hR2 ⊢
    have hat : m2[s1.length]? = some D := by rw [← hm2]; exact hR1.newAt
    refine ⟨fun i k H' => k = d.items.length - i ∧ i ≤ d.items.length ∧ ∃ m' s', Ext m2 H2 m' H' ∧ Rep X.K X.mg m' H' s' ∧ compL2 d.chk p tt gi1 p1 tt1 te vs1 s1.length (wipeE ρ vs) (d.items.drop i) s' = some sf,
      ⟨d.items.length, by simp, Nat.zero_le _, m2, _, Ext.refl _ _, hR2, hc⟩, ?_⟩
    rintro i k H' ⟨rfl, hi, m', s', e', hR', h'⟩
    by_cases hl : i < d.items.length
    · right
      rw [List.drop_eq_getElem_cons hl] at h'
      unfold compL2 at h'
      split at h'
      · rename_i hk
        obtain ⟨go, _⟩ := rJ i m' H' s' (e2.trans e') hR' hk
        obtain ⟨g1, g2⟩ := go d.items[i] (List.getElem?_eq_getElem hl)
        cases hrun : p.run d.items[i] (wipeE ρ vs) with
        | none => rw [hrun] at h'; cases h'
        | some ρ1 =>
          rw [hrun] at h'
          simp only [Option.bind_some] at h'
          refine ⟨g1, fun H3 => ∃ m3 s3, Ext m2 H2 m3 H3 ∧ Rep X.K X.mg m3 H3 s3 ∧ compL2 d.chk p tt gi1 p1 tt1 te vs1 s1.length (wipeE ρ vs) (d.items.drop (i + 1)) s3 = some sf, fun H3 ⟨m3, s3, q1, q2, q3⟩ => ⟨_, ?_, rfl, hl, m3, s3, q1, q2, q3⟩, fun x H3 y => ?_⟩
          · omega
          · obtain ⟨e3, hR3, rx⟩ := g2 x H3 y
            refine p.ok rx ((((hE1.mono e2).mono e').mono e3).wipe vs) hrun fun σ3 hE3 hw => ⟨by rw [hw vs hp, wipe_self], m', ρ1, s', hE3, hR3, ?_⟩
            have e13 := e'.trans e3
            cases ht : tt ρ1 s' with
            | bad => rw [ht] at h'; cases h'
            | exc C fs s1 => rw [ht] at h'; cases h'
            | ok b s4 =>
              rw [ht] at h'
              refine fun m4 H4 b' e4 hR4 eb => ?_
              cases eb
              have e14 := e13.trans e4
              cases b with
              | false =>
                rw [if_neg Bool.false_ne_true]
                exact ⟨m4, s4, e14, hR4, h'⟩
              | true =>
                rw [if_pos rfl]
                have hE4 := hE3.mono e4
                refine ⟨m4, ρ1, s4, hE4, hR4, ?_⟩
                dsimp only at h'
                cases hv : gi1 ρ1 s4 with
                | bad => rw [hv] at h'; cases h'
                | exc C fs s1 => rw [hv] at h'; cases h'
                | ok d1 s5 =>
                  rw [hv] at h'
                  dsimp only at h'
                  refine fun m5 H5 J1 e5 hR5 rJ1 => ?_
                  have e15 := e14.trans e5
                  cases hc1 : compL d1.chk p1 tt1 te s1.length (wipeE ρ1 vs1) d1.items s5 with
                  | none => rw [hc1] at h'; cases h'
                  | some s6 =>
                    rw [hc1] at h'
                    exact comp_loop (hE4.mono e5) hR5 rJ1 (e15.at hat) hp1 hc1 fun m6 H6 e6 hR6 => ⟨m6, s6, e15.trans e6, hR6, h'⟩
      · cases h'
    · left
      have e : i = d.items.length := by omega
      subst e
      rw [List.drop_length] at h'
      unfold compL2 at h'
      split at h'
      · rename_i hk
        cases h'
        exact ⟨(rJ _ m' H' _ (e2.trans e') hR' hk).2 rfl, hP1 m' H' _ (e2.trans e') hR' (.obj (e'.at hat))⟩
      · cases h'
theorem fe_lc2 (vs vs1 : List Nat) {tg1 iter1 : Expr} {ifs1 : List Expr} (hc : X.calm = true) (hN : X.N.Nodup) (hi : FI X W tg iter gi) (ok : BlkOk X.N X.env.scope scope own)
    (hg : ∀ (s : Shared) (H : Hp) (C : Addr) (cl : List (Str × Addr)) (fp : List Addr), FP (X.blk s H scope (compEnvC scope cl C X.env) fp) tg p)
    (ht : ∀ (s : Shared) (H : Hp) (C : Addr) (cl : List (Str × Addr)) (fp : List Addr), FTs (X.blk s H scope (compEnvC scope cl C X.env) fp) W0 ifs tt)
    (hi1 : ∀ (s : Shared) (H : Hp) (C : Addr) (cl : List (Str × Addr)) (fp : List Addr), FI (X.blk s H scope (compEnvC scope cl C X.env) fp) W0 tg1 iter1 gi1)
    (hg1 : ∀ (s : Shared) (H : Hp) (C : Addr) (cl : List (Str × Addr)) (fp : List Addr), FP (X.blk s H scope (compEnvC scope cl C X.env) fp) tg1 p1)
    (ht1 : ∀ (s : Shared) (H : Hp) (C : Addr) (cl : List (Str × Addr)) (fp : List Addr), FTs (X.blk s H scope (compEnvC scope cl C X.env) fp) W0 ifs1 tt1)
    (he : ∀ (s : Shared) (H : Hp) (C : Addr) (cl : List (Str × Addr)) (fp : List Addr), FE (X.blk s H scope (compEnvC scope cl C X.env) fp) W0 elt te)
    (hp : ∀ i ∈ p.slots, i ∈ own.map (·.2) := by decide) (hp1 : ∀ i ∈ p1.slots, i ∈ vs1 := by decide) (hv1 : ∀ i ∈ vs1, i ∈ own.map (·.2) := by decide) (hv : vs = own.map (·.2) := by rfl)
    (hs : ∀ x, foldedSetIterable iter X.env x = pure x := by intro _; rfl) (hs1 : ∀ env x, foldedSetIterable iter1 env x = pure x := by intro _ _; rfl) :
    FE X W (.ListComp elt [⟨tg, iter, ifs, 0⟩, ⟨tg1, iter1, ifs1, 0⟩] scope pos) (eLc2 gi p tt gi1 p1 tt1 te vs vs1) := (pe_lc2 (g := p.g X.K) (tt := lift X.K X.mg relE W0 tt) (te := lift X.K X.mg (relV X.K X.mg) W0 te) (wi1 := lift X.K X.mg (relI X.K X.mg) W0 gi1) (g1 := p1.g X.K) (tt1 := lift X.K X.mg relE W0 tt1) hc hN hi ok hv1 hg ht hi1 hg1 ht1 he hs hs1).wk fun σ H Q h => by
  subst hv; exact tLc2_of hp hp1 h
theorem tDc_of {σ : L2.St} {H : Hp} {Q : VK} {vs : List Nat} (hp : ∀ i ∈ p.slots, i ∈ vs) (h : lift X.K X.mg (relV X.K X.mg) W (eDc gi p tt tk tv vs) σ H Q) :
    tDc (lift X.K X.mg (relI X.K X.mg) W gi) (p.g X.K) (lift X.K X.mg relE W0 tt) (lift X.K X.mg (relV X.K X.mg) W0 tk) (lift X.K X.mg (relV X.K X.mg) W0 tv) vs σ H Q := by
  obtain ⟨m, ρ, st, hE, hR, hP⟩ := h
  refine ⟨m, ρ, st, hE, hR, Post.split (rel := relI X.K X.mg) hE hP fun m1 H1 s1 d J e1 hE1 hR1 rJ hP1 => ?_⟩
  intro D hD
  cases hc : compD d.chk p tt tk tv s1.length (wipeE ρ vs) d.items (s1 ++ [.dct []]) with
  | none => rw [hc] at hP1; exact hP1.elim
  | some sf =>
    rw [hc] at hP1
    have e2 : Ext m1 H1 (m1 ++ [D]) (upd H1 D (.dK [])) := Ext.lay hD [D]
    have hR2 := hR1.lay (so := .dct []) hD (.dct .nil)
    generalize hm2 : m1 ++ [D] = m2 at e2 hR2
    generalize hH2 : upd H1 D (.dK []) = H2 at e2 hR2 ⊢
    have hat : m2[s1.length]? = some D := by rw [← hm2]; exact hR1.newAt
    refine ⟨fun i k H' => k = d.items.length - i ∧ i ≤ d.items.length ∧ ∃ m' s', Ext m2 H2 m' H' ∧ Rep X.K X.mg m' H' s' ∧ compD d.chk p tt tk tv s1.length (wipeE ρ vs) (d.items.drop i) s' = some sf,
      ⟨d.items.length, by simp, Nat.zero_le _, m2, _, Ext.refl _ _, hR2, hc⟩, ?_⟩
    rintro i k H' ⟨rfl, hi, m', s', e', hR', h'⟩
    by_cases hl : i < d.items.length
    · right
      rw [List.drop_eq_getElem_cons hl] at h'
      unfold compD at h'
      split at h'
      · rename_i hk
        obtain ⟨go, _⟩ := rJ i m' H' s' (e2.trans e') hR' hk
        obtain ⟨g1, g2⟩ := go d.items[i] (List.getElem?_eq_getElem hl)
        cases hrun : p.run d.items[i] (wipeE ρ vs) with
        | none => rw [hrun] at h'; cases h'
        | some ρ1 =>
          rw [hrun] at h'
          simp only [Option.bind_some] at h'
          refine ⟨g1, fun H3 => ∃ m3 s3, Ext m2 H2 m3 H3 ∧ Rep X.K X.mg m3 H3 s3 ∧ compD d.chk p tt tk tv s1.length (wipeE ρ vs) (d.items.drop (i + 1)) s3 = some sf, fun H3 ⟨m3, s3, q1, q2, q3⟩ => ⟨_, ?_, rfl, hl, m3, s3, q1, q2, q3⟩, fun x H3 y => ?_⟩
          · omega
          · obtain ⟨e3, hR3, rx⟩ := g2 x H3 y
            refine p.ok rx ((((hE1.mono e2).mono e').mono e3).wipe vs) hrun fun σ3 hE3 hw => ⟨by rw [hw vs hp, wipe_self], m', ρ1, s', hE3, hR3, ?_⟩
            have e13 := e'.trans e3
            cases ht : tt ρ1 s' with
            | bad => rw [ht] at h'; cases h'
            | exc C fs s1 => rw [ht] at h'; cases h'
            | ok b s4 =>
              rw [ht] at h'
              refine fun m4 H4 b' e4 hR4 eb => ?_
              cases eb
              have e14 := e13.trans e4
              cases b with
              | false =>
                rw [if_neg Bool.false_ne_true]
                exact ⟨m4, s4, e14, hR4, h'⟩
              | true =>
                rw [if_pos rfl]
                have hE4 := hE3.mono e4
                refine ⟨m4, ρ1, s4, hE4, hR4, ?_⟩
                dsimp only at h'
                cases hv : tk ρ1 s4 with
                | bad => rw [hv] at h'; cases h'
                | exc C fs s1 => rw [hv] at h'; cases h'
                | ok y s5 =>
                  rw [hv] at h'
                  dsimp only at h'
                  refine fun m5 H5 yv e5 hR5 ry => ?_
                  refine ⟨m5, ρ1, s5, hE4.mono e5, hR5, ?_⟩
                  cases hw2 : tv ρ1 s5 with
                  | bad => rw [hw2] at h'; cases h'
                  | exc C fs s1 => rw [hw2] at h'; cases h'
                  | ok z s6 =>
                    rw [hw2] at h'
                    dsimp only at h'
                    refine fun m6 H6 zv e6 hR6 rz => ?_
                    have e16 := (e14.trans e5).trans e6
                    split at h'
                    · rename_i kk acc hkey hacc
                      split at h'
                      · rename_i hz
                        have ey := toKey_ok hkey
                        subst ey
                        have ey := ry.key
                        subst ey
                        obtain ⟨u, hu, ro⟩ := hR6.to _ D _ (e16.at hat) hacc
                        cases ro with
                        | @dct _ avs rs =>
                          have wr : Wr (.dK avs) := RO.wr (.dct rs) rfl
                          have e7 : Ext m6 H6 m6 (upd H6 D (.dK (putK avs kk zv))) := Ext.wr hu wr
                          exact ⟨avs, kk, rfl, hu, by rw [← rs.length]; exact hz, m6, _, e16.trans e7, hR6.wr (e16.at hat) hu wr (.dct ((rs.mono e7).put kk (rz.mono e7))), h'⟩
                      · cases h'
                    · cases h'
      · cases h'
    · left
      have e : i = d.items.length := by omega
      subst e
      rw [List.drop_length] at h'
      unfold compD at h'
      split at h'
      · rename_i hk
        cases h'
        exact ⟨(rJ _ m' H' _ (e2.trans e') hR' hk).2 rfl, hP1 m' H' _ (e2.trans e') hR' (.obj (e'.at hat))⟩
      · cases h'
theorem fe_dc (vs : List Nat) {kx vx : Expr} (hc : X.calm = true) (hN : X.N.Nodup) (hi : FI X W tg iter gi) (ok : BlkOk X.N X.env.scope scope own)
    (hg : ∀ (s : Shared) (H : Hp) (C : Addr) (cl : List (Str × Addr)) (fp : List Addr), FP (X.blk s H scope (compEnvC scope cl C X.env) fp) tg p)
    (ht : ∀ (s : Shared) (H : Hp) (C : Addr) (cl : List (Str × Addr)) (fp : List Addr), FTs (X.blk s H scope (compEnvC scope cl C X.env) fp) W0 ifs tt)
    (hk : ∀ (s : Shared) (H : Hp) (C : Addr) (cl : List (Str × Addr)) (fp : List Addr), FE (X.blk s H scope (compEnvC scope cl C X.env) fp) W0 kx tk)
    (he : ∀ (s : Shared) (H : Hp) (C : Addr) (cl : List (Str × Addr)) (fp : List Addr), FE (X.blk s H scope (compEnvC scope cl C X.env) fp) W0 vx tv)
    (hp : ∀ i ∈ p.slots, i ∈ own.map (·.2) := by decide) (hv : vs = own.map (·.2) := by rfl) (hs : ∀ x, foldedSetIterable iter X.env x = pure x := by intro _; rfl) :
    FE X W (.DictComp kx vx [⟨tg, iter, ifs, 0⟩] scope pos) (eDc gi p tt tk tv vs) := (pe_dc (g := p.g X.K) (tt := lift X.K X.mg relE W0 tt) (tk := lift X.K X.mg (relV X.K X.mg) W0 tk) (tv := lift X.K X.mg (relV X.K X.mg) W0 tv) hc hN hi ok hg ht hk he hs).wk fun σ H Q h => by
  subst hv; exact tDc_of hp h
end

/-! ### locks: what a walked dict is for a loop or a comprehension over it -/
def unlock (n : Nat) (s : Sto) : Option Sto := match s[n]? with
  | some (.frz o) => some (s.set n o)
  | _ => none
def unlockS (n : Nat) : RS → RS
  | .nx ρ s => match unlock n s with | some s' => .nx ρ s' | none => .bad
  | .rt v s => match unlock n s with | some s' => .rt v s' | none => .bad
  | .bk ρ s => match unlock n s with | some s' => .bk ρ s' | none => .bad
  | .ct ρ s => match unlock n s with | some s' => .ct ρ s' | none => .bad
  | .exc _ _ _ _ => .bad
  | .bad => .bad
def unlockE (n : Nat) : R PV → R PV
  | .ok v s => match unlock n s with | some s' => .ok v s' | none => .bad
  | _ => .bad
/-- lk tells the dict -/
def sLock (lk : XF) (g : SF) : SF := fun ρ s => match lk ρ s with
  | .ok (.obj n) _ => match s[n]? with
    | some (.dct kvs) => unlockS n (g ρ (s.set n (.frz (.dct kvs))))
    | _ => g ρ s
  | _ => g ρ s
def eLock (lk g : XF) : XF := fun ρ s => match lk ρ s with
  | .ok (.obj n) _ => match s[n]? with
    | some (.dct kvs) => unlockE n (g ρ (s.set n (.frz (.dct kvs))))
    | _ => g ρ s
  | _ => g ρ s
section
variable {K : PySem.W.Frag} {mg : Str → Option Value} {m : List Addr} {H : Hp} {s : Sto}
theorem rep_lock {n : Nat} {d : Addr} {kvs : List (PV × PV)} {vs : List (Key × V)} {od : Obj} (hR : Rep K mg m H s) (hd : m[n]? = some d) (hu : H d = some (.dK vs)) (rk : RKV K mg m H kvs vs) :
    Ext m H m (upd H d (.frz od (.dK vs))) ∧ Rep K mg m (upd H d (.frz od (.dK vs))) (s.set n (.frz (.dct kvs))) := by
  have wr : Wr (.dK vs) := RO.wr (K := K) (mg := mg) (m := m) (H := H) (.dct rk) rfl
  have e : Ext m H m (upd H d (.frz od (.dK vs))) := Ext.wr hu wr
  exact ⟨e, hR.wr hd hu wr (.frz (.dct (rk.mono e)))⟩
/-- behind: unlocked again -/
theorem rep_unlock {m' : List Addr} {H' : Hp} {s' s'' : Sto} {n : Nat} {d : Addr} {vs : List (Key × V)} {od : Obj} (hd : m[n]? = some d) (hu : H d = some (.dK vs)) (e : Ext m (upd H d (.frz od (.dK vs))) m' H') (hR' : Rep K mg m' H' s') (h : unlock n s' = some s'') :
    H' d = some (.frz od (.dK vs)) ∧ Ext m H m' (upd H' d (.dK vs)) ∧ Ext m (upd H d (.frz od (.dK vs))) m' H' ∧ Rep K mg m' (upd H' d (.dK vs)) s'' ∧ ∀ x v, RV K mg m' H' x v → RV K mg m' (upd H' d (.dK vs)) x v := by
  have hf : H' d = some (.frz od (.dK vs)) := e.frz _ _ _ upd_same
  -- from H' to the unlocked heap all but the lock stands
  have keepT : ∀ a xs, H' a = some (.tup xs) → upd H' d (.dK vs) a = some (.tup xs) := fun a xs q => by
    rw [upd_ne fun z => by subst z; rw [hf] at q; cases q]; exact q
  have back : ∀ x v, RV K mg m' H' x v → RV K mg m' (upd H' d (.dK vs)) x v := by
    have key : ∀ x v, RV K mg m' H' x v → RV K mg m' (upd H' d (.dK vs)) x v := fun x v r =>
      RV.rec (motive_1 := fun x v _ => RV K mg m' (upd H' d (.dK vs)) x v) (motive_2 := fun x v _ => RVs K mg m' (upd H' d (.dK vs)) x v) .non .bl .int .str .ty (fun h => .obj h) (fun h => .glo h)
        (fun t _ ih => .tup (t.imp (keepT _ _) id) ih) .nil (fun _ _ a b => .cons a b) r
    exact key
  have backs : ∀ xs ys, RVs K mg m' H' xs ys → RVs K mg m' (upd H' d (.dK vs)) xs ys := fun xs ys r => by
    induction xs generalizing ys with
    | nil => cases r; exact .nil
    | cons x xs ih => cases r with | cons a b => exact .cons (back _ _ a) (ih _ b)
  have backKV : ∀ xs ys, RKV K mg m' H' xs ys → RKV K mg m' (upd H' d (.dK vs)) xs ys := fun xs ys r => by
    induction r with
    | nil => exact .nil
    | cons a _ ih => exact .cons (back _ _ a) ih
  have backF : ∀ xs ys, RFs K mg m' H' xs ys → RFs K mg m' (upd H' d (.dK vs)) xs ys := fun xs ys r => by
    induction r with
    | nil => exact .nil
    | cons a _ ih => exact .cons (back _ _ a) ih
  have backO : ∀ o u, RO K mg m' H' o u → RO K mg m' (upd H' d (.dK vs)) o u := fun o u r => by
    induction r with
    | lst a => exact .lst (backs _ _ a)
    | dct a => exact .dct (backKV _ _ a)
    | ins c a => exact .ins c (backF _ _ a)
    | frz _ ih => exact .frz ih
    | exn h c q => exact .exn h c (q.imp id fun ⟨dd, ob, gs, e0, e1, e2, e3⟩ => ⟨dd, ob, gs, e0, e1, by
        have hne : dd ≠ d := fun z => by
          rw [z, hf] at e2
          injection e2 with e2
          injection e2 with _ e2
          cases e2
        rw [upd_ne hne]; exact e2, backF _ _ e3⟩)
  refine ⟨hf, ⟨e.pre, fun a xs q => ?_, fun a o u q => ?_⟩, e, ?_, back⟩
  · have hne : a ≠ d := fun z => by subst z; rw [hu] at q; cases q
    rw [upd_ne hne]
    exact e.tup a xs (by rw [upd_ne hne]; exact q)
  · have hne : a ≠ d := fun z => by subst z; rw [hu] at q; cases q
    rw [upd_ne hne]
    exact e.frz a o u (by rw [upd_ne hne]; exact q)
  · unfold unlock at h
    split at h
    · rename_i o ho
      cases h
      have hd' := e.at hd
      refine ⟨hR'.nd, by rw [List.length_set]; exact hR'.len, fun k b so h1 h2 => ?_⟩
      by_cases hk : k = n
      · subst hk
        rw [hd'] at h1; cases h1
        have hl : k < s'.length := by have := (List.getElem?_eq_some_iff.mp h2).1; simpa using this
        rw [List.getElem?_set_self hl] at h2
        cases h2
        obtain ⟨u, hu', ro⟩ := hR'.to k _ _ hd' ho
        rw [hf] at hu'; cases hu'
        cases ro with
        | frz ro => exact ⟨_, upd_same, backO _ _ ro⟩
      · rw [List.getElem?_set_ne (Ne.symm hk)] at h2
        obtain ⟨u', q, ro⟩ := hR'.to k b so h1 h2
        have hb : b ≠ d := fun z => by
          subst z
          obtain ⟨l1, e1⟩ := List.getElem?_eq_some_iff.mp hd'
          obtain ⟨l2, e2⟩ := List.getElem?_eq_some_iff.mp h1
          exact hk ((List.getElem_inj hR'.nd).mp (e2.trans e1.symm))
        exact ⟨u', by rw [upd_ne hb]; exact q, backO _ _ ro⟩
    · cases h
end
section
variable {X : Cx} {W : WX} {st : Stmt} {e : Expr} {g : SF} {lk ge : XF}
theorem re_of {K : PySem.W.Frag} {mg : Str → Option Value} {m : List Addr} {H H' : Hp} (b : ∀ x v, RV K mg m H x v → RV K mg m H' x v) {ρ : Env} {σ : L2.St} (r : RE K mg m H ρ σ) : RE K mg m H' ρ σ := by
  induction r with
  | nil => exact .nil
  | emp _ ih => exact .emp ih
  | has a _ ih => exact .has (b _ _ a) ih
theorem _root_.L2.PS.or {X : Cx} {st : Stmt} {t t' : TS} (h : PS X st t) (h' : PS X st t') : PS X st (fun D σ H => t D σ H ∨ t' D σ H) := ⟨fun pins s σ H D I q => q.elim (fun q => h.run pins s σ H D I q) fun q => h'.run pins s σ H D I q⟩
theorem _root_.L2.PE.or {X : Cx} {e : Expr} {t t' : TE} (h : PE X e t) (h' : PE X e t') : PE X e (fun σ H Q => t σ H Q ∨ t' σ H Q) := ⟨fun pins s σ H D I q => q.elim (fun q => h.run pins s σ H D I q) fun q => h'.run pins s σ H D I q⟩
theorem fs_lock (lk : XF) (h : FS1 X W st g) : FS1 X W st (sLock lk g) := (PS.or (ps_lock h) h).wk fun D σ H ⟨m, ρ, s, hE, hR, hP⟩ => by
  have hP : PostS X.K X.mg W m H D (sLock lk g ρ s) := hP
  unfold sLock at hP
  split at hP
  · rename_i n s0 hn
    split at hP
    · rename_i kvs hs
      have hl : n < m.length := by rw [hR.len]; exact (List.getElem?_eq_some_iff.mp hs).1
      obtain ⟨u, hu, ro⟩ := hR.to n m[n] _ (List.getElem?_eq_getElem hl) hs
      have hd := List.getElem?_eq_getElem hl
      generalize m[n] = d at hd hu
      cases ro with
      | @dct _ vs rk =>
        refine .inl ⟨d, .dK vs, hu, trivial, fun od => ?_⟩
        obtain ⟨e1, hR1⟩ := rep_lock (od := od) hR hd hu rk
        refine ⟨m, ρ, _, hE.mono e1, hR1, ?_⟩
        cases hg : g ρ (s.set n (.frz (.dct kvs))) with
        | nx ρ' s' =>
          rw [hg] at hP
          intro m' H' σ' e' hE' hR'
          cases hun : unlock n s' with
          | none => simp only [unlockS, hun] at hP; exact hP.elim
          | some s'' =>
            simp only [unlockS, hun] at hP
            obtain ⟨q1, q2, q3, q4, q5⟩ := rep_unlock hd hu e' hR' hun
            exact ⟨q1, hP m' _ σ' q2 (re_of q5 hE') q4⟩
        | bk ρ' s' =>
          rw [hg] at hP
          intro m' H' σ' e' hE' hR'
          cases hun : unlock n s' with
          | none => simp only [unlockS, hun] at hP; exact hP.elim
          | some s'' =>
            simp only [unlockS, hun] at hP
            obtain ⟨q1, q2, q3, q4, q5⟩ := rep_unlock hd hu e' hR' hun
            exact ⟨q1, hP m' _ σ' q2 (re_of q5 hE') q4⟩
        | ct ρ' s' =>
          rw [hg] at hP
          intro m' H' σ' e' hE' hR'
          cases hun : unlock n s' with
          | none => simp only [unlockS, hun] at hP; exact hP.elim
          | some s'' =>
            simp only [unlockS, hun] at hP
            obtain ⟨q1, q2, q3, q4, q5⟩ := rep_unlock hd hu e' hR' hun
            exact ⟨q1, hP m' _ σ' q2 (re_of q5 hE') q4⟩
        | rt v s' =>
          rw [hg] at hP
          intro m' H' x e' hR' rx
          cases hun : unlock n s' with
          | none => simp only [unlockS, hun] at hP; exact hP.elim
          | some s'' =>
            simp only [unlockS, hun] at hP
            obtain ⟨q1, q2, q3, q4, q5⟩ := rep_unlock hd hu e' hR' hun
            exact ⟨q1, hP m' _ x q2 q4 (q5 _ _ rx)⟩
        | exc C fs ρ' s' => rw [hg] at hP; exact hP.elim
        | bad => rw [hg] at hP; exact hP.elim
    · exact .inr ⟨m, ρ, s, hE, hR, hP⟩
  · exact .inr ⟨m, ρ, s, hE, hR, hP⟩
theorem fe_lock (lk : XF) (h : FE X W e ge) : FE X W e (eLock lk ge) := (PE.or (pe_lock h) h).wk fun σ H Q ⟨m, ρ, s, hE, hR, hP⟩ => by
  have hP : Post X.K X.mg (relV X.K X.mg) W σ m H Q (eLock lk ge ρ s) := hP
  unfold eLock at hP
  split at hP
  · rename_i n s0 hn
    split at hP
    · rename_i kvs hs
      have hl : n < m.length := by rw [hR.len]; exact (List.getElem?_eq_some_iff.mp hs).1
      obtain ⟨u, hu, ro⟩ := hR.to n m[n] _ (List.getElem?_eq_getElem hl) hs
      have hd := List.getElem?_eq_getElem hl
      generalize m[n] = d at hd hu
      cases ro with
      | @dct _ vs rk =>
        refine .inl ⟨d, .dK vs, hu, trivial, fun od => ?_⟩
        obtain ⟨e1, hR1⟩ := rep_lock (od := od) hR hd hu rk
        refine ⟨m, ρ, _, hE.mono e1, hR1, ?_⟩
        cases hg : ge ρ (s.set n (.frz (.dct kvs))) with
        | ok v s' =>
          rw [hg] at hP
          intro m' H' x e' hR' rx
          cases hun : unlock n s' with
          | none => simp only [unlockE, hun] at hP; exact hP.elim
          | some s'' =>
            simp only [unlockE, hun] at hP
            obtain ⟨q1, q2, q3, q4, q5⟩ := rep_unlock hd hu e' hR' hun
            exact ⟨q1, hP m' _ x q2 q4 (q5 _ _ rx)⟩
        | exc C fs s' => rw [hg] at hP; exact hP.elim
        | bad => rw [hg] at hP; exact hP.elim
    · exact .inr ⟨m, ρ, s, hE, hR, hP⟩
  · exact .inr ⟨m, ρ, s, hE, hR, hP⟩
end
end FS

/-! FS: defs, calls, instances, stores; a law's end. -/
namespace FS
open PySem PySem.Spec PyProof.Rows L2

/-! ### room, no repr around -/
structure RoomG (k : Nat) (A : Around) : Prop where
  rm : Room k A
  gd : A.guards = some []
theorem RoomG.mono {j k : Nat} {A : Around} (r : RoomG k A) (h : j ≤ k) : RoomG j A := ⟨r.rm.mono h, r.gd⟩
theorem RoomG.deeper {k : Nat} {A : Around} (r : RoomG (k + 1) A) (env : PySem.Env) : RoomG k (A.deeper env) := ⟨r.rm.deeper env, r.gd⟩
theorem RoomG.make {k : Nat} {A : Around} (r : RoomG (k + 1) A) (C : Addr) (us : List Value) (kw : List (Str × Value)) : RoomG k (A.under (.builtin "type.__call__" ⟨.ref C :: us, kw⟩)) := by
  refine ⟨r.rm.make C us kw, ?_⟩
  have e : (Code.builtin "type.__call__" ⟨.ref C :: us, kw⟩).guards = [] := rfl
  show pushGuards (Code.builtin "type.__call__" ⟨.ref C :: us, kw⟩).guards A.guards = some []
  rw [e, r.gd]; rfl
theorem RoomG.hu {k : Nat} {A : Around} (r : RoomG k A) : A.units + 1 < cLine := by have := r.rm.units; omega
theorem RoomG.hu64 {k : Nat} {A : Around} (r : RoomG k A) : A.units + 64 < cLine := r.rm.units

/-! ### what a def does -/
abbrev GF := List PV → Sto → R PV
def RS.toR : RS → R PV
  | .nx _ s => .ok .non s
  | .rt v s => .ok v s
  | .exc C fs _ s => .exc C fs s
  | _ => .bad
/-- n parameters, k further names, the body -/
def fnF (n k : Nat) (b : SF) : GF := fun us s => if us.length = n then (b (us.map some ++ List.replicate k none) s).toR else .bad
def spG (K : PySem.W.Frag) (mg : Str → Option Value) (G : GF) (n : Nat) : Sp := fun vs H Q E => ∃ m st xs, Rep K mg m H st ∧ RVs K mg m H xs vs ∧ xs.length = n ∧ Post K mg (relV K mg) (fun cv d _ H => E cv d H) [] m H Q (G xs st)
structure FnG (P : Program) (w : World) (K : PySem.W.Frag) (mg : Str → Option Value) (base : Heap) (k : Nat) (f : Addr) (fd : FuncData) (ps : List Str) (G : GF) : Prop where
  len : ∀ us s, us.length ≠ ps.length → G us s = .bad
  run : ∀ (A : Around) (outer : List PySem.Env) (s : Shared) (H : Hp) (args : Args) (us : List Value) (vs : List V) (Q : VK) (E : XK), RoomG k A → Env0 P w K mg base A outer s H → BindsTo s fd args (ps.zip us) → Vals vs us →
    spG K mg G ps.length vs H Q E → codeAny (model P w) A (.call (.ref f) args) (CR (L2.CX P w) outer P w H s Q E) s
theorem FnG.mono {P : Program} {w : World} {K : PySem.W.Frag} {mg : Str → Option Value} {base : Heap} {j k : Nat} {f : Addr} {fd : FuncData} {ps : List Str} {G : GF} (F : FnG P w K mg base j f fd ps G) (h : j ≤ k) : FnG P w K mg base k f fd ps G :=
  ⟨F.len, fun A outer s H args us vs Q E hr => F.run A outer s H args us vs Q E (hr.mono h)⟩
theorem re_none {K : PySem.W.Frag} {mg : Str → Option Value} {m : List Addr} {H : Hp} : ∀ {k : Nat}, RE K mg m H (List.replicate k none) (List.replicate k none)
  | 0 => .nil
  | k + 1 => .emp re_none
theorem re_start {K : PySem.W.Frag} {mg : Str → Option Value} {m : List Addr} {H : Hp} {k : Nat} : ∀ {xs : List PV} {vs : List V}, RVs K mg m H xs vs → RE K mg m H (xs.map some ++ List.replicate k none) (vs.map some ++ List.replicate k none)
  | _, _, .nil => re_none
  | _, _, .cons r t => .has r (re_start t)
/-- THE RULE for a def -/
theorem fnG_of {P : Program} {w : World} {K : PySem.W.Frag} {mg : Str → Option Value} {base : Heap} {k j : Nat} {f : Addr} {x qual : Str} {st : Stmt} {fd : FuncData} {N ps : List Str} {b : SF} (F : Fun K x qual st f fd) (S : FnScope N ps (defScope st)) (hN : N.length = ps.length + j)
    (hbody : ∀ (cdv : Value) (A : Around) (outer : List PySem.Env) (s : Shared) (H : Hp) (E : XK), RoomG k (A.deeper (envOfC qual (defScope st) s.heap.objs.size f cdv)) →
      FSs (cxOf (L2.CX P w) P w K mg base N qual (defScope st) f cdv A outer s H E) (fun cls d _ H => E cls d H) (defBody st) b) : FnG P w K mg base (k + 1) f fd ps (fnF ps.length j b) := by
  obtain ⟨oc, od, kV, doc, pm, an, cdv, ct, osl, rfl, lk, hcd⟩ := F.ex
  refine ⟨fun us s h => if_neg h, fun A outer s H args us vs Q E hr e0 hb r hsp => ?_⟩

  obtain ⟨m, sto, xs, hR, rx, hl, hP⟩ := hsp
  have hlv : vs.length = ps.length := by rw [← rx.length]; exact hl
  have KX : K.In s.heap := e0.mod.kin.keeps fun b o e => (e0.bs b o e).1
  have names : ∀ y ∈ ps.zip us, (defScope st).names.lookup y.1 = some .local ∨ ((defScope st).names.lookup y.1 = some .cell ∧ ((cellsFrom (s.heap.objs.size + 1) (defScope st).names []).lookup y.1).isSome = true) := by
    rintro ⟨n, v⟩ hy
    exact (S.par n (List.of_mem_zip hy).1).imp id fun q => ⟨q, PySem.W.cellsFrom_some _ _ _ (.inl q)⟩
  refine codeAny_call_function hr.rm.depth (KX _ _ lk) rfl S.co S.gen rfl (PySem.W.codeRec_of KX hcd) (hb _ _ _ _ (wpAny_newFunctionEnv_cells S.kind names fun env he s1 y => ?_))
  subst he
  refine ⟨(e0.mod.nolimit.keeps fun b o e => (e0.bs b o e).1).keeps y.toInCall.keep, codeAny_func ?_⟩
  have body := hbody cdv A outer s H E (hr.deeper _)
  have I := inv_start (CX := L2.CX P w) (N := N) (qual := qual) (f := f) (cd := cdv) (E := E) S hr.rm.hd e0 hlv r y
  have hstart : L2.start N vs = vs.map some ++ List.replicate j none := by
    unfold L2.start
    rw [hN, hlv]
    congr 2
    omega
  rw [hstart] at I
  have hP : Post K mg (relV K mg) (fun cv d _ H => E cv d H) [] m H Q (fnF ps.length j b xs sto) := hP
  unfold fnF at hP
  rw [if_pos hl] at hP
  refine wpAny_mono (body.run [] s1 _ H { nx := fun _ H' => Q .non H', rt := Q } I ⟨m, _, sto, re_start rx, hR, ?_⟩) (fun fl s' hs => ?_) fun e s' hs => hs
  · show PostS K mg _ m H _ (b (xs.map some ++ List.replicate j none) sto)
    cases hb2 : b (xs.map some ++ List.replicate j none) sto with
    | nx ρ s2 => rw [hb2] at hP; exact fun m' H' σ' e _ hR' => hP m' H' .non e hR' .non
    | rt v s2 => rw [hb2] at hP; exact hP
    | exc C fs ρ s2 => rw [hb2] at hP; exact fun m' H' cv d σ' e _ hR' x => hP m' H' cv d e hR' x
    | bk ρ s2 => rw [hb2] at hP; exact hP.elim
    | ct ρ s2 => rw [hb2] at hP; exact hP.elim
    | bad => rw [hb2] at hP; exact hP.elim
  · cases fl with
    | ret u =>
      obtain ⟨v, σ', H', J, rv, q⟩ := hs
      exact ⟨v, H', J.os, J.bare, J.base, J.hok, rv, q⟩
    | next =>
      obtain ⟨σ', H', J, q⟩ := hs
      exact ⟨.non, H', J.os, J.bare, J.base, J.hok, rfl, q⟩
    | brk => obtain ⟨_, _, _, q⟩ := hs; exact q.elim
    | cont => obtain ⟨_, _, _, q⟩ := hs; exact q.elim

/-! ### calls -/
def eCallG (G : GF) (ga : Env → Sto → R (List PV)) : XF := fun ρ s => (ga ρ s).bind G
/-- o.m(..): o an instance of the class C without a field of that name -/
def insOf (s : Sto) : PV → Option (Str × List (Str × PV))
  | .obj n => match s[n]? with
    | some (.ins C fs) => some (C, fs)
    | _ => none
  | _ => none
def eMeth (C m : Str) (G : GF) (g : XF) (ga : Env → Sto → R (List PV)) : XF := fun ρ s => (g ρ s).bind fun x s1 => match insOf s1 x with
  | some (C', fs) => if C' = C ∧ fs.lookup m = none then (ga ρ s1).bind fun xs s2 => G (x :: xs) s2 else .bad
  | none => .bad
/-- C(..): a new instance, then __init__ -/
def eMake (C : Str) (G : GF) (ga : Env → Sto → R (List PV)) : XF := fun ρ s => (ga ρ s).bind fun xs s1 => (G (.obj s1.length :: xs) (s1 ++ [.ins C []])).bind fun v s2 => match v with
  | .non => .ok (.obj s1.length) s2
  | _ => .bad
def putS (f : Str) (y : PV) : List (Str × PV) → List (Str × PV)
  | [] => [(f, y)]
  | (g, v) :: r => if g = f then (g, y) :: r else (g, v) :: putS f y r
def eFld (C f : Str) (g : XF) : XF := fun ρ s => (g ρ s).bind fun x s1 => match insOf s1 x with
  | some (C', fs) => if C' = C then (match fs.lookup f with
    | some v => .ok v s1
    | none => .bad) else .bad
  | none => .bad
def sFldS (C f : Str) (go gv : XF) : SF := fun ρ s => (gv ρ s).thenS ρ fun y s1 => (go ρ s1).thenS ρ fun x s2 => match x, insOf s2 x with
  | .obj n, some (C', fs) => if C' = C ∧ fs.length < 1000 then .nx ρ (s2.set n (.ins C' (putS f y fs))) else .bad
  | _, _ => .bad
/-- o[i] = v: a list or a dict -/
def setF (s : Sto) (o i v : PV) : Option Sto := match o with
  | .obj n => match s[n]? with
    | some (.lst xs) => match i with
      | .int k => (ixN xs.length k).map fun j => s.set n (.lst (xs.set j v))
      | _ => none
    | some (.dct kvs) => (toKey i).bind fun k => if kvs.length < sizeLine then some (s.set n (.dct (putP kvs (keyP k) v))) else none
    | _ => none
  | _ => none
def sSub (go gi gv : XF) : SF := fun ρ s => (gv ρ s).thenS ρ fun y s1 => (go ρ s1).thenS ρ fun o s2 => (gi ρ s2).thenS ρ fun i s3 => match setF s3 o i y with
  | some s4 => .nx ρ s4
  | none => .bad
def sDel (go gi : XF) : SF := fun ρ s => (go ρ s).thenS ρ fun o s1 => (gi ρ s1).thenS ρ fun i s2 => match o, toKey i with
  | .obj n, some k => match s2[n]? with
    | some (.dct kvs) => if (getP kvs (keyP k)).isSome then .nx ρ (s2.set n (.dct (dropP kvs (keyP k)))) else .bad
    | _ => .bad
  | _, _ => .bad
section
variable {K : PySem.W.Frag} {mg : Str → Option Value} {m : List Addr} {H : Hp} {s : Sto}
theorem insOf_ok (hR : Rep K mg m H s) {u : PV} {x : V} (r : RV K mg m H u x) {C : Str} {fs : List (Str × PV)} (h : insOf s u = some (C, fs)) : ∃ n a c dx gs, u = .obj n ∧ m[n]? = some a ∧ x = .ref a ∧ s[n]? = some (.ins C fs) ∧ mg C = some (.ref c) ∧ H a = some (.ins c dx gs) ∧ RFs K mg m H fs gs := by
  cases r with
  | @obj n a hn =>
    replace h : (match s[n]? with
      | some (.ins C fs) => some (C, fs)
      | _ => none) = some (C, fs) := h
    split at h
    · rename_i C' fs' e
      cases h
      obtain ⟨u, hu, ro⟩ := hR.to _ _ _ hn e
      cases ro with
      | ins hc rf => exact ⟨n, a, _, _, _, rfl, hn, rfl, e, hc, hu, rf⟩
    · cases h
  | _ => cases h
theorem RFs.look : ∀ {fs : List (Str × PV)} {gs : List (Str × V)} (f : Str), RFs K mg m H fs gs → (∀ v, fs.lookup f = some v → ∃ u, gs.lookup f = some u ∧ RV K mg m H v u) ∧ (fs.lookup f = none → gs.lookup f = none)
  | _, _, f, .nil => ⟨fun v e => (nomatch e), fun _ => rfl⟩
  | _, _, f, @RFs.cons _ _ _ _ g x v fs gs r t => by
    rw [List.lookup_cons, List.lookup_cons]
    cases e : f == g with
    | true => exact ⟨fun v' e' => by cases e'; exact ⟨v, rfl, r⟩, fun e' => by cases e'⟩
    | false => exact RFs.look f t
theorem RFs.put {f : Str} {y : PV} {z : V} (ry : RV K mg m H y z) : ∀ {fs : List (Str × PV)} {gs : List (Str × V)}, RFs K mg m H fs gs → RFs K mg m H (putS f y fs) (putF f z gs)
  | _, _, .nil => .cons ry .nil
  | _, _, @RFs.cons _ _ _ _ g x v fs gs r t => by
    show RFs K mg m H (if g = f then (g, y) :: fs else (g, x) :: putS f y fs) (if g = f then (g, z) :: gs else (g, v) :: putF f z gs)
    by_cases e : g = f
    · rw [if_pos e, if_pos e]; exact .cons ry t
    · rw [if_neg e, if_neg e]; exact .cons r (RFs.put ry t)
theorem RFs.length : ∀ {fs : List (Str × PV)} {gs : List (Str × V)}, RFs K mg m H fs gs → fs.length = gs.length
  | _, _, .nil => rfl
  | _, _, .cons _ t => congrArg (· + 1) (RFs.length t)
end
section
variable {X : Cx} {W : WX} {pos p apos : Pos} {e o : Expr} {es : List Expr} {g : XF} {ga : Env → Sto → R (List PV)} {G : GF} {k : Nat} {f : Addr} {fd : FuncData} {ps : List Str} {x mn : Str}
theorem runG (F : FnG X.prog X.w X.K X.mg X.base k f fd ps G) (hr : RoomG k X.A) (hb : Binds X.K fd ps []) (tk : Takes X W) {pins : List (Addr × Obj)} {σ : L2.St} {H : Hp} {s : Shared} {Q : VK} {us : List Value} {vs : List V} (I : Inv X pins σ H s) (r : Vals vs us)
    (h : spG X.K X.mg G ps.length vs H Q (WE W σ)) : wpAny (model X.prog X.w) X.A (call (.ref f) us) (EP X pins σ Q) X.xe s := by
  have hl : us.length = ps.length := by
    obtain ⟨m, st, xs, _, rx, hl, _⟩ := h
    rw [← r.length, ← rx.length]; exact hl
  have b := hb s us I.kIn (by rw [List.append_nil]; exact hl)
  rw [List.append_nil] at b
  refine wpAny_call (codeAny_mono (F.run X.A X.stack s H ⟨us, []⟩ us vs Q (WE W σ) hr I.env0 b r h) fun r s' hq => ?_)
  cases r with
  | error e => exact passAt tk σ pins H s e s' I hq
  | ok fl =>
    cases fl with
    | ret u => exact I.after hq
    | next => exact hq.elim
    | brk => exact hq.elim
    | cont => exact hq.elim
theorem spG_of (F : FnG X.prog X.w X.K X.mg X.base k f fd ps G) {σ : L2.St} {m : List Addr} {H : Hp} {Q : VK} {st : Sto} {xs : List PV} {vs : List V} (hR : Rep X.K X.mg m H st) (rx : RVs X.K X.mg m H xs vs) (h : Post X.K X.mg (relV X.K X.mg) W σ m H Q (G xs st)) : spG X.K X.mg G ps.length vs H Q (WE W σ) := by
  by_cases hl : xs.length = ps.length
  · refine ⟨m, st, xs, hR, rx, hl, ?_⟩
    cases hg : G xs st with
    | ok a s => rw [hg] at h; exact h
    | exc C fs s => rw [hg] at h; exact h
    | bad => rw [hg] at h; exact h
  · rw [F.len xs st hl] at h; exact h.elim
/-- f(e, ..) -/
theorem fe_call (F : FnG X.prog X.w X.K X.mg X.base k f fd ps G) (hr : RoomG k X.A) (tk : Takes X W) (hb : Binds X.K fd ps []) (hm : X.mg x = some (.ref f)) (hk : PySem.W.keepIn X.K (.ref f) = true) (ha : FA X W (e :: es) ga) (hg : Gl X x := by rfl)
    (hdb : (x == ("__debug__" : Str)) = false := by decide) (he : starEach (e :: es) X.env = (false, eval e X.env) :: starEach es X.env := by rfl) (hpl : (backTo pos (starEach es X.env)).any (·.1) = false := by rfl) :
    FE X W (.Call (.Name x p) (e :: es) [] pos) (eCallG G ga) := by
  refine ⟨fun pins s σ H Q I h => ?_⟩
  obtain ⟨m, ρ, st, hE, hR, hP⟩ := h
  refine wpAny_Call_Name_kw (ld_glob I hg hm ?_ hdb)
  refine PySem.W.callWith_K (h₀ := X.base) I.ok.mod.kin hk (thn (ha.run pos pins s σ H (fun vs H1 => spG X.K X.mg G ps.length vs H1 Q (WE W σ)) I ⟨m, ρ, st, hE, hR, ?_⟩) fun us s1 ⟨vs, H1, I1, r, q⟩ => ⟨I1.kIn, runG F hr hb tk I1 r q⟩) he hpl
  exact Post.split (rel := relVs X.K X.mg) hE hP fun m1 H1 s1 u x e1 hE1 hR1 ru hP1 => spG_of F hR1 ru hP1
theorem fe_call0 (F : FnG X.prog X.w X.K X.mg X.base k f fd ps G) (hr : RoomG k X.A) (tk : Takes X W) (hb : Binds X.K fd ps []) (hm : X.mg x = some (.ref f)) (hk : PySem.W.keepIn X.K (.ref f) = true) (hg : Gl X x := by rfl)
    (hdb : (x == ("__debug__" : Str)) = false := by decide) : FE X W (.Call (.Name x p) [] [] pos) (eCallG G aNil) := by
  refine ⟨fun pins s σ H Q I h => ?_⟩
  obtain ⟨m, ρ, st, hE, hR, hP⟩ := h
  refine wpAny_Call_Name_kw (ld_glob I hg hm ?_ hdb)
  exact PySem.W.callWith_K0 I.kIn hk (runG (us := []) F hr hb tk I .nil (spG_of F hR .nil hP))
/-- o.m(e, ..) of an instance of the class C at c -/
theorem fe_meth {C : Str} {c : Addr} {pl : Sem Bool} (ho : FE X W o g) (hC : X.mg C = some (.ref c)) (cl : Cls X.K c) (hm : Meth X.K c mn f) (F : FnG X.prog X.w X.K X.mg X.base k f fd ps G) (hr : RoomG k X.A) (tk : Takes X W) (hb : Binds X.K fd ps []) (ha : FA X W (e :: es) ga)
    (hst : starEach (e :: es) X.env = (false, eval e X.env) :: starEach es X.env := by rfl) (hpl : (backTo pos (starEach es X.env)).any (·.1) = false := by rfl)
    (ht : eval (.Call (.Attribute o mn apos) (e :: es) [] pos) X.env = (eval o X.env >>= fun ov => standAt apos.atName >>= fun _ => holding [ov] (getMethod ov mn pl) >>= fun q =>
      callWith pos q.1 q.2 (backTo pos (starEach (e :: es) X.env)) (backToKw pos (keywordEach [] X.env))) := by rfl) :
    FE X W (.Call (.Attribute o mn apos) (e :: es) [] pos) (eMeth C mn G g ga) := by
  refine ⟨fun pins s σ H Q I h => ?_⟩
  obtain ⟨m, ρ, st, hE, hR, hP⟩ := h
  refine PySem.W.methodCall_KW (pl := pl) (thn (ho.run pins s σ H (fun x H1 => ∃ a dx gs, x = .ref a ∧ H1 a = some (.ins c dx gs) ∧ gs.lookup mn = none ∧ lift X.K X.mg (relVs X.K X.mg) W ga σ H1 fun vs H2 => spG X.K X.mg G ps.length (x :: vs) H2 Q (WE W σ)) I ⟨m, ρ, st, hE, hR, ?_⟩)
    fun u s1 ⟨x, H1, I1, rx, a, dx, gs, ex, ea, l, q⟩ => ?_) ht
  · refine Post.split hE hP fun m1 H1 s1 u x e1 hE1 hR1 ru hP1 => ?_
    split at hP1
    · rename_i C' fs hi
      split at hP1
      · rename_i hc
        obtain ⟨n, a, c', dx, gs, rfl, hn, rfl, hs, hc', ha', rf⟩ := insOf_ok hR1 ru hi
        obtain ⟨rfl, hl⟩ := hc
        rw [hC] at hc'
        cases hc'
        refine ⟨a, dx, gs, rfl, ha', (rf.look mn).2 hl, m1, ρ, s1, hE1, hR1, ?_⟩
        exact Post.split (rel := relVs X.K X.mg) hE1 hP1 fun m2 H2 s2 us vs e2 hE2 hR2 rus hP2 => spG_of F hR2 (.cons (ru.mono e2) rus) hP2
      · exact hP1.elim
    · exact hP1.elim
  · subst ex
    cases rx
    refine getmeth_ok I1 ea cl hm l ?_
    exact PySem.W.callWith_K (first := [.ref a]) (h₀ := X.base) I.ok.mod.kin hm.kp (thn (ha.run pos pins s1 σ H1 _ I1 q) fun us s2 ⟨vs, H2, I2, r, q2⟩ => ⟨I2.kIn, runG (us := .ref a :: us) (vs := .ref a :: vs) F hr hb tk I2 (.cons rfl r) q2⟩) hst hpl
theorem fe_meth0 {C : Str} {c : Addr} {pl : Sem Bool} (ho : FE X W o g) (hC : X.mg C = some (.ref c)) (cl : Cls X.K c) (hm : Meth X.K c mn f) (F : FnG X.prog X.w X.K X.mg X.base k f fd ps G) (hr : RoomG k X.A) (tk : Takes X W) (hb : Binds X.K fd ps [])
    (ht : eval (.Call (.Attribute o mn apos) [] [] pos) X.env = (eval o X.env >>= fun ov => standAt apos.atName >>= fun _ => holding [ov] (getMethod ov mn pl) >>= fun q =>
      callWith pos q.1 q.2 (backTo pos (starEach [] X.env)) (backToKw pos (keywordEach [] X.env))) := by rfl) :
    FE X W (.Call (.Attribute o mn apos) [] [] pos) (eMeth C mn G g aNil) := by
  refine ⟨fun pins s σ H Q I h => ?_⟩
  obtain ⟨m, ρ, st, hE, hR, hP⟩ := h
  refine PySem.W.methodCall_KW (pl := pl) (thn (ho.run pins s σ H (fun x H1 => ∃ a dx gs, x = .ref a ∧ H1 a = some (.ins c dx gs) ∧ gs.lookup mn = none ∧ spG X.K X.mg G ps.length [x] H1 Q (WE W σ)) I ⟨m, ρ, st, hE, hR, ?_⟩)
    fun u s1 ⟨x, H1, I1, rx, a, dx, gs, ex, ea, l, q⟩ => ?_) ht
  · refine Post.split hE hP fun m1 H1 s1 u x e1 hE1 hR1 ru hP1 => ?_
    split at hP1
    · rename_i C' fs hi
      split at hP1
      · rename_i hc
        obtain ⟨n, a, c', dx, gs, rfl, hn, rfl, hs, hc', ha', rf⟩ := insOf_ok hR1 ru hi
        obtain ⟨rfl, hl⟩ := hc
        rw [hC] at hc'
        cases hc'
        exact ⟨a, dx, gs, rfl, ha', (rf.look mn).2 hl, spG_of F hR1 (.cons ru .nil) hP1⟩
      · exact hP1.elim
    · exact hP1.elim
  · subst ex
    cases rx
    refine getmeth_ok I1 ea cl hm l ?_
    exact PySem.W.callWith_K0 (first := [.ref a]) I1.kIn hm.kp (runG (us := [.ref a]) (vs := [.ref a]) F hr hb tk I1 (.cons rfl .nil) q)
/-- an instance is made -/
theorem runMake {c : Addr} (M : Mk X.K c f) (F : FnG X.prog X.w X.K X.mg X.base k f fd ps G) (hr : RoomG (k + 1) X.A) (tk : Takes X W) (hb : Binds X.K fd ps []) {pins : List (Addr × Obj)} {σ : L2.St} {H : Hp} {s : Shared} {Q : VK} {us : List Value} {vs : List V} (I : Inv X pins σ H s) (r : Vals vs us)
    (h : ∀ x dx, H x = none → H dx = none → dx ≠ x → spG X.K X.mg G ps.length (.ref x :: vs) (upd (upd H dx (.own x)) x (.ins c dx [])) (fun v H2 => v = .non ∧ Q (.ref x) H2) (WE W σ)) :
    wpAny (model X.prog X.w) X.A (call (.ref c) us) (EP X pins σ Q) X.xe s := by
  have hq := h _ _ (I.hok.fresh (Nat.le_succ _)) (I.hok.fresh (Nat.le_refl _)) (Nat.ne_of_lt (Nat.lt_succ_self _))
  have J := Inv.made (C := c) I
  have rr : Vals (V.ref (s.heap.objs.size + 1) :: vs) (Value.ref (s.heap.objs.size + 1) :: us) := .cons rfl r
  have hl : (Value.ref (s.heap.objs.size + 1) :: us).length = ps.length := by
    obtain ⟨m, st, xs, _, rx, hl, _⟩ := hq
    rw [← rr.length, ← rx.length]; exact hl
  have b := hb _ (Value.ref (s.heap.objs.size + 1) :: us) J.kIn (by rw [List.append_nil]; exact hl)
  rw [List.append_nil] at b
  refine wpAny_call (make_map I.kIn M.makes M.init (beq_iff_eq.mp M.fn) (codeAny_mono (F.run _ X.stack _ _ _ _ _ _ (WE W σ) (hr.make c us []) (J.env0.make c us []) b rr hq) fun q s' hq' => ?_))
  cases q with
  | error e => exact passAt tk σ pins _ _ e s' J hq'
  | ok fl =>
    cases fl with
    | ret u =>
      obtain ⟨v, H', I3, rv, ev, q3⟩ := J.after hq'
      subst ev
      exact ⟨rv, V.ref _, H', I3, rfl, q3⟩
    | next => exact hq'.elim
    | brk => exact hq'.elim
    | cont => exact hq'.elim
theorem rep_make {m : List Addr} {H : Hp} {s : Sto} {C : Str} {c x dx : Addr} (hR : Rep X.K X.mg m H s) (hC : X.mg C = some (.ref c)) (hx : H x = none) (hdx : H dx = none) (hne : dx ≠ x) :
    Ext m H (m ++ [x]) (upd (upd H dx (.own x)) x (.ins c dx [])) ∧ Rep X.K X.mg (m ++ [x]) (upd (upd H dx (.own x)) x (.ins c dx [])) (s ++ [.ins C []]) := by
  have e1 : Ext m H m (upd H dx (.own x)) := Ext.lay0 hdx
  have hx1 : (upd H dx (.own x)) x = none := by rw [upd_ne (Ne.symm hne)]; exact hx
  exact ⟨e1.trans (Ext.lay hx1 [x]), (hR.lay0 hdx).lay hx1 (.ins hC .nil)⟩
theorem make_spec {C : Str} {c : Addr} (F : FnG X.prog X.w X.K X.mg X.base k f fd ps G) (hC : X.mg C = some (.ref c)) {σ : L2.St} {m : List Addr} {H : Hp} {Q : VK} {st : Sto} {xs : List PV} {vs : List V} (hR : Rep X.K X.mg m H st) (rx : RVs X.K X.mg m H xs vs)
    (h : Post X.K X.mg (relV X.K X.mg) W σ m H Q ((G (.obj st.length :: xs) (st ++ [.ins C []])).bind fun v s2 => match v with
      | .non => .ok (.obj st.length) s2
      | _ => .bad)) : ∀ x dx, H x = none → H dx = none → dx ≠ x → spG X.K X.mg G ps.length (.ref x :: vs) (upd (upd H dx (.own x)) x (.ins c dx [])) (fun v H2 => v = .non ∧ Q (.ref x) H2) (WE W σ) := by
  intro x dx hx hdx hne
  obtain ⟨e2, hR2⟩ := rep_make hR hC hx hdx hne
  have hat : (m ++ [x])[st.length]? = some x := hR.newAt
  refine spG_of F hR2 (.cons (.obj hat) (rx.mono e2)) ?_
  have h := Post.ext e2 h
  cases hg : G (.obj st.length :: xs) (st ++ [.ins C []]) with
  | bad => rw [hg] at h; exact h.elim
  | exc C fs s => rw [hg] at h; exact h
  | ok v s2 =>
    rw [hg] at h
    intro m' H' z e3 hR3 rz
    cases rz with
    | non => exact ⟨rfl, h m' H' _ e3 hR3 (.obj (e3.at hat))⟩
    | _ => exact h.elim
theorem fe_make {C : Str} {c : Addr} (M : Mk X.K c f) (F : FnG X.prog X.w X.K X.mg X.base k f fd ps G) (hr : RoomG (k + 1) X.A) (tk : Takes X W) (hb : Binds X.K fd ps []) (hC : X.mg C = some (.ref c)) (ha : FA X W (e :: es) ga) (hg : Gl X C := by rfl)
    (hdb : (C == ("__debug__" : Str)) = false := by decide) (he : starEach (e :: es) X.env = (false, eval e X.env) :: starEach es X.env := by rfl) (hpl : (backTo pos (starEach es X.env)).any (·.1) = false := by rfl) :
    FE X W (.Call (.Name C p) (e :: es) [] pos) (eMake C G ga) := by
  refine ⟨fun pins s σ H Q I h => ?_⟩
  obtain ⟨m, ρ, st, hE, hR, hP⟩ := h
  refine wpAny_Call_Name_kw (ld_glob I hg hC ?_ hdb)
  refine PySem.W.callWith_K (h₀ := X.base) I.ok.mod.kin M.kp (thn (ha.run pos pins s σ H (fun vs H1 => ∀ x dx, H1 x = none → H1 dx = none → dx ≠ x → spG X.K X.mg G ps.length (.ref x :: vs) (upd (upd H1 dx (.own x)) x (.ins c dx [])) (fun v H2 => v = .non ∧ Q (.ref x) H2) (WE W σ)) I ⟨m, ρ, st, hE, hR, ?_⟩)
    fun us s1 ⟨vs, H1, I1, r, q⟩ => ⟨I1.kIn, runMake M F hr tk hb I1 r q⟩) he hpl
  exact Post.split (rel := relVs X.K X.mg) hE hP fun m1 H1 s1 u x e1 hE1 hR1 ru hP1 => make_spec F hC hR1 ru hP1
theorem fe_make0 {C : Str} {c : Addr} (M : Mk X.K c f) (F : FnG X.prog X.w X.K X.mg X.base k f fd ps G) (hr : RoomG (k + 1) X.A) (tk : Takes X W) (hb : Binds X.K fd ps []) (hC : X.mg C = some (.ref c)) (hg : Gl X C := by rfl)
    (hdb : (C == ("__debug__" : Str)) = false := by decide) : FE X W (.Call (.Name C p) [] [] pos) (eMake C G aNil) := by
  refine ⟨fun pins s σ H Q I h => ?_⟩
  obtain ⟨m, ρ, st, hE, hR, hP⟩ := h
  refine wpAny_Call_Name_kw (ld_glob I hg hC ?_ hdb)
  exact PySem.W.callWith_K0 I.kIn M.kp (runMake (us := []) M F hr tk hb I .nil (make_spec F hC hR .nil hP))

/-! ### attributes, stores -/
theorem fe_fld {C fn : Str} {c : Addr} (he : FE X W e g) (hC : X.mg C = some (.ref c)) (cl : Cls X.K c) (na : NoAttr X.K c fn) (hb : attributeBase e fn X.env (eval e X.env) = eval e X.env := by rfl) : FE X W (.Attribute e fn pos) (eFld C fn g) := (pe_fld he hb).wk fun σ H Q h => by
  obtain ⟨m, ρ, st, hE, hR, hP⟩ := h
  refine ⟨m, ρ, st, hE, hR, Post.split hE hP fun m1 H1 s1 u x e1 hE1 hR1 ru hP1 => ?_⟩
  split at hP1
  · rename_i C' fs hi
    split at hP1
    · rename_i hc
      subst hc
      obtain ⟨n, a, c', dx, gs, rfl, hn, rfl, hs, hc', ha', rf⟩ := insOf_ok hR1 ru hi
      rw [hC] at hc'
      cases hc'
      cases hl : fs.lookup fn with
      | none => rw [hl] at hP1; exact hP1.elim
      | some v =>
        rw [hl] at hP1
        obtain ⟨z, hz, rz⟩ := (rf.look fn).1 v hl
        exact ⟨a, c, dx, gs, z, rfl, ha', cl, na, hz, hP1 m1 H1 z (Ext.refl _ _) hR1 rz⟩
    · exact hP1.elim
  · exact hP1.elim
theorem fs_fld {C fn : Str} {c : Addr} {value : Expr} {gv : XF} {pos' : Pos} (ho : FE X W o g) (hv : FE X W value gv) (hC : X.mg C = some (.ref c)) (cl : Cls X.K c) (na : NoAttr X.K c fn) (hs : swapsWith value (some (.Attribute o fn pos')) pos.line X.env = pure false := by rfl) :
    FS1 X W (.Assign [.Attribute o fn pos'] value pos) (sFldS C fn g gv) := (ps_fld ho hv hs).wk fun D σ H h => by
  obtain ⟨m, ρ, st, hE, hR, hP⟩ := h
  refine ⟨m, ρ, st, hE, hR, post_thenS hE hP fun m1 H1 s1 y yv e1 hE1 hR1 ry hP1 => ?_⟩
  refine ⟨m1, ρ, s1, hE1, hR1, post_thenS hE1 hP1 fun m2 H2 s2 u x e2 hE2 hR2 ru hP2 => ?_⟩
  split at hP2
  · rename_i n C' fs hi
    split at hP2
    · rename_i hc
      obtain ⟨rfl, hlen⟩ := hc
      obtain ⟨n', a, c', dx, gs, en, hn, rfl, hs, hc', ha', rf⟩ := insOf_ok hR2 ru hi
      cases en
      rw [hC] at hc'
      cases hc'
      have wr : Wr (.ins c dx gs) := RO.wr (K := X.K) (mg := X.mg) (m := m2) (H := H2) (.ins hC rf) rfl
      have e3 : Ext m2 H2 m2 (upd H2 a (.ins c dx (putF fn yv gs))) := Ext.wr ha' wr
      have rf' : RFs X.K X.mg m2 (upd H2 a (.ins c dx (putF fn yv gs))) fs gs := rf.mono e3
      exact ⟨a, c, dx, gs, rfl, ha', cl, na, by rw [← rf.length]; exact hlen, hP2 m2 _ σ e3 (hE2.mono e3) (hR2.wr hn ha' wr (.ins hC (rf'.put ((ry.mono e2).mono e3))))⟩
    · exact hP2.elim
  · exact hP2.elim
/-- a store by values: a list's place, a dict's key -/
theorem set_any (hu : X.A.units + 1 < cLine) : PSet X (fun o i v H Q => rSetL o i v H Q ∨ ∃ a H', o = .ref a ∧ DPut H a i v H' ∧ Q H') := by
  intro pins s σ H o i v ov iv u Q I ro ri rv h
  rcases h with h | ⟨a, H', rfl, g, q⟩
  · exact set_list pins s σ H o i v ov iv u Q I ro ri rv h
  · cases ro
    exact d_setItem hu I g ri rv fun s' I' => ⟨H', I', q⟩
theorem setF_ok {m : List Addr} {H : Hp} {s s' : Sto} {o i v : PV} {ov iv u : V} (hR : Rep X.K X.mg m H s) (ro : RV X.K X.mg m H o ov) (ri : RV X.K X.mg m H i iv) (rv : RV X.K X.mg m H v u) (h : setF s o i v = some s') {Q : Hp → Prop} (q : ∀ H', Ext m H m H' → Rep X.K X.mg m H' s' → Q H') :
    rSetL ov iv u H Q ∨ ∃ a H', ov = .ref a ∧ DPut H a iv u H' ∧ Q H' := by
  unfold setF at h
  split at h
  · rename_i n
    cases ro with
    | @obj _ a hn =>
      split at h
      · rename_i xs hs
        split at h
        · rename_i k
          cases ri
          cases hj : ixN xs.length k with
          | none => rw [hj] at h; cases h
          | some j =>
            rw [hj] at h
            cases h
            obtain ⟨w, hw, r⟩ := hR.to _ _ _ hn hs
            cases r with
            | @lst _ vs rs =>
              have wr : Wr (.lst vs) := RO.wr (K := X.K) (mg := X.mg) (m := m) (H := H) (.lst rs) rfl
              have e : Ext m H m (upd H a (.lst (vs.set j u))) := Ext.wr hw wr
              exact .inl ⟨a, vs, k, j, rfl, rfl, hw, by rw [← rs.length]; exact hj, q _ e (hR.wr hn hw wr (.lst ((rs.mono e).set j (rv.mono e))))⟩
        · cases h
      · rename_i kvs hs
        cases hk : toKey i with
        | none => rw [hk] at h; cases h
        | some k =>
          rw [hk] at h
          have h : (if kvs.length < sizeLine then some (s.set n (.dct (putP kvs (keyP k) v))) else none) = some s' := h
          split at h
          · cases h
            have ei := toKey_ok hk
            subst ei
            have ei := ri.key
            subst ei
            obtain ⟨w, hw, r⟩ := hR.to _ _ _ hn hs
            cases r with
            | @dct _ vs rs =>
              have wr : Wr (.dK vs) := RO.wr (K := X.K) (mg := X.mg) (m := m) (H := H) (.dct rs) rfl
              have e : Ext m H m (upd H a (.dK (putK vs k u))) := Ext.wr hw wr
              exact .inr ⟨a, _, rfl, DPut.k hw (by rw [← rs.length]; assumption), q _ e (hR.wr hn hw wr (.dct ((rs.mono e).put k (rv.mono e))))⟩
          · cases h
      · cases h
  · cases h
theorem fs_sub {i value : Expr} {gi gv : XF} {tpos : Pos} (hu : X.A.units + 1 < cLine) (ho : FE X W o g) (hi : FE X W i gi) (hv : FE X W value gv)
    (ha : ∀ v, assign (.Subscript o i tpos) X.env v = (holding [v] (eval o X.env) >>= fun ov => holding [v, ov] (eval i X.env) >>= fun iv => standAt tpos >>= fun _ => holding [v, ov, iv] (setItem ov iv v) >>= fun _ => release [v, ov, iv] []) := by intro _; rfl)
    (hs : swapsWithSole [.Subscript o i tpos] value pos.line X.env = pure false := by rfl) (hw : swappedStores [.Subscript o i tpos] value X.env = pure none := by rfl)
    (h1 : (assignEach [.Subscript o i tpos] X.env).map (·.2) = [assign (.Subscript o i tpos) X.env] := by rfl) :
    FS1 X W (.Assign [.Subscript o i tpos] value pos) (sSub g gi gv) := (ps_asg hv (pg_sub ho hi (set_any hu) ha) hs hw h1).wk fun D σ H h => by
  obtain ⟨m, ρ, st, hE, hR, hP⟩ := h
  refine ⟨m, ρ, st, hE, hR, post_thenS hE hP fun m1 H1 s1 y yv e1 hE1 hR1 ry hP1 => ?_⟩
  refine ⟨m1, ρ, s1, hE1, hR1, post_thenS hE1 hP1 fun m2 H2 s2 o ov e2 hE2 hR2 ro hP2 => ?_⟩
  refine ⟨m2, ρ, s2, hE2, hR2, post_thenS hE2 hP2 fun m3 H3 s3 i iv e3 hE3 hR3 ri hP3 => ?_⟩
  cases hf : setF s3 o i y with
  | none => rw [hf] at hP3; exact hP3.elim
  | some s4 =>
    rw [hf] at hP3
    exact setF_ok hR3 (ro.mono e3) ri ((ry.mono e2).mono e3) hf fun H' e4 hR4 => hP3 m3 H' σ e4 (hE3.mono e4) hR4
theorem fs_del {i : Expr} {gi : XF} {tpos : Pos} (ho : FE X W o g) (hi : FE X W i gi) : FS1 X W (.Delete [.Subscript o i tpos] pos) (sDel g gi) := (ps_ddel ho hi).wk fun D σ H h => by
  obtain ⟨m, ρ, st, hE, hR, hP⟩ := h
  refine ⟨m, ρ, st, hE, hR, post_thenS hE hP fun m1 H1 s1 o ov e1 hE1 hR1 ro hP1 => ?_⟩
  refine ⟨m1, ρ, s1, hE1, hR1, post_thenS hE1 hP1 fun m2 H2 s2 i iv e2 hE2 hR2 ri hP2 => ?_⟩
  split at hP2
  · rename_i n k hk
    have ei := toKey_ok hk
    subst ei
    have ei := ri.key
    subst ei
    split at hP2
    · rename_i kvs hs
      split at hP2
      · rename_i hg
        have ro := ro.mono e2
        cases ro with
        | @obj _ a hn =>
          obtain ⟨w, hw, r⟩ := hR2.to _ _ _ hn hs
          cases r with
          | @dct _ vs rs =>
            have wr : Wr (.dK vs) := RO.wr (K := X.K) (mg := X.mg) (m := m2) (H := H2) (.dct rs) rfl
            have e : Ext m2 H2 m2 (upd H2 a (.dK (dropK vs k))) := Ext.wr hw wr
            refine ⟨a, vs, k, rfl, hw, rfl, ?_, hP2 m2 _ σ e (hE2.mono e) (hR2.wr hn hw wr (.dct ((rs.mono e).drop k)))⟩
            cases hz : getP kvs (keyP k) with
            | none => rw [hz] at hg; cases hg
            | some z => obtain ⟨u, hu, _⟩ := (rs.get k).1 z hz; rw [hu]; rfl
      · exact hP2.elim
    · exact hP2.elim
  · exact hP2.elim
end
end FS

/-! FS: calls of built-ins and their methods by values. -/
namespace FS
open PySem PySem.Spec PyProof.Rows L2

def blOf : PV → Option Bool
  | .bl b => some b
  | _ => none
def strOfP : PV → Option Str
  | .str x => some x
  | _ => none
def intOfP : PV → Option Int
  | .int x => some x
  | _ => none
section
variable {K : PySem.W.Frag} {mg : Str → Option Value} {m : List Addr} {H : Hp}
theorem RVs.bls : ∀ {xs : List PV} {bs : List Bool} {vs : List V}, xs.mapM blOf = some bs → RVs K mg m H xs vs → vs = bs.map V.bl
  | [], bs, _, h, .nil => by rw [List.mapM_nil] at h; cases h; rfl
  | x :: xs, bs, _, h, .cons r rs => by
    rw [List.mapM_cons] at h
    cases x with
    | bl b =>
      cases e : xs.mapM blOf with
      | none => rw [e] at h; cases h
      | some cs =>
        rw [e] at h; cases h; cases r
        rw [RVs.bls e rs]; rfl
    | _ => cases h
theorem RVs.strs : ∀ {xs : List PV} {bs : List Str} {vs : List V}, xs.mapM strOfP = some bs → RVs K mg m H xs vs → vs = bs.map V.str
  | [], bs, _, h, .nil => by rw [List.mapM_nil] at h; cases h; rfl
  | x :: xs, bs, _, h, .cons r rs => by
    rw [List.mapM_cons] at h
    cases x with
    | str b =>
      cases e : xs.mapM strOfP with
      | none => rw [e] at h; cases h
      | some cs =>
        rw [e] at h; cases h; cases r
        rw [RVs.strs e rs]; rfl
    | _ => cases h
theorem RVs.intsM : ∀ {xs : List PV} {bs : List Int} {vs : List V}, xs.mapM intOfP = some bs → RVs K mg m H xs vs → vs = bs.map V.int
  | [], bs, _, h, .nil => by rw [List.mapM_nil] at h; cases h; rfl
  | x :: xs, bs, _, h, .cons r rs => by
    rw [List.mapM_cons] at h
    cases x with
    | int b =>
      cases e : xs.mapM intOfP with
      | none => rw [e] at h; cases h
      | some cs =>
        rw [e] at h; cases h; cases r
        rw [RVs.intsM e rs]; rfl
    | _ => cases h
theorem RVs.ofStrs : ∀ (ss : List Str), RVs K mg m H (ss.map PV.str) (ss.map V.str)
  | [] => .nil
  | x :: xs => .cons (.str x) (RVs.ofStrs xs)
theorem RKV.keys : ∀ {xs : List (PV × PV)} {vs : List (Key × V)}, RKV K mg m H xs vs → RVs K mg m H (xs.map (·.1)) (vs.map fun kv => kV kv.1)
  | _, _, .nil => .nil
  | _, _, .cons _ t => .cons (RV.key' _) t.keys
theorem RVs.one {x : PV} {ys : List V} (h : RVs K mg m H [x] ys) : ∃ v, ys = [v] ∧ RV K mg m H x v := by
  cases h with
  | cons r t => cases t; exact ⟨_, rfl, r⟩
theorem RVs.two {x y : PV} {ys : List V} (h : RVs K mg m H [x, y] ys) : ∃ v w, ys = [v, w] ∧ RV K mg m H x v ∧ RV K mg m H y w := by
  cases h with
  | cons r t => cases t with | cons r2 t => cases t; exact ⟨_, _, rfl, r, r2⟩
end

/-! ### any, all, list, tuple, dict, sorted, repr, isinstance -/
def anyF : OpN := fun s xs => match xs with
  | [x] => (lstOf s x).bind fun ys => (ys.mapM blOf).map fun bs => (.bl (bs.any id), s)
  | _ => none
def allF : OpN := fun s xs => match xs with
  | [x] => (lstOf s x).bind fun ys => (ys.mapM blOf).map fun bs => (.bl (bs.all id), s)
  | _ => none
def listF : OpN := fun s xs => match xs with
  | [x] => match dctOf s x with
    | some kvs => some (.obj s.length, s ++ [.lst (kvs.map (·.1))])
    | none => (seqOf s x).map fun ys => (.obj s.length, s ++ [.lst ys])
  | _ => none
def tupleF : OpN := fun s xs => match xs with
  | [.tup ys] => some (.tup ys, s)
  | [.obj n] => (lstOf s (.obj n)).map fun ys => (.tup ys, s)
  | _ => none
def dictF : OpN := fun s xs => match xs with
  | [x] => (dctOf s x).map fun kvs => (.obj s.length, s ++ [.dct kvs])
  | _ => none
def leT (a b : Str) : Bool := !ltCps b.cps.toList a.cps.toList
def sortT (xs : List Str) : List Str := xs.mergeSort leT
def sortZ (xs : List Int) : List Int := xs.mergeSort fun a b => decide (a ≤ b)
def sortedF : OpN := fun s xs => match xs with
  | [x] => (lstOf s x).bind fun ys => if ys.length < 64 then
      match ys.mapM strOfP with
      | some ss => some (.obj s.length, s ++ [.lst ((sortT ss).map .str)])
      | none => (ys.mapM intOfP).map fun ns => (.obj s.length, s ++ [.lst ((sortZ ns).map .int)])
    else none
  | _ => none
def isRefP : PV → Bool
  | .tup _ => true
  | .obj _ => true
  | _ => false
def reprF : OpN := fun s xs => match xs with
  | [x] => if isRefP x then (toD s x).bind fun d => if d.showable = true ∧ d.hasDict = false ∧ d.depth + 1 ≤ 64 ∧ d.shown.length ≤ sizeLine then some (.str d.shown, s) else none else none
  | _ => none
def sumF : OpN := fun s xs => match xs with
  | [x] => (lstOf s x).bind fun ys => (ys.mapM intOfP).map fun ns => (.int ns.sum, s)
  | _ => none
theorem leT_trans (a b c : Str) (h : leT a b = true) (k : leT b c = true) : leT a c = true := by
  unfold leT at *
  rw [ltCps_eq] at *
  simp only [Bool.not_eq_true', decide_eq_false_iff_not, List.not_lt] at *
  exact List.le_trans h k
theorem leT_total (a b : Str) : (leT a b || leT b a) = true := by
  unfold leT
  rw [ltCps_eq, ltCps_eq]
  rcases List.le_total a.cps.toList b.cps.toList with h | h
  · rw [Bool.or_eq_true]; left; simp [List.not_lt.mpr h]
  · rw [Bool.or_eq_true]; right; simp [List.not_lt.mpr h]
theorem leT_anti (a b : Str) (h : leT a b = true) (k : leT b a = true) : a = b := by
  unfold leT at *
  rw [ltCps_eq] at *
  simp only [Bool.not_eq_true', decide_eq_false_iff_not, List.not_lt] at *
  have e := List.le_antisymm h k
  cases a; cases b
  simp only at e
  congr 1
  exact Array.toList_inj.mp e
theorem risingS_pw : ∀ (l : List Str) (p : Str), risingS p l = true → (p :: l).Pairwise fun a b => leT a b = true
  | [], p, _ => List.pairwise_singleton _ _
  | x :: r, p, h => by
    have h : (!ltCps x.cps.toList p.cps.toList && risingS x r) = true := h
    rw [Bool.and_eq_true] at h
    have ih := risingS_pw r x h.2
    refine List.pairwise_cons.mpr ⟨fun y hy => ?_, ih⟩
    rcases List.mem_cons.mp hy with rfl | hy
    · exact h.1
    · exact leT_trans _ _ _ (show leT p x = true from h.1) (List.rel_of_pairwise_cons ih hy)
theorem sortT_of {xs ys : List Str} (hp : ys.Perm xs) (hs : sortedS ys = true) : ys = sortT xs := by
  have h1 : ys.Pairwise fun a b => leT a b = true := by
    cases ys with
    | nil => exact .nil
    | cons x r => exact risingS_pw r x hs
  have h2 := List.pairwise_mergeSort (le := leT) leT_trans leT_total xs
  exact List.Perm.eq_of_pairwise (le := fun a b => leT a b = true) (fun a b _ _ => leT_anti a b) h1 h2 (hp.trans (List.mergeSort_perm xs leT).symm)
theorem sortZ_of {xs ys : List Int} (hp : ys.Perm xs) (hs : ys.Pairwise (· ≤ ·)) : ys = sortZ xs := by
  have h2 := List.pairwise_mergeSort (le := fun a b : Int => decide (a ≤ b)) (fun a b c h k => by simp only [decide_eq_true_eq] at *; omega) (fun a b => by simp only [Bool.or_eq_true, decide_eq_true_eq]; omega) xs
  refine List.Perm.eq_of_pairwise (le := fun a b : Int => a ≤ b) (fun a b _ _ h k => by omega) hs ?_ (hp.trans (List.mergeSort_perm xs _).symm)
  exact h2.imp fun h => by simpa using h
section
variable {X : Cx}
theorem o_any (hc : X.calm = true) : CallR X (.builtin "any") (rOpN X.K X.mg anyF) := by
  intro pins s σ H xs us Q I rx ⟨m, st, as, w, st', hR, ra, hf, q⟩
  unfold anyF at hf
  split at hf
  · rename_i x
    cases hl : lstOf st x with
    | none => rw [hl] at hf; cases hf
    | some ys =>
      rw [hl] at hf
      have hf : ((ys.mapM blOf).map fun bs => (PV.bl (bs.any id), st)) = some (w, st') := hf
      cases hb : ys.mapM blOf with
      | none => rw [hb] at hf; cases hf
      | some bs =>
        rw [hb] at hf; cases hf
        obtain ⟨v, rfl, rv⟩ := ra.one
        obtain ⟨a, vs, rfl, hrd, rs⟩ := lstOf_ok hR rv hl
        rw [rs.bls hb] at hrd
        exact cr_any hc pins s σ H _ us Q I rx ⟨a, bs, rfl, hrd, fin hR q (.bl _)⟩
  · cases hf
theorem o_all (hc : X.calm = true) : CallR X (.builtin "all") (rOpN X.K X.mg allF) := by
  intro pins s σ H xs us Q I rx ⟨m, st, as, w, st', hR, ra, hf, q⟩
  unfold allF at hf
  split at hf
  · rename_i x
    cases hl : lstOf st x with
    | none => rw [hl] at hf; cases hf
    | some ys =>
      rw [hl] at hf
      have hf : ((ys.mapM blOf).map fun bs => (PV.bl (bs.all id), st)) = some (w, st') := hf
      cases hb : ys.mapM blOf with
      | none => rw [hb] at hf; cases hf
      | some bs =>
        rw [hb] at hf; cases hf
        obtain ⟨v, rfl, rv⟩ := ra.one
        obtain ⟨a, vs, rfl, hrd, rs⟩ := lstOf_ok hR rv hl
        rw [rs.bls hb] at hrd
        exact cr_all hc pins s σ H _ us Q I rx ⟨a, bs, rfl, hrd, fin hR q (.bl _)⟩
  · cases hf
theorem o_sum (hc : X.calm = true) : CallR X (.builtin "sum") (rOpN X.K X.mg sumF) := by
  intro pins s σ H xs us Q I rx ⟨m, st, as, w, st', hR, ra, hf, q⟩
  unfold sumF at hf
  split at hf
  · rename_i x
    cases hl : lstOf st x with
    | none => rw [hl] at hf; cases hf
    | some ys =>
      rw [hl] at hf
      have hf : ((ys.mapM intOfP).map fun bs => (PV.int bs.sum, st)) = some (w, st') := hf
      cases hb : ys.mapM intOfP with
      | none => rw [hb] at hf; cases hf
      | some bs =>
        rw [hb] at hf; cases hf
        obtain ⟨v, rfl, rv⟩ := ra.one
        obtain ⟨a, vs, rfl, hrd, rs⟩ := lstOf_ok hR rv hl
        rw [rs.intsM hb] at hrd
        exact cr_sum hc pins s σ H _ us Q I rx ⟨a, bs, rfl, hrd, fin hR q (.int _)⟩
  · cases hf
theorem o_list (hc : X.calm = true) : CallR X (.type "list") (rOpN X.K X.mg listF) := by
  intro pins s σ H xs us Q I rx ⟨m, st, as, w, st', hR, ra, hf, q⟩
  unfold listF at hf
  split at hf
  · rename_i x
    obtain ⟨v, rfl, rv⟩ := ra.one
    split at hf
    · rename_i kvs hd
      cases hf
      obtain ⟨a, vs, rfl, hrd, rk⟩ := dctOf_ok hR rv hd
      exact call_listD hc pins s σ H _ us Q I rx ⟨a, vs, rfl, hrd, finL hR q rk.keys⟩
    · cases hq : seqOf st x with
      | none => rw [hq] at hf; cases hf
      | some ys =>
        rw [hq] at hf; cases hf
        obtain ⟨a, vs, rfl, hrd, rs⟩ := seqOf_ok hR rv hq
        exact call_list_of pins s σ H _ us Q I rx ⟨a, vs, rfl, hrd, finL hR q rs⟩
  · cases hf
theorem o_tuple : CallR X (.type "tuple") (rOpN X.K X.mg tupleF) := by
  intro pins s σ H xs us Q I rx ⟨m, st, as, w, st', hR, ra, hf, q⟩
  unfold tupleF at hf
  split at hf
  · cases hf
    obtain ⟨v, rfl, rv⟩ := ra.one
    cases rv with
    | tup t rs => exact call_tuple_of pins s σ H _ us Q I rx ⟨_, _, rfl, .inr ⟨t.sq, fin hR q (.tup t rs)⟩⟩
  · rename_i n
    cases hl : lstOf st (.obj n) with
    | none => rw [hl] at hf; cases hf
    | some ys =>
      rw [hl] at hf; cases hf
      obtain ⟨v, rfl, rv⟩ := ra.one
      obtain ⟨a, vs, rfl, hrd, rs⟩ := lstOf_ok hR rv hl
      exact call_tuple_of pins s σ H _ us Q I rx ⟨a, vs, rfl, .inl ⟨hrd, finT hR q rs⟩⟩
  · cases hf
theorem o_dict : CallR X (.type "dict") (rOpN X.K X.mg dictF) := by
  intro pins s σ H xs us Q I rx ⟨m, st, as, w, st', hR, ra, hf, q⟩
  unfold dictF at hf
  split at hf
  · rename_i x
    obtain ⟨v, rfl, rv⟩ := ra.one
    cases hd : dctOf st x with
    | none => rw [hd] at hf; cases hf
    | some kvs =>
      rw [hd] at hf; cases hf
      obtain ⟨a, vs, rfl, hrd, rk⟩ := dctOf_ok hR rv hd
      refine call_dictD pins s σ H _ us Q I rx ⟨a, vs, rfl, hrd, fun p hp => ?_⟩
      have e := Ext.lay (m := m) (o := .dK vs) hp [p]
      exact q _ _ _ e (hR.lay hp (.dct (rk.mono e))) (.obj hR.newAt)
  · cases hf
theorem o_sorted : CallR X (.builtin "sorted") (rOpN X.K X.mg sortedF) := by
  intro pins s σ H xs us Q I rx ⟨m, st, as, w, st', hR, ra, hf, q⟩
  unfold sortedF at hf
  split at hf
  · rename_i x
    obtain ⟨v, rfl, rv⟩ := ra.one
    cases hl : lstOf st x with
    | none => rw [hl] at hf; cases hf
    | some ys =>
      rw [hl] at hf
      obtain ⟨a, vs, rfl, hrd, rs⟩ := lstOf_ok hR rv hl
      have hf : (if ys.length < 64 then
        match ys.mapM strOfP with
        | some ss => some (PV.obj st.length, st ++ [SO.lst ((sortT ss).map .str)])
        | none => (ys.mapM intOfP).map fun ns => (PV.obj st.length, st ++ [SO.lst ((sortZ ns).map .int)])
        else none) = some (w, st') := hf
      split at hf
      · rename_i h64
        split at hf
        · rename_i ss hb
          cases hf
          have hv := rs.strs hb
          have hlen := rs.length
          subst hv
          refine cr_sortedS pins s σ H _ us Q I rx ⟨a, ss, rfl, hrd, by rw [List.length_map] at hlen; omega, fun zs p hp hs hn => ?_⟩
          rw [sortT_of hp hs]
          exact finL hR q (RVs.ofStrs _) p hn
        · cases hb : ys.mapM intOfP with
          | none => rw [hb] at hf; cases hf
          | some ns =>
            rw [hb] at hf; cases hf
            have hv := rs.intsM hb
            have hlen := rs.length
            subst hv
            refine cr_sorted pins s σ H _ us Q I rx ⟨a, ns, rfl, hrd, by rw [List.length_map] at hlen; omega, fun zs p hp hs hn => ?_⟩
            rw [sortZ_of hp hs]
            exact finL hR q (RVs.ints _) p hn
      · cases hf
  · cases hf
theorem o_repr (hg : X.A.guards = some []) (hu : X.A.units + 64 < cLine) : CallR X (.builtin "repr") (rOpN X.K X.mg reprF) := by
  intro pins s σ H xs us Q I rx ⟨m, st, as, w, st', hR, ra, hf, q⟩
  unfold reprF at hf
  split at hf
  · rename_i x
    obtain ⟨v, rfl, rv⟩ := ra.one
    split at hf
    · rename_i hx
      cases hd : toD st x with
      | none => rw [hd] at hf; cases hf
      | some d =>
        rw [hd] at hf
        have hf : (if d.showable = true ∧ d.hasDict = false ∧ d.depth + 1 ≤ 64 ∧ d.shown.length ≤ sizeLine then some (PV.str d.shown, st) else none) = some (w, st') := hf
        split at hf
        · rename_i hz
          cases hf
          have dp := toD_ok hR rv hd
          have ha : ∃ a, v = .ref a := by
            cases rv with
            | tup t rs => exact ⟨_, rfl⟩
            | obj h => exact ⟨_, rfl⟩
            | _ => cases hx
          obtain ⟨a, rfl⟩ := ha
          obtain ⟨bs, hr⟩ := Dp.reads I d _ _ dp (show RelV (.ref a) (.ref a) from rfl)
          rw [Vals.ref1 rx]
          exact repr_of_reads' hr hz.1 (PyData.noDict_hsm hz.2.1) hg (by omega) (fun _ _ z => z) (fun h' u tk k => ⟨.str d.shown, H, I.kept k, ⟨_, rfl⟩, fin hR q (.str _)⟩) hz.2.2.2
        · cases hf
    · cases hf
  · cases hf
end

/-! ### isinstance -/
inductive Tk where
  | bt (s : String) | own (C : Str)
deriving DecidableEq
def tkOf (s : Sto) : PV → Option Tk
  | .non => some (.bt "NoneType")
  | .bl _ => some (.bt "bool")
  | .int _ => some (.bt "int")
  | .str _ => some (.bt "str")
  | .tup _ => some (.bt "tuple")
  | .obj n => match s[n]? with
    | some (.lst _) => some (.bt "list")
    | some (.dct _) => some (.bt "dict")
    | some (.exn k C fs) => if k = n ∧ fs = [] then some (.own C) else none
    | _ => none
  | _ => none
def tkCls : PV → Option Tk
  | .ty T => some (.bt T)
  | .glo C => some (.own C)
  | _ => none
def isiF (tab : Tk → Tk → Option Bool) : OpN := fun s xs => match xs with
  | [x, c] => (tkOf s x).bind fun t => (tkCls c).bind fun d => (tab t d).map fun b => (.bl b, s)
  | _ => none
end FS

/-! FS: isinstance, methods, reversed slices by values. -/
namespace FS
open PySem PySem.Spec PyProof.Rows L2

/-- the class object of a kind -/
def TkV (mg : Str → Option Value) : Tk → Value → Prop
  | .bt s, v => v = .type s
  | .own C, v => ∃ c, mg C = some (.ref c) ∧ v = .ref c
structure IsiOk (K : PySem.W.Frag) (mg : Str → Option Value) (tab : Tk → Tk → Option Bool) : Prop where
  kit : ∀ t d b tv dv, tab t d = some b → TkV mg t tv → TkV mg d dv → PySem.W.kitOne K tv dv = some b
  exc : ∀ C d D, tab (.own C) d ≠ none → mg C = some (.ref D) → ExcC K D
section
variable {X : Cx}
theorem tkOf_ok {tab : Tk → Tk → Option Bool} {d : Tk} {m : List Addr} {H : Hp} {st : Sto} {u : PV} {x : V} {t : Tk} {v : Value} {s : Shared} {pins : List (Addr × Obj)} {σ : L2.St} (I : Inv X pins σ H s) (ok : IsiOk X.K X.mg tab) (hd : tab t d ≠ none) (hR : Rep X.K X.mg m H st) (r : RV X.K X.mg m H u x) (rx : RelV x v) (h : tkOf st u = some t) :
    ∃ (tv : Value) (P : Heap → Prop), TkV X.mg t tv ∧ PySem.W.KitX X.K v tv P ∧ P s.heap ∧ v ≠ .builtin "__main__.__loader__#opaque" := by
  have by_ : ∀ tv, TkV X.mg t tv → TyX X.K H x tv → ∃ (tv : Value) (P : Heap → Prop), TkV X.mg t tv ∧ PySem.W.KitX X.K v tv P ∧ P s.heap ∧ v ≠ .builtin "__main__.__loader__#opaque" := fun tv h1 h2 => by
    obtain ⟨P, Z, p, hx⟩ := kit_of I rx h2
    exact ⟨tv, P, h1, Z, p, hx⟩
  cases r with
  | non => cases h; exact by_ _ rfl (.base .non)
  | bl b => cases h; exact by_ _ rfl (.base (.bl b))
  | int b => cases h; exact by_ _ rfl (.base (.int b))
  | str b => cases h; exact by_ _ rfl (.base (.str b))
  | ty _ => cases h
  | glo _ => cases h
  | tup ta rs =>
    cases h
    rcases ta with e | ⟨o, its, n, ek, ec, _⟩
    · exact by_ _ rfl (.base (.tup e))
    · exact by_ _ rfl (.kTuple ek ec)
  | @obj n a hn =>
    replace h : (match st[n]? with
      | some (.lst _) => some (Tk.bt "list")
      | some (.dct _) => some (.bt "dict")
      | some (.exn k C fs) => if k = n ∧ fs = [] then some (.own C) else none
      | _ => none) = some t := h
    split at h
    · rename_i xs e
      obtain ⟨u, hu, ro⟩ := hR.to _ _ _ hn e
      cases ro; cases h
      exact by_ _ rfl (.base (.lst hu))
    · rename_i xs e
      obtain ⟨u, hu, ro⟩ := hR.to _ _ _ hn e
      cases ro; cases h
      exact by_ _ rfl (.base (.dK hu))
    · rename_i k C fs e
      split at h
      · rename_i hk
        cases h
        obtain ⟨u, hu, ro⟩ := hR.to _ _ _ hn e
        cases ro with
        | @exn _ _ c a' d' _ ha hc hq =>
          obtain ⟨hk1, hk2⟩ := hk
          subst hk1
          rw [hn] at ha
          cases ha
          rcases hq with ⟨_, rfl⟩ | ⟨_, _, _, ne, _⟩
          · cases (show v = Value.ref a from rx)
            obtain ⟨⟨oe, vs, he, hz, hdt⟩, _, _⟩ := (show ObjOk X.prog X.w H s.heap a (ExK (.ref c) none a) from I.hok a _ hu)
            have E := ok.exc C d c hd hc
            refine ⟨.ref c, _, ⟨c, hc, rfl⟩, PySem.W.handS_kitx_exc (x := a) (ox := oe) E.hg E.hk E.hs E.hd E.ha E.hn E.ht E.hm, ?_, fun z => nomatch z⟩
            obtain ⟨oc, od, oda, osl⟩ := oe
            obtain ⟨h1, h2⟩ := hz
            dsimp only at h1 h2 hdt
            subst h1 h2 hdt
            exact ⟨he, rfl, rfl, trivial⟩
          · exact absurd hk2 ne
      · cases h
    · cases h
theorem o_isi {tab : Tk → Tk → Option Bool} (ok : IsiOk X.K X.mg tab) : CallR X (.builtin "isinstance") (rOpN X.K X.mg (isiF tab)) := by
  intro pins s σ H xs us Q I rx ⟨m, st, as, w, st', hR, ra, hf, q⟩
  unfold isiF at hf
  split at hf
  · rename_i x c
    obtain ⟨xv, cv, rfl, r1, r2⟩ := ra.two
    obtain ⟨u1, u2, rfl, q1, q2⟩ := vals2 rx
    cases h1 : tkOf st x with
    | none => rw [h1] at hf; cases hf
    | some t =>
      cases h2 : tkCls c with
      | none => rw [h1, h2] at hf; cases hf
      | some d =>
        cases h3 : tab t d with
        | none => rw [h1, h2] at hf; replace hf : (tab t d).map (fun b => (PV.bl b, st)) = some (w, st') := hf; rw [h3] at hf; cases hf
        | some b =>
          rw [h1, h2] at hf
          replace hf : (tab t d).map (fun b => (PV.bl b, st)) = some (w, st') := hf
          rw [h3] at hf
          cases hf
          obtain ⟨tv, P, ht, Z, p, hx⟩ := tkOf_ok I ok (by rw [h3]; exact nofun) hR r1 q1 h1
          have hdv : TkV X.mg d u2 := by
            cases r2 with
            | ty T => cases h2; exact q2
            | glo hg => cases h2; exact ⟨_, hg, q2⟩
            | _ => cases h2
          exact PySem.W.kia_one Z I.kIn p (ok.kit _ _ _ _ _ h3 ht hdv) hx fun tk => ⟨.bl b, H, I.tok tk, rfl, fin hR q (.bl b)⟩
  · cases hf

/-! ### built-in names as values -/
theorem fe_bty {W : WX} {x : Str} {T : String} {pos : Pos} (hg : Gl X x) (hm : X.mg x = none) (hv : bootBuiltins x = some (.type T)) (hn : x ≠ "__name__" := by decide) (hd : (x == ("__debug__" : Str)) = false := by decide) : FE X W (.Name x pos) (eC (.ty T)) :=
  fe_c (pe_bltn (v := .ty T) hg hm hv rfl hn hd) fun _ _ => .ty T
end

/-! ### methods of lists, dicts, texts -/
abbrev OpM := Sto → PV → List PV → O PV
def mAppend : OpM := fun s x xs => match x, xs with
  | .obj n, [y] => match s[n]? with
    | some (.lst ys) => if ys.length < sizeLine then some (.non, s.set n (.lst (ys ++ [y]))) else none
    | _ => none
  | _, _ => none
def mPop : OpM := fun s x xs => match x, xs with
  | .obj n, [] => match s[n]? with
    | some (.lst ys) => (ys[ys.length - 1]?).map fun y => (y, s.set n (.lst ys.dropLast))
    | _ => none
  | _, _ => none
def mClear : OpM := fun s x xs => match x, xs with
  | .obj n, [] => match s[n]? with
    | some (.lst ys) => some (.non, s.set n (.lst []))
    | _ => none
  | _, _ => none
def mReverse : OpM := fun s x xs => match x, xs with
  | .obj n, [] => match s[n]? with
    | some (.lst ys) => some (.non, s.set n (.lst ys.reverse))
    | _ => none
  | _, _ => none
def mExtend : OpM := fun s x xs => match x, xs with
  | .obj n, [.obj k] => match s[n]?, s[k]? with
    | some (.lst ys), some (.lst zs) => if ys.length + zs.length ≤ sizeLine then some (.non, s.set n (.lst (ys ++ zs))) else none
    | _, _ => none
  | _, _ => none
def mDClear : OpM := fun s x xs => match x, xs with
  | .obj n, [] => match s[n]? with
    | some (.dct _) => some (.non, s.set n (.dct []))
    | _ => none
  | _, _ => none
def mGet : OpM := fun s x xs => match dctOf s x with
  | some kvs => match xs with
    | [k] => (toKey k).map fun k => ((getP kvs (keyP k)).getD .non, s)
    | [k, d] => (toKey k).map fun k => ((getP kvs (keyP k)).getD d, s)
    | _ => none
  | none => none
def mJoin : OpM := fun s x xs => match x, xs with
  | .str a, [y] => (seqOf s y).bind fun ys => (ys.mapM strOfP).bind fun zs => if (zs.map (·.length)).sum + zs.length * a.length ≤ 16777216 then some (.str (Txt.join a zs), s) else none
  | _, _ => none
def mSplit : OpM := fun s x xs => match x, xs with
  | .str a, [.str b] => if (b.length == 0) = false ∧ a.length + 2 ≤ sizeLine then some (.obj s.length, s ++ [.lst ((Txt.split a b).map .str)]) else none
  | _, _ => none
section
variable {X : Cx}
/-- a list's write -/
theorem wrL {m : List Addr} {H : Hp} {st : Sto} {n : Nat} {a : Addr} {ys zs : List PV} {vs ws : List V} {y : PV} {z : V} {Q : VK} (hR : Rep X.K X.mg m H st) (hn : m[n]? = some a) (hs : st[n]? = some (.lst ys)) (hu : H a = some (.lst vs)) (rs : RVs X.K X.mg m H zs ws) (ry : RV X.K X.mg m H y z)
    (q : ∀ m' H' z, Ext m H m' H' → Rep X.K X.mg m' H' (st.set n (.lst zs)) → RV X.K X.mg m' H' y z → Q z H') : Q z (upd H a (.lst ws)) := by
  have hw : Wr (.lst vs) := ⟨fun _ => nofun, fun _ _ => nofun⟩
  have e := Ext.wr (m := m) (o := .lst ws) hu hw
  exact q _ _ _ e (hR.wr hn hu hw (.lst (rs.mono e))) (ry.mono e)
theorem o_append : MtR X "list.append" (rMt X.K X.mg mAppend) := by
  intro pins s σ H x xs v us Q I rx rxs ⟨m, st, u, as, w, st', hR, r, ra, hf, q⟩
  unfold mAppend at hf
  split at hf
  · split at hf
    · rename_i ys e
      split at hf
      · cases hf
        cases r with
        | obj hn =>
          obtain ⟨y, rfl, ry⟩ := ra.one
          obtain ⟨o, hu, ro⟩ := hR.to _ _ _ hn e
          cases ro with
          | lst rs => exact mt_append pins s σ H _ _ v us Q I rx rxs ⟨_, _, _, rfl, rfl, hu, by rw [← rs.length]; assumption, wrL hR hn e hu (rs.append (.cons ry .nil)) .non q⟩
      · cases hf
    · cases hf
  · cases hf
theorem o_pop : MtR X "list.pop" (rMt X.K X.mg mPop) := by
  intro pins s σ H x xs v us Q I rx rxs ⟨m, st, u, as, w, st', hR, r, ra, hf, q⟩
  unfold mPop at hf
  split at hf
  · split at hf
    · rename_i ys e
      cases hy : ys[ys.length - 1]? with
      | none => rw [hy] at hf; cases hf
      | some y =>
        rw [hy] at hf
        cases hf
        cases r with
        | obj hn =>
          cases ra
          obtain ⟨o, hu, ro⟩ := hR.to _ _ _ hn e
          cases ro with
          | lst rs =>
            obtain ⟨z, hz, rz⟩ := rs.get hy
            refine mt_pop pins s σ H _ _ v us Q I rx rxs ⟨_, _, z, rfl, rfl, hu, by rw [← rs.length]; exact hz, wrL hR hn e hu ?_ rz q⟩
            rw [List.dropLast_eq_take, List.dropLast_eq_take, ← rs.length]
            exact rs.take _
    · cases hf
  · cases hf
theorem o_clear : MtR X "list.clear" (rMt X.K X.mg mClear) := by
  intro pins s σ H x xs v us Q I rx rxs ⟨m, st, u, as, w, st', hR, r, ra, hf, q⟩
  unfold mClear at hf
  split at hf
  · split at hf
    · rename_i ys e
      cases hf
      cases r with
      | obj hn =>
        cases ra
        obtain ⟨o, hu, ro⟩ := hR.to _ _ _ hn e
        cases ro with
        | lst rs => exact mt_clear pins s σ H _ _ v us Q I rx rxs ⟨_, _, rfl, rfl, hu, wrL hR hn e hu .nil .non q⟩
    · cases hf
  · cases hf
theorem o_reverse : MtR X "list.reverse" (rMt X.K X.mg mReverse) := by
  intro pins s σ H x xs v us Q I rx rxs ⟨m, st, u, as, w, st', hR, r, ra, hf, q⟩
  unfold mReverse at hf
  split at hf
  · split at hf
    · rename_i ys e
      cases hf
      cases r with
      | obj hn =>
        cases ra
        obtain ⟨o, hu, ro⟩ := hR.to _ _ _ hn e
        cases ro with
        | lst rs => exact mt_reverse pins s σ H _ _ v us Q I rx rxs ⟨_, _, rfl, rfl, hu, wrL hR hn e hu rs.reverse .non q⟩
    · cases hf
  · cases hf
theorem o_extend : MtR X "list.extend" (rMt X.K X.mg mExtend) := by
  intro pins s σ H x xs v us Q I rx rxs ⟨m, st, u, as, w, st', hR, r, ra, hf, q⟩
  unfold mExtend at hf
  split at hf
  · split at hf
    · rename_i ys zs e e2
      split at hf
      · cases hf
        cases r with
        | obj hn =>
          obtain ⟨y, rfl, ry⟩ := ra.one
          cases ry with
          | obj hk =>
            obtain ⟨o, hu, ro⟩ := hR.to _ _ _ hn e
            obtain ⟨o2, hu2, ro2⟩ := hR.to _ _ _ hk e2
            cases ro with
            | lst rs =>
              cases ro2 with
              | lst rs2 => exact mt_extend pins s σ H _ _ v us Q I rx rxs ⟨_, _, _, _, rfl, rfl, hu, hu2, by rw [← rs.length, ← rs2.length]; assumption, wrL hR hn e hu (rs.append rs2) .non q⟩
      · cases hf
    · cases hf
  · cases hf
theorem o_dclear : MtR X "dict.clear" (rMt X.K X.mg mDClear) := by
  intro pins s σ H x xs v us Q I rx rxs ⟨m, st, u, as, w, st', hR, r, ra, hf, q⟩
  unfold mDClear at hf
  split at hf
  · split at hf
    · rename_i ys e
      cases hf
      cases r with
      | obj hn =>
        cases ra
        obtain ⟨o, hu, ro⟩ := hR.to _ _ _ hn e
        cases ro with
        | @dct _ vs rs =>
          have hw : Wr (.dK vs) := ⟨fun _ => nofun, fun _ _ => nofun⟩
          have ee := Ext.wr (m := m) (o := .dK []) hu hw
          exact mtd_clear pins s σ H _ _ v us Q I rx rxs ⟨_, _, rfl, rfl, hu, q _ _ _ ee (hR.wr hn hu hw (.dct .nil)) .non⟩
    · cases hf
  · cases hf
theorem o_get (hu : X.A.units + 1 < cLine) : MtR X "dict.get" (rMt X.K X.mg mGet) := by
  intro pins s σ H x xs v us Q I rx rxs ⟨m, st, u, as, w, st', hR, r, ra, hf, q⟩
  unfold mGet at hf
  cases hd : dctOf st u with
  | none => rw [hd] at hf; cases hf
  | some kvs =>
    rw [hd] at hf
    obtain ⟨d, vs, rfl, hrd, rk⟩ := dctOf_ok hR r hd
    cases (show v = Value.ref d from rx)
    dsimp only at hf
    split at hf
    · rename_i k
      obtain ⟨y, rfl, ry⟩ := ra.one
      obtain ⟨u1, rfl, r1⟩ := vals1 rxs
      cases hk : toKey k with
      | none => rw [hk] at hf; cases hf
      | some kk =>
        rw [hk] at hf
        cases hf
        have ea := toKey_ok hk
        subst ea
        have ex := ry.key
        subst ex
        refine d_get1 hu I (.inl ⟨vs, kk, hrd, rfl, rfl⟩) r1 fun w' s' I' rw' => ⟨_, H, I', rw', fin hR q ?_⟩
        cases hg : getP kvs (keyP kk) with
        | none => rw [(rk.get kk).2 hg]; exact .non
        | some z => obtain ⟨zv, hz, rz⟩ := (rk.get kk).1 z hg; rw [hz]; exact rz
    · rename_i k dd
      obtain ⟨y, y2, rfl, ry, ry2⟩ := ra.two
      obtain ⟨u1, u2, rfl, r1, r2⟩ := vals2 rxs
      cases hk : toKey k with
      | none => rw [hk] at hf; cases hf
      | some kk =>
        rw [hk] at hf
        cases hf
        have ea := toKey_ok hk
        subst ea
        have ex := ry.key
        subst ex
        refine d_get2 hu I (.inl ⟨vs, kk, hrd, rfl, rfl⟩) r1 r2 fun w' s' I' rw' => ⟨_, H, I', rw', fin hR q ?_⟩
        cases hg : getP kvs (keyP kk) with
        | none => rw [(rk.get kk).2 hg]; exact ry2
        | some z => obtain ⟨zv, hz, rz⟩ := (rk.get kk).1 z hg; rw [hz]; exact rz
    · cases hf
theorem o_join : MtR X "str.join" (rMt X.K X.mg mJoin) := by
  intro pins s σ H x xs v us Q I rx rxs ⟨m, st, u, as, w, st', hR, r, ra, hf, q⟩
  unfold mJoin at hf
  split at hf
  · rename_i a y
    obtain ⟨yv, rfl, ry⟩ := ra.one
    cases hq : seqOf st y with
    | none => rw [hq] at hf; cases hf
    | some ys =>
      rw [hq] at hf
      replace hf : ((ys.mapM strOfP).bind fun zs => if (zs.map (·.length)).sum + zs.length * a.length ≤ 16777216 then some (PV.str (Txt.join a zs), st) else none) = some (w, st') := hf
      cases hz : ys.mapM strOfP with
      | none => rw [hz] at hf; cases hf
      | some zs =>
        rw [hz] at hf
        replace hf : (if (zs.map (·.length)).sum + zs.length * a.length ≤ 16777216 then some (PV.str (Txt.join a zs), st) else none) = some (w, st') := hf
        split at hf
        · cases hf; cases r
          obtain ⟨d, vs, rfl, hrd, rs⟩ := seqOf_ok hR ry hq
          rw [rs.strs hz] at hrd
          exact mt_join pins s σ H _ _ v us Q I rx rxs ⟨a, d, zs, rfl, rfl, hrd, ‹_›, fin hR q (.str _)⟩
        · cases hf
  · cases hf
theorem o_split : MtR X "str.split" (rMt X.K X.mg mSplit) := by
  intro pins s σ H x xs v us Q I rx rxs ⟨m, st, u, as, w, st', hR, r, ra, hf, q⟩
  unfold mSplit at hf
  split at hf
  · split at hf
    · cases hf; cases r
      obtain ⟨yv, rfl, ry⟩ := ra.one
      cases ry
      exact mt_split pins s σ H _ _ v us Q I rx rxs ⟨_, _, rfl, rfl, (‹_ ∧ _›).1, (‹_ ∧ _›).2, finL hR q (RVs.ofStrs _)⟩
    · cases hf
  · cases hf
end
end FS

/-! FS: reversed slices. -/
namespace FS
open PySem PySem.Spec PyProof.Rows L2

section
variable {prog : Program} {w : World} {A : Around} {E : Value → Shared → Prop} {s : Shared}
theorem adjustB (n : Nat) : Builtin.Slice.sliceAdjust none none (-1) (n : Int) = ((n : Int) - 1, -1) := rfl
theorem placesB (n : Nat) : Builtin.Slice.slicePlaces ((n : Int) - 1) (-1) (-1) = n := by
  unfold Builtin.Slice.slicePlaces
  rw [if_neg (by omega)]
  have e : (- (-1 : Int)) = 1 := rfl
  rw [e, Int.ediv_one]
  split <;> omega
theorem pickB (xs : List Value) : ((List.range xs.length).filterMap fun (k : Nat) => xs.toArray[(((xs.length : Int) - 1) + (k : Int) * (-1)).toNat]?) = xs.reverse := by
  have h : ∀ k, k ∈ List.range xs.length → xs.toArray[(((xs.length : Int) - 1) + (k : Int) * (-1)).toNat]? = xs.reverse[k]? := fun k hk => by
    have hk := List.mem_range.mp hk
    have e : (((xs.length : Int) - 1) + (k : Int) * (-1)).toNat = xs.length - 1 - k := by omega
    rw [e, List.getElem?_toArray, List.getElem?_reverse hk]
  have cong : ∀ (l : List Nat) (f g : Nat → Option Value), (∀ k, k ∈ l → f k = g k) → l.filterMap f = l.filterMap g := fun l f g hh => by
    induction l with
    | nil => rfl
    | cons x r ih => rw [List.filterMap_cons, List.filterMap_cons, hh x List.mem_cons_self, ih fun k hk => hh k (List.mem_cons_of_mem _ hk)]
  rw [cong _ _ _ h]
  have all : ∀ (ys : List Value), (List.range ys.length).filterMap (fun k => ys[k]?) = ys := fun ys => by
    induction ys with
    | nil => rfl
    | cons y ys ih =>
      rw [List.length_cons, List.range_succ_eq_map, List.filterMap_cons, List.filterMap_map]
      show y :: (List.range ys.length).filterMap (fun k => (y :: ys)[k + 1]?) = y :: ys
      congr 1
  have e := all xs.reverse
  rw [List.length_reverse] at e
  exact e
theorem sliceB {sl : Addr} {vl vu vs : Value} {n : Nat} {Q : Int × Int × Nat → Shared → Prop} (hs : s.heap.IsSliceOf sl vl vu vs) (pl : IsPart vl none) (pu : IsPart vu none) (ps : IsPart vs (some (-1)))
    (h : Q ((n : Int) - 1, -1, n) s) : wpAny (model prog w) A (Builtin.Slice.sliceApplied (.ref sl) (pure (n : Int))) Q E s := by
  obtain ⟨os, hos, hcs, hds⟩ := id hs
  unfold Builtin.Slice.sliceApplied Builtin.Slice.sliceFields
  refine wpAny_bind (wpAny_bind (wpAny_field hos hds (x := vl) rfl (wpAny_bind (wpAny_field hos hds (x := vu) rfl (wpAny_bind (wpAny_field hos hds (x := vs) rfl (wpAny_pure ?_)))))))
  refine wpAny_bind (HT.slicePart_ ps ?_)
  show wpAny _ _ (if ((-1 : Int) == 0) = true then _ else _) _ _ s
  rw [if_neg (by decide)]
  refine wpAny_bind (HT.slicePart_ pl (wpAny_bind (HT.slicePart_ pu (wpAny_bind (wpAny_pure ?_)))))
  show wpAny _ _ (match Builtin.Slice.sliceAdjust none none (-1) (n : Int) with | (lo, hi) => pure (lo, (-1 : Int), Builtin.Slice.slicePlaces lo hi (-1))) _ _ s
  rw [adjustB n]
  show wpAny _ _ (pure ((n : Int) - 1, (-1 : Int), Builtin.Slice.slicePlaces ((n : Int) - 1) (-1) (-1))) _ _ s
  rw [placesB]
  exact wpAny_pure h
theorem getItem_tup_rev {t sl : Addr} {its : List Value} {vl vu vs : Value} {Q : Value → Shared → Prop} (ht : IsTup s.heap t its.toArray) (hs : s.heap.IsSliceOf sl vl vu vs) (pl : IsPart vl none) (pu : IsPart vu none) (ps : IsPart vs (some (-1)))
    (h : Q (.ref s.heap.objs.size) { s with heap := s.heap.push { cls := .type "tuple", data := .seq its.reverse.toArray } }) (hsz : its.length ≤ sizeLine) : wpAny (model prog w) A (getItem (.ref t) (.ref sl)) Q E s := by
  have htake : sizeOk (.seq its.reverse.toArray) := by
    show its.reverse.toArray.size ≤ sizeLine
    rw [List.size_toArray, List.length_reverse]
    exact hsz
  obtain ⟨os, hos, hcs, hds⟩ := id hs
  have hTs : s.TypeIs (.ref sl) "slice" := ⟨os, hos, hcs⟩
  unfold getItem
  try with_reducible refine wpAny_holding ?_
  first | refine wpAny_bind (wpAny_pure ?_) | skip
  refine wpAny_bind (wpAny_sequenceKey ht.typeIs (by decide) ?_)
  refine wpAny_bind (wpAny_callSpecial?_slot (name := Str.ofString "__getitem__") ht.typeIs PyProof.Rows.slot_tuple_getitem
    (wpAny_call_entry PyProof.Rows.slot_tuple_getitem ht.typeIs entry_tuple_getitem ?_ (args_tuple_getitem _ _)))
  show wpAny _ _ (Builtin.Tuple.tupleItemsOf (.ref t) >>= _) _ _ s
  refine wpAny_bind (PyProof.Rows.tupleItemsOf_ ht ?_)
  refine wpAny_bind (wpAny_typeOf hTs ?_)
  rw [if_pos (by decide)]
  refine wpAny_bind (sliceB hs pl pu ps ?_)
  have hno : ¬ ((((its.toArray.size : Int) - 1) == 0 && (-1 : Int) == 1 && its.toArray.size == its.toArray.size) = true) := by
    intro q
    rw [Bool.and_eq_true, Bool.and_eq_true] at q
    exact absurd q.1.2 (by decide)
  show wpAny _ _ (if (((its.toArray.size : Int) - 1) == 0 && (-1 : Int) == 1 && its.toArray.size == its.toArray.size) = true then _ else _) _ _ s
  rw [if_neg hno, List.size_toArray, pickB]
  first
    | exact wpAny_bind (m := Builtin.Tuple.tupleExact _) (wpAny_newObj_type (wpAny_pure ⟨_, rfl, wpAny_pure h⟩) htake)
    | exact wpAny_bind (m := Builtin.Tuple.tupleExact _) (wpAny_newObj_type (wpAny_bind (wpAny_pure (wpAny_pure ⟨_, rfl, wpAny_pure h⟩))) htake)
    | exact wpAny_bind (wpAny_bind (m := Builtin.Tuple.tupleExact _) (wpAny_newObj_type (wpAny_pure (wpAny_pure ⟨_, rfl, wpAny_pure h⟩)) htake))
    | exact wpAny_bind (wpAny_bind (m := Builtin.Tuple.tupleExact _) (wpAny_newObj_type (wpAny_pure ⟨_, rfl, wpAny_pure h⟩) htake))
end
section
variable {X : Cx} {W : WX}
theorem pe_rev {e : Expr} {te : TE} {k : Nat} {p1 p2 p3 pos : Pos} (he : PE X e te) : PE X (.Subscript e (.Slice none none (some (.UnaryOp .USub (.Constant (.int 1) k p1) p2)) p3) pos)
    (fun σ H Q => te σ H fun x H1 => ∃ a xs, x = .ref a ∧ ((SqL X.K H1 a xs ∧ ∀ p, H1 p = none → Q (.ref p) (upd H1 p (.lst xs.reverse))) ∨ (SqT X.K H1 a xs ∧ ∀ p, H1 p = none → Q (.ref p) (upd H1 p (.tup xs.reverse))))) := by
  refine ⟨fun pins s σ H Q I h => ?_⟩
  refine Subscript_ (thn (he.run pins s σ H _ I h) fun v s1 ⟨x, H1, I1, r1, q1⟩ => ?_)
  obtain ⟨a, xs, ex, q⟩ := q1
  subst ex
  cases r1
  have hst : PO X (some (.UnaryOp .USub (.Constant (.int 1) k p1) p2)) (tPart (tUn (rU fun i => .int (-i)) (tC (.int 1)))) := po_some (pe_un un_neg pe_int)
  refine wpAny_Slice (thn (po_none.run pins s1 σ H1 (fun o H2 => o = none ∧ H2 = H1) I1 ⟨rfl, rfl⟩) fun vl s2 ⟨l, H2, I2, pl, el, e2⟩ => ?_)
  subst el e2
  refine thn (po_none.run pins s2 σ H2 (fun o H3 => o = none ∧ H3 = H2) I2 ⟨rfl, rfl⟩) fun vu s3 ⟨u, H3, I3, pu, eu, e3⟩ => ?_
  subst eu e3
  refine thn (hst.run pins s3 σ H3 (fun o H4 => o = some (-1) ∧ H4 = H3) I3 ⟨1, rfl, -1, rfl, rfl, rfl⟩) fun vs s4 ⟨o, H4, I4, ps, eo, e4⟩ => ?_
  subst eo e4
  have I5 : Inv X pins σ H4 { s4 with heap := s4.heap.push { cls := .type "slice", data := .fields #[vl, vu, vs] } } := I4.kept (t' := s4.toks) fun b ob q => Heap.get?_push_of_some _ q
  show wpAny (model X.prog X.w) X.A (subscriptTail e (.Slice none none (some (.UnaryOp .USub (.Constant (.int 1) k p1) p2)) p3) (.ref a) (.ref s4.heap.objs.size)) (EP X pins σ Q) X.xe { s4 with heap := s4.heap.push { cls := .type "slice", data := .fields #[vl, vu, vs] } }
  rcases q with ⟨hx, q⟩ | ⟨hx, q⟩
  · obtain ⟨its, r, ht, hz⟩ := I5.list hx
    have hlen := r.length
    refine tail_any (ops := [.ref a, .ref s4.heap.objs.size]) ht.isList.typeIs (PySem.slot_list_getitem.lookup) ?_ (by with_unfolding_all rfl)
    refine wpAny_getItem_list_slice ht.isList (Heap.IsSliceOf.new _ vl vu vs) pl pu ps (by decide) ?_ (by rw [List.size_toArray]; omega)
    rw [PySem.W.krv_pick]
    refine ⟨.ref _, _, I5.laid (t' := s4.toks) (o := .lst xs.reverse) (fun b ob q => Heap.get?_push_of_some _ q) (Nat.le_refl _) ?_, rfl, q _ (I5.hok.fresh (Nat.le_refl _))⟩
    exact ⟨by rw [List.length_reverse]; exact hz, _, 0, r.reverse, Heap.get?_push_size _ rfl⟩
  · obtain ⟨its, r, ht, hz⟩ := I5.tuple hx
    have hlen := r.length
    refine tail_any (ops := [.ref a, .ref s4.heap.objs.size]) ht.typeIs (PyProof.Rows.slot_tuple_getitem.lookup) ?_ (by with_unfolding_all rfl)
    refine getItem_tup_rev ht (Heap.IsSliceOf.new _ vl vu vs) pl pu ps ?_ (by omega)
    refine ⟨.ref _, _, I5.laid (t' := s4.toks) (o := .tup xs.reverse) (fun b ob q => Heap.get?_push_of_some _ q) (Nat.le_refl _) ?_, rfl, q _ (I5.hok.fresh (Nat.le_refl _))⟩
    exact ⟨by rw [List.length_reverse]; exact hz, _, r.reverse, IsTup.new _ _⟩
/-- xs[::-1] -/
def revF : Op1 := fun s x => match x with
  | .tup xs => some (.tup xs.reverse, s)
  | .obj n => (lstOf s (.obj n)).map fun xs => (.obj s.length, s ++ [.lst xs.reverse])
  | _ => none
theorem fe_rev {e : Expr} {g : XF} {k : Nat} {p1 p2 p3 pos : Pos} (he : FE X W e g) : FE X W (.Subscript e (.Slice none none (some (.UnaryOp .USub (.Constant (.int 1) k p1) p2)) p3) pos) (eUn revF g) := (pe_rev he).wk fun σ H Q h => by
  obtain ⟨m, ρ, st, hE, hR, hP⟩ := h
  refine ⟨m, ρ, st, hE, hR, Post.split hE hP fun m1 H1 s1 u x e1 hE1 hR1 ru hP1 => ?_⟩
  obtain ⟨w, st', hf, q⟩ := hP1.ofO
  unfold revF at hf
  split at hf
  · cases hf
    cases ru with
    | tup t rs => exact ⟨_, _, rfl, .inr ⟨t.sq, finT hR1 q rs.reverse⟩⟩
  · rename_i n
    cases hl : lstOf s1 (.obj n) with
    | none => rw [hl] at hf; cases hf
    | some ys =>
      rw [hl] at hf; cases hf
      obtain ⟨a, vs, rfl, hrd, rs⟩ := lstOf_ok hR1 ru hl
      exact ⟨a, vs, rfl, .inl ⟨hrd, finL hR1 q rs.reverse⟩⟩
  · cases hf
end
end FS

/-! FS: raising, catching. -/
namespace FS
open PySem PySem.Spec PyProof.Rows L2

section
variable {X : Cx} {pins : List (Addr × Obj)} {σ : L2.St} {H : Hp} {s : Shared}
theorem Inv.keepExc {a : Addr} {oe : Obj} {vs : Array Value} {cls : Value} {d : Option Addr} (I : Inv X pins σ H s) (ha : s.heap.get? a = some oe) (hz : Zc cls d oe) (hd : oe.data = .fields vs) (na : H a = none) (n0 : X.s_0.heap.get? a = none)
    (np : ∀ p ∈ X.pn ++ pins, p.1 ≠ a) (nL : a ≠ X.env.locals) : Inv X pins σ (upd H a (ExK cls d a)) s := by
  have neN : ∀ b o, X.s_0.heap.get? b = some o → b ≠ a := fun b o e z => by rw [z, n0] at e; cases e
  have neS : ∀ b o, H b = some o → b ≠ a := fun b o e z => by rw [z, na] at e; cases e
  have nC : ∀ x c, X.env.cells.lookup x = some c → c ≠ a := fun x c e z => by
    obtain ⟨v, o, ho, hv⟩ := I.cell x c e
    rw [z, ha] at ho; cases ho; rw [hd] at hv; cases hv
  refine ⟨I.ok, I.os, I.bare, ⟨I.base.keep, I.base.slot, fun b o e n hx => ?_, I.base.there, fun b xs e => ?_, fun b o u e => ?_, fun b ps e => ?_⟩, I.loc, I.cell, ?_, fun x c e => ?_, fun p hp => ?_, fun b o e => ?_, I.len⟩
  · rw [upd_ne (neN b o e)]; exact I.base.free b o e n hx
  · have q := I.base.tups b xs e
    rw [upd_ne (neS b _ q)]; exact q
  · have q := I.base.frzs b o u e
    rw [upd_ne (neS b _ q)]; exact q
  · obtain ⟨m, q⟩ := I.base.tbls b ps e
    exact ⟨m, by rw [upd_ne (neS b _ q)]; exact q⟩
  · rw [upd_ne (Ne.symm nL)]; exact I.free
  · rw [upd_ne (nC x c e)]; exact I.freeC x c e
  · obtain ⟨e1, e2, e3⟩ := I.pin p hp
    exact ⟨e1, by rw [upd_ne (np p hp)]; exact e2, e3⟩
  · by_cases hb : b = a
    · subst hb
      rw [upd_same] at e
      cases e
      exact ⟨⟨oe, vs, ha, hz, hd⟩, ⟨oe, ha⟩, fun h1 h2 ⟨o', v', q1, q2, q3⟩ k => ⟨o', v', k _ q1, q2, q3⟩⟩
    · rw [upd_ne hb] at e
      refine (I.hok b o e).stay (fun c u _ q => q) (fun c q => ?_) fun c xs q => ?_
      · rw [upd_ne (neS c _ q)]; exact q
      · rw [upd_ne (neS c _ q)]; exact q
end

/-- what 'except x as n: v = n' wishes of an exception of the body: slot i is n's, slot j is v's -/
def wKeep (K : PySem.W.Frag) (c : Value) (i j : Nat) (Wout : WX) (D : Ends) : WX := fun cls d σ H =>
  ∃ b, PySem.W.exmOne K cls c = some b ∧ (b = true → ∀ a, H a = none → D.nx ((((σ.set i (some (.ref a))).set j (some (.ref a))).set i none)) (upd H a (ExK cls d a))) ∧ (b = false → Wout cls d σ H)
section
variable {X : Cx} {x n v : Str} {c : Value} {i j : Nat} {body : List Stmt} {np p1 p2 p3 pos pos' : Pos} {tb : WX → TS} {Wout : WX}
theorem ps_try_keep (hs : X.stack = X.env :: X.outer) (hf : X.env.frame = some X.env.locals) (hN : X.N.Nodup) (hi : X.N[i]? = some n) (hln : X.env.kindOf n = some .local) (hj : X.N[j]? = some v) (hlv : X.env.kindOf v = some .local) (hex : X.ex = []) (hc : Names X x c) (tk : Takes X Wout)
    (hb : ∀ (W : WX) (pn : List (Addr × Obj)) (xe : Value → Shared → Prop), Takes (X.tr pn xe) W → PassesOwn (model X.prog X.w) X.A X.env xe → PSs (X.tr pn xe) body (tb W))
    (hvis : Vis X.env.scope n) (hdn : (n == ("__debug__" : Str)) = false) 
    (hsu : ∀ (a : Addr) (pn : List (Addr × Obj)), PSs (X.suite a pn) [.Assign [.Name v p1] (.Name n p2) p3] (tAsg (tVar i) (gName j))) :
    PS X (.Try body [.ExceptHandler (some (.Name x np)) (some n) [.Assign [.Name v p1] (.Name n p2) p3] pos'] [] [] pos) (fun D σ H => tb (wKeep X.K c i j Wout D) D σ H) := by
  refine ⟨fun pins s σ H D I h => ?_⟩
  have ok := I.ok
  have hfr : X.A.frames = some (X.env :: X.outer) := by rw [ok.frames, hs]
  have hloc : Loc X.env.scope n := .inl hln
  refine wpAny_Try_except ?_
  refine wpAny_mono ((hb (wKeep X.K c i j Wout D) (X.pn ++ pins) (fun e s₁ => wpAny (model X.prog X.w) X.A (noteFrame e X.env) (fun _ s₂ => wpAny (model X.prog X.w) X.A (setFlight e none) (fun _ s₃ =>
    wpAny (model X.prog X.w) X.A (handleBy e X.env [.ExceptHandler (some (.Name x np)) (some n) [.Assign [.Name v p1] (.Name n p2) p3] pos']) (SP X pins D) X.xe s₃) X.xe s₂) X.xe s₁) (fun u s' xx => ?_) PassesOwn.looking).run [] s σ H D (I.toTry _) h) (fun f s1 hsp => ?_) (fun e s1 he => he)
  · obtain ⟨a, B, sI, pins', σ', H', cls, d, rfl, J', nb, up, sky, na, os, ag, b, hb1, hyes, hno⟩ := xx
    have J : Inv X pins σ' H' sI := J'.ofTry ok
    have nB : B.get? a = none := by
      rcases sky with q | q | q
      · exact q.2.1
      · exact q.2.1
      · exact q.2.1
    have sky' : Sky B (X.env :: X.outer) a (Zc cls d) X.env.locals s'.heap := by rw [← hs]; exact sky
    show wpAny (model X.prog X.w) X.A (noteFrame (.ref a) X.env) _ _ _
    refine Sky.land Zc.steady hfr hf sky' fun h3 fl3 up3 => ?_
    have J3 : Inv X pins σ' H' { s' with heap := h3 } := J.landed nb fl3.1 (up.trans up3) os ag
    obtain ⟨oe3, vs3, he3, hz3, hd3⟩ := fl3.there
    have notFr : ∀ {h : Heap} {o : Obj} {vs : Array Value}, h.FunFrames B (X.env :: X.outer) → h.get? a = some o → o.data = .fields vs → a ∉ frs (X.env :: X.outer) := fun {h o vs} ff e dd hm => by
      obtain ⟨_, o', e', hnf⟩ := ff.mem hm
      rw [e] at e'; cases e'
      exact hnf _ dd
    have nfr := notFr fl3.2.2.1 he3 hd3
    have nL : a ≠ X.env.locals := fun z => nfr (List.mem_filterMap.mpr ⟨X.env, List.mem_cons_self, by rw [hf, z]⟩)
    have nF : a ∉ X.fs := fun hm => by
      obtain ⟨e, he, q⟩ := List.mem_filterMap.mp hm
      exact nfr (List.mem_filterMap.mpr ⟨e, List.mem_cons_of_mem _ he, q⟩)
    have nI : sI.heap.get? a = none := by
      cases e : sI.heap.get? a with
      | none => rfl
      | some o =>
        have z := nb a o e (by rw [hs]; exact nfr)
        rw [nB] at z; cases z
    have n0 : X.s_0.heap.get? a = none := by
      cases e : X.s_0.heap.get? a with
      | none => rfl
      | some o =>
        obtain ⟨o', z⟩ := J.base.there a o e (by rw [hex]; exact fun z => nomatch z)
        rw [nI] at z; cases z
    have npin : ∀ p ∈ X.pn ++ pins, p.1 ≠ a := fun p hp z => by
      obtain ⟨e, _⟩ := J.pin p hp
      rw [z, nI] at e; cases e
    have S3 := J3.suite he3 hd3 na nL nF
    refine wpAny_handleBy_cons (codeAny_handlers_test ?_) (by intro q; cases q)
    have LT : PySem.W.Looks (model X.prog X.w) h3 (typeOf (.ref a)) cls := fun A Q E s k q => wpAny_typeOf_ref (k _ _ he3) (by rw [hz3.1]; exact q)
    have LM := PySem.W.exm_one (M := model X.prog X.w) (J3.kIn) LT hb1
    have test : ∀ {Q : Value → Shared → Prop} {E : Value → Shared → Prop}, Q c { s' with heap := h3 } → wpAny (model X.prog X.w) (X.A.mark (some (.ref a))) (eval (.Name x np) X.env) Q E { s' with heap := h3 } := fun {Q E} q => by
      obtain ⟨hg, hdbg, hm | ⟨hm, hv, hnn⟩⟩ := hc
      · exact ld_glob (X := X.suite a ((a, oe3) :: (X.pn ++ pins))) S3 hg hm q hdbg
      · exact ld_blt (X := X.suite a ((a, oe3) :: (X.pn ++ pins))) S3 hg hm hv q hnn hdbg
    refine test (LM.here ?_)
    cases b with
    | true =>
      refine codeAny_handlers_suite_as ?_
      refine HandSPX.lands_againZ fl3 fun h4 fl4 up4 => ?_
      have J4 : Inv X pins σ' H' { s' with heap := h4 } := J.landed nb fl4.1 ((up.trans up3).trans up4) os ag
      obtain ⟨oe4, vs4, he4, hz4, hd4⟩ := fl4.there
      have S4 := J4.suite he4 hd4 na nL nF
      refine store_ok (X := X.suite a ((a, oe4) :: (X.pn ++ pins))) (v := .ref a) S4 hN hi hloc rfl (fun s5 S5 => ?_) (.inr hln)
      have hi' : i < σ'.length := by rw [J4.len]; exact (List.getElem?_eq_some_iff.mp hi).1
      refine wpAny_mono ((hsu a ((a, oe4) :: (X.pn ++ pins))).run [] s5 _ H' { nx := fun σ6 H6 => σ6 = ((σ'.set i (some (.ref a))).set j (some (.ref a))) ∧ H6 = H', rt := fun _ _ => False, bk := fun _ _ => False, ct := fun _ _ => False } S5
        ⟨.ref a, List.getElem?_set_self hi', rfl, rfl⟩) (fun f s6 hsp => ?_) (fun _ _ z => False.elim z)
      cases f with
      | next =>
        obtain ⟨σ6, H6, S6, e6, eH⟩ := hsp
        subst e6 eH
        have T6 : Inv X ((a, oe4) :: pins) ((σ'.set i (some (.ref a))).set j (some (.ref a))) H6 s6 := ⟨ok, S6.os, S6.bare, S6.base, S6.loc, S6.cell, S6.free, S6.freeC, fun p hp => S6.pin p (by
          rw [List.append_nil]
          rcases List.mem_append.mp hp with q | q
          · exact List.mem_cons_of_mem _ (List.mem_append_left _ q)
          · rcases List.mem_cons.mp q with q | q
            · rw [q]; exact List.mem_cons_self
            · exact List.mem_cons_of_mem _ (List.mem_append_right _ q)), S6.hok, S6.len⟩
        refine gone_ok T6 hN hi hln fun s7 J7 => ?_
        have J8 : Inv X pins ((((σ'.set i (some (.ref a))).set j (some (.ref a))).set i none)) H6 s7 := ⟨ok, J7.os, J7.bare, J7.base, J7.loc, J7.cell, J7.free, J7.freeC, fun p hp => J7.pin p (by
          rcases List.mem_append.mp hp with q | q
          · exact List.mem_append_left _ q
          · exact List.mem_append_right _ (List.mem_cons_of_mem _ q)), J7.hok, J7.len⟩
        obtain ⟨he7, hn7, _⟩ := J7.pin (a, oe4) (List.mem_append_right _ List.mem_cons_self)
        exact ⟨_, _, Inv.keepExc J8 he7 hz4 hd4 hn7 n0 npin nL, hyes rfl a na⟩
      | brk => obtain ⟨σ6, H6, S6, q6⟩ := hsp; exact q6.elim
      | cont => obtain ⟨σ6, H6, S6, q6⟩ := hsp; exact q6.elim
      | ret u => obtain ⟨v6, σ6, H6, S6, r6, q6⟩ := hsp; exact q6.elim
    | false =>
      show wpAny _ X.A (handleBy (.ref a) X.env []) _ _ _
      refine wpAny_handleBy_nil ?_
      obtain ⟨k1, k2, k3, oe, vs, T, oT, ts', he, hz, hd, h1, hr⟩ := id fl3
      unfold PySem.passOn
      refine wpAny_bind (wpAny_field he hd h1 ?_)
      rw [if_neg (show ¬ ((Value.ref T == Value.none) = true) from by simp)]
      have fin : wpAny (model X.prog X.w) X.A (setFlight (.ref a) X.env.frame) (fun _ s4 => wpAny (model X.prog X.w) X.A (throw (.ref a) : Sem Flow) (SP X pins D) X.xe s4) X.xe { s' with heap := h3 } := by
        rw [hf]
        refine HandSPX.setFlight_upZ fl3 fun h4 hh4 up4 => wpAny_throw (tk _ _ ?_)
        exact ⟨a, B, sI, pins, σ', H', cls, d, rfl, J, nb, (up.trans up3).trans up4, .inr (.inr (by rw [hs]; exact hh4)), na, os, ag, hno rfl⟩
      first
        | exact wpAny_bind (wpAny_pure (wpAny_bind fin))
        | exact wpAny_bind fin
  · cases f with
    | next =>
      obtain ⟨σ', H', J', q⟩ := hsp
      exact wpAny_execs_nil ⟨σ', H', J'.ofTry ok, q⟩
    | brk =>
      obtain ⟨σ', H', J', q⟩ := hsp
      exact ⟨σ', H', J'.ofTry ok, q⟩
    | cont =>
      obtain ⟨σ', H', J', q⟩ := hsp
      exact ⟨σ', H', J'.ofTry ok, q⟩
    | ret u =>
      obtain ⟨v, σ', H', J', r, q⟩ := hsp
      exact ⟨v, σ', H', J'.ofTry ok, r, q⟩
end

/-! ### by the layer -/
def sRaise (C : Str) : SF := fun ρ s => .exc C [] ρ s
/-- try: b / except the caught ones as i: j = i -/
def sKeep (catch_ : Str → Option Bool) (i j : Nat) (b : SF) : SF := fun ρ s => match b ρ s with
  | .exc C fs ρ' s' => match catch_ C with
    | some true => if fs = [] then .nx ((ρ'.set j (some (.obj s'.length))).set i none) (s' ++ [.exn s'.length C []]) else .bad
    | some false => .exc C fs ρ' s'
    | none => .bad
  | r => r
def Catches (K : PySem.W.Frag) (mg : Str → Option Value) (c : Value) (catch_ : Str → Option Bool) : Prop := ∀ C D b, catch_ C = some b → mg C = some (.ref D) → PySem.W.exmOne K (.ref D) c = some b
section
variable {X : Cx} {W : WX}
theorem fs_raise {C : Addr} {bmB : List Value} {B newId initId : String} {x msg : Str} {j : Nat} {p p2 pos pos' : Pos} (hc : X.calm = true) (tk : Takes X W) (F : ExcBaseFacts B newId initId bmB) (q : PySem.W.excIn X.K C bmB newId = true) (gC : X.mg x = some (.ref C)) (kC : PySem.W.keepIn X.K (.ref C) = true) (r : Raises X (.ref C)) (hg : Gl X x)
    (hdb : (x == ("__debug__" : Str)) = false := by decide) : FS1 X W (.Raise (some (.Call (.Name x p) [.Constant (.str msg) j p2] [] pos)) none pos') (sRaise x) := (ps_raise hc tk (pmk_own F q gC kC r hg hdb)).wk fun D σ H ⟨m, ρ, st, hE, hR, h⟩ =>
  h m H (.ref C) none σ (Ext.refl _ _) hE hR ⟨C, gC, rfl, .inl ⟨rfl, rfl⟩⟩
theorem fs_keep {x n v : Str} {c : Value} (i j : Nat) {body : List Stmt} {np p1 p2 p3 pos pos' : Pos} {gb : SF} {catch_ : Str → Option Bool} (cs : Catches X.K X.mg c catch_) (hs : X.stack = X.env :: X.outer) (hf : X.env.frame = some X.env.locals) (hN : X.N.Nodup) (hex : X.ex = []) (hc : Names X x c) (tk : Takes X W)
    (hb : ∀ (W' : WX) (pn : List (Addr × Obj)) (xe : Value → Shared → Prop), Takes (X.tr pn xe) W' → PassesOwn (model X.prog X.w) X.A X.env xe → FSs (X.tr pn xe) W' body gb)
    (hi : X.N[i]? = some n := by rfl) (hln : X.env.scope.names.lookup n = some .local := by rfl) (hj : X.N[j]? = some v := by rfl) (hlv : X.env.scope.names.lookup v = some .local := by rfl)
    (hdn : (n == ("__debug__" : Str)) = false := by decide) (hdc : (n == ("__classdict__" : Str)) = false := by decide)
    (hsw : ∀ a pn, swapsWith (.Name n p2) (some (.Name v p1)) p3.line (X.suite a pn).env = pure false := by intro _ _; rfl) :
    FS1 X W (.Try body [.ExceptHandler (some (.Name x np)) (some n) [.Assign [.Name v p1] (.Name n p2) p3] pos'] [] [] pos) (sKeep catch_ i j gb) := by
  refine PS.wk (ps_try_keep (tb := fun W' => liftS X.K X.mg W' gb) hs hf hN hi hln hj hlv hex hc tk hb (.inl hln) hdn fun a pn => pss_one (ps_set (X := X.suite a pn) hN hj (.inl hlv) (pe_var (X := X.suite a pn) hi (.inl hln) hdn hdc) (hsw a pn) (.inr hlv))) fun D σ H ⟨m, ρ, st, hE, hR, h⟩ => ⟨m, ρ, st, hE, hR, ?_⟩
  unfold sKeep at h
  cases hg : gb ρ st with
  | nx ρ' s' => rw [hg] at h; exact h
  | rt v' s' => rw [hg] at h; exact h
  | bk ρ' s' => rw [hg] at h; exact h
  | ct ρ' s' => rw [hg] at h; exact h
  | bad => rw [hg] at h; exact h
  | exc C fs ρ' s' =>
    rw [hg] at h
    intro m' H' cv d σ' e hE' hR' x'
    obtain ⟨cc, hC, rfl, alt⟩ := id x'
    dsimp only at h
    cases hk : catch_ C with
    | none => rw [hk] at h; exact h.elim
    | some b =>
      rw [hk] at h
      refine ⟨b, cs C cc b hk hC, fun eb a na => ?_, fun eb => ?_⟩
      · subst eb
        dsimp only at h
        split at h
        · rename_i hfs
          subst hfs
          have hd : d = none := by
            rcases alt with ⟨_, z⟩ | ⟨_, _, ne, _⟩
            · exact z
            · exact absurd rfl ne
          subst hd
          have e2 := Ext.lay (m := m') (o := ExK (.ref cc) none a) na [a]
          have hE3 : RE X.K X.mg (m' ++ [a]) (upd H' a (ExK (.ref cc) none a)) ((ρ'.set i (some (.obj s'.length))).set j (some (.obj s'.length)) |>.set i none) ((σ'.set i (some (.ref a))).set j (some (.ref a)) |>.set i none) :=
            (((hE'.mono e2).set (.obj hR'.newAt) i).set (.obj hR'.newAt) j).unset i
          have eq : ((ρ'.set i (some (PV.obj s'.length))).set j (some (.obj s'.length)) |>.set i none) = (ρ'.set j (some (.obj s'.length))).set i none := by
            by_cases hij : i = j
            · subst hij; simp
            · rw [List.set_comm _ _ hij]
              simp
          rw [eq] at hE3
          exact h _ _ _ (e.trans e2) hE3 (hR'.lay na (.exn hR'.newAt hC (.inl ⟨rfl, rfl⟩)))
        · exact h.elim
      · subst eb
        exact h m' H' _ d σ' e hE' hR' x'
end
end FS

/-! FS: the law's end. -/
namespace FS
open PySem PySem.Spec PyProof.Rows L2

/-- no list stands in the written part -/
def noList (K : PySem.W.Frag) : Bool := K.all fun p => match p.2.cls with
  | .type c => decide (c ≠ "list")
  | _ => true
theorem noList_ok : ∀ {K : PySem.W.Frag}, noList K = true → ∀ {a : Addr} {o : Obj}, K.lookup a = some o → o.cls ≠ .type "list"
  | [], _, a, o, e => nomatch (show (none : Option Obj) = some o from e)
  | (b, ob) :: r, h, a, o, e => by
    have h : ((match ob.cls with | .type c => decide (c ≠ "list") | _ => true) && noList r) = true := h
    rw [Bool.and_eq_true] at h
    have e2 : (match a == b with | true => some ob | false => List.lookup a r) = some o := e
    cases q : (a == b) with
    | true =>
      rw [q] at e2
      cases e2
      intro z
      have h1 := h.1
      rw [z] at h1
      exact absurd (of_decide_eq_true h1) (by simp)
    | false =>
      rw [q] at e2
      exact noList_ok h.2 e2
theorem law_callG {P : Program} {w : World} {K : PySem.W.Frag} {mg mb : Str → Option Value} {k : Nat} {fa a : Addr} {fd : FuncData} {x : Str} {G : GF} {s₁ : Shared} {vs : List Value} {ns : List Int}
    (KX : K.In s₁.heap) (KL : noList K = true) (hns : s₁.heap.Ns mainGlobals mg) (hb : s₁.heap.Ns builtinsNs mb) (hbb : ∀ x : Str, x ≠ "__name__" → mb x = bootBuiltins x) (hlim : s₁.heap.NoLimit) (hg : s₁.gens = #[])
    (ha : s₁.heap.get? a = some { cls := .type "list", data := .seq vs.toArray }) (hi : IntsAre vs ns) (hl : ns.length ≤ sizeLine) (hr : RoomG k callerA)
    (F : ∀ base : Heap, K.In base → base.Ns mainGlobals mg → FnG P w K mg base k fa fd [x] G) (hbind : ∀ (s : Shared) (u : Value), BindsTo s fd ⟨[u], []⟩ [(x, u)])
    (hG : ∃ st', G [.obj 0] [.frz (.lst (ns.map .int))] = .ok (.bl true) st') :
    codeAny (model P w) callerA (.call (.ref fa) ⟨[.ref a], []⟩) (fun r s' => r = .ok (.ret (.bool true)) ∧ OldK s₁.heap s'.heap ∧ s'.os = s₁.os ∧ AllBare s'.gens) s₁ := by
  have rv := vals_ints hi
  have hk : K.lookup a = none := by
    cases q : K.lookup a with
    | none => rfl
    | some o =>
      have e := KX a o q
      rw [ha] at e; cases e
      exact absurd rfl (noList_ok KL q)
  obtain ⟨Hs, eHs⟩ : ∃ H : Hp, H = fun b => if b = a then some (.frz { cls := .type "list", data := .seq vs.toArray } (.lst (ns.map V.int))) else none := ⟨_, rfl⟩
  have hA : ∀ b, b ≠ a → Hs b = none := fun b n => by rw [eHs]; exact if_neg n
  have hS : Hs a = some (.frz { cls := .type "list", data := .seq vs.toArray } (.lst (ns.map V.int))) := by rw [eHs]; exact if_pos rfl
  have hA' : ∀ b u, Hs b = some u → b = a := fun b u e => by
    by_cases z : b = a
    · exact z
    · rw [hA b z] at e; cases e
  have hok : HOk P w Hs s₁.heap := fun b u z => by
    have hb := hA' b u z
    subst hb
    rw [hS] at z
    cases z
    exact ⟨ha, by rw [List.length_map]; exact hl, vs, _, rv, ha⟩
  have base_of : ∀ {b : Addr} {o : Obj}, s₁.heap.get? b = some o → Hs b = none → (hidT s₁.heap Hs).get? b = some o := fun e n => hidT_get e n
  have noA : ∀ {b : Addr} {o : Obj} {es : Array DictEntry} {ep : Nat}, s₁.heap.get? b = some o → o.data = .dict es ep → Hs b = none := fun {b o es ep} e d => by
    refine hA b fun z => ?_
    subst z
    rw [ha] at e; cases e
    have d' : Data.seq vs.toArray _ = Data.dict es ep := d
    cases d'
  have nsK : ∀ {b : Addr} {m : Str → Option Value}, s₁.heap.Ns b m → (hidT s₁.heap Hs).Ns b m := fun {b m} ⟨o, es, ep, e, d, r⟩ => ⟨o, es, ep, base_of e (noA e d), d, r⟩
  have hKb : K.In (hidT s₁.heap Hs) := fun b o e => base_of (KX b o e) (hA b fun z => by
    subst z
    rw [hk] at e; cases e)
  have hM : Mod K mg (hidT s₁.heap Hs) := ⟨hKb, nsK hns, ⟨mb, nsK hb, hbb⟩, let ⟨mc, h1, h2⟩ := hlim; ⟨mc, nsK h1, h2⟩⟩
  have e0 : Env0 P w K mg (hidT s₁.heap Hs) callerA [] s₁ Hs := ⟨rfl, hM, fun b o e => of_hidT e, Nat.le_of_eq (hidT_size _ _), trivial, fun b hb => absurd (show b ∈ ([] : List Addr) from hb) (by simp), hok, .of_eq hg⟩
  have hR : Rep K mg [a] Hs [.frz (.lst (ns.map .int))] := ⟨by simp, rfl, fun n b o h1 h2 => by
    cases n with
    | zero =>
      simp at h1 h2
      subst h1 h2
      exact ⟨_, hS, .frz (.lst (RVs.ints ns))⟩
    | succ n => simp at h1⟩
  obtain ⟨st', eG⟩ := hG
  have sp : spG K mg G 1 [V.ref a] Hs (fun v _ => v = .bl true) fun _ _ _ => False := ⟨[a], _, [.obj 0], hR, .cons (.obj rfl) .nil, rfl, by
    rw [eG]
    intro m' H' z e hR' r
    cases r
    rfl⟩
  refine codeAny_mono ((F _ hKb (nsK hns)).run callerA [] s₁ Hs ⟨[.ref a], []⟩ [.ref a] [.ref a] _ _ hr e0 (hbind s₁ (.ref a)) (.cons rfl .nil) sp) fun r s' h => ?_
  cases r with
  | error e =>
    obtain ⟨_, _, _, _, _, _, _, _, _, _, _, _, z⟩ := h
    exact z.elim
  | ok fl =>
    cases fl with
    | next => exact False.elim h
    | brk => exact False.elim h
    | cont => exact False.elim h
    | ret u =>
      obtain ⟨v, H', os, bare, un, hok', r', q⟩ := h
      have q' : v = .bl true := q
      subst q'
      obtain rfl : u = Value.bool true := r'
      refine ⟨rfl, OldK.of_keep fun b o e => ?_, os, bare⟩
      by_cases hb : b = a
      · subst hb
        have z2 := un.frzs b _ _ hS
        obtain ⟨e2, _⟩ := hok' b _ z2
        rw [ha] at e; cases e
        exact e2
      · exact un.keep b o e (hA b hb) (by intro z; exact absurd (show b ∈ ([] : List Addr) from z) (by simp)) (by simp)
theorem walkG {l : PySem.W.OpenLaw} {n k : Nat} {q : Program} {loose : List Str} {XP : (Str → Option Value) → Heap → Prop} {YP : World → Heap → Prop} {d : DefRec} {x : Str}
    (hn : l.most = some n) (hn2 : n ≤ sizeLine) (hdf : d.params.defaults = []) (hr : RoomG k callerA)
    (F : ∀ (w : World) (mg : Str → Option Value) (fa : Addr) (h : Heap), YP w h → h.Ns mainGlobals mg → mg d.name = some (.ref fa) →
      ∃ (K : PySem.W.Frag) (fd : FuncData) (G : GF), K.In h ∧ noList K = true ∧ (∀ (s : Shared) (u : Value), BindsTo s fd ⟨[u], []⟩ [(x, u)]) ∧
        (∀ ns : List Int, ns.length ≤ n → ∃ st', G [.obj 0] [.frz (.lst (ns.map .int))] = .ok (.bl true) st') ∧
        ∀ base : Heap, K.In base → base.Ns mainGlobals mg → FnG l.prog w K mg base k fa fd [x] G) :
    PySem.W.WalkO q loose XP YP l.row.toRowW d [] (fun f vs => PySem.call f vs) := by
  refine Att.attach_call hn hdf fun w s₀ s₁ mg mb fa o pm cd doc a vs ns G Y ho hd hcd hmg hobj hints hlen hg => ?_
  obtain ⟨K, fd, GG, KX, KL, hb, hG, hF⟩ := F w mg fa _ Y G.T.g hmg
  exact law_callG KX KL G.T.g G.T.b G.T.builtins G.T.nolimit hg hobj hints (Nat.le_trans hlen hn2) hr hF hb (hG ns hlen)
/-! ### the head's Hook: facts by names, no list in the written part -/
abbrev AlN : Type := Bool × He.AlD
def obsN (n : Nat) (fa : List He.Fa) (fn : List He.DefD) (g : Addr → Option Obj) : AlN := (noList (He.frG g (He.asD g n)), He.obsDG n fa fn g)
def hookN (n : Nat) (fa : List He.Fa) (fn : List He.DefD) : PySem.W.Hook where
  α := AlN
  obs := fun s => obsN n fa fn s.heap.get?
  val := fun _ => (true, He.valD fn)
  says := fun _ h => ∃ K : PySem.W.Frag, K.In h ∧ noList K = true ∧ He.SaysD fa fn K
  of := fun _ _ e => ⟨_, He.frG_in, (Prod.mk.inj e).1, (Prod.mk.inj e).2⟩
  keeps := fun _ _ _ ⟨K, hK, c⟩ k => ⟨K, PySem.W.Frag.In.keeps hK k, c⟩
theorem obsN_eq {n : Nat} {fa : List He.Fa} {fn : List He.DefD} {g : Addr → Option Obj} {s : Shared} (h : ∀ a, g a = s.heap.get? a) : obsN n fa fn g = (hookN n fa fn).obs s := by
  have e : g = s.heap.get? := funext h
  rw [e] <;> rfl
end FS

/-! FS: what the printed texts lean on. -/
namespace FS
open PySem PySem.Spec PyProof.Rows L2

/-- a, b, c = x, y, z: the rows of a display -/
def sPar3 (i j l : Nat) (g : Env → Sto → R (List PV)) : SF := fun ρ s => (g ρ s).thenS ρ fun vs s1 => match vs with
  | [u, v, w] => .nx (((ρ.set i (some u)).set j (some v)).set l (some w)) s1
  | _ => .bad
def eDict0 : XF := fun _ s => .ok (.obj s.length) (s ++ [.dct []])
section
variable {X : Cx} {W : WX}
theorem fs_par3 (i j l : Nat) {x y z : Str} {a b c : Expr} {ga : Env → Sto → R (List PV)} {px py pz pt pos : Pos} {kt k2 pt2} (hc : X.calm = true) (hN : X.N.Nodup) (ha : FA X W [a, b, c] ga) (hi : X.N[i]? = some x := by rfl) (hj : X.N[j]? = some y := by rfl) (hl : X.N[l]? = some z := by rfl) (hij : i ≠ j := by decide) (hil : i ≠ l := by decide) (hjl : j ≠ l := by decide)
    (hx : X.env.scope.names.lookup x = some .local := by rfl) (hy : X.env.scope.names.lookup y = some .local := by rfl) (hz : X.env.scope.names.lookup z = some .local := by rfl)
    (hw : swappedStores [.Tuple [.Name x px, .Name y py, .Name z pz] kt pt] (.Tuple [a, b, c] k2 pt2) X.env = pure (some [x, y, z]) := by rfl)
    (hs : swapsWithSole [.Tuple [.Name x px, .Name y py, .Name z pz] kt pt] (.Tuple [a, b, c] k2 pt2) pos.line X.env = pure false := by rfl) :
    FS1 X W (.Assign [.Tuple [.Name x px, .Name y py, .Name z pz] kt pt] (.Tuple [a, b, c] k2 pt2) pos) (sPar3 i j l ga) := (ps_par3 hc hN hi hj hl hij hil hjl hx hy hz ha hw hs).wk fun D σ H ⟨m, ρ, st, hE, hR, h⟩ =>
  ⟨m, ρ, st, hE, hR, post_thenS (rel := relVs X.K X.mg) hE h fun m1 H1 s1 a x e1 hE1 hR1 ra hP => by
    cases ra with
    | nil => exact hP.elim
    | cons r1 t =>
      cases t with
      | nil => exact hP.elim
      | cons r2 t =>
        cases t with
        | nil => exact hP.elim
        | cons r3 t =>
          cases t with
          | nil => exact ⟨_, _, _, rfl, hP m1 H1 _ (Ext.refl _ _) (((hE1.set r1 i).set r2 j).set r3 l) hR1⟩
          | cons _ _ => exact hP.elim⟩
theorem fe_dict0 {pos : Pos} : FE X W (.Dict [] [] pos) eDict0 := pe_dnewK.wk fun σ H Q ⟨m, ρ, st, hE, hR, h⟩ p hp => by
  have e := Ext.lay (m := m) (o := .dK []) hp [p]
  exact h _ _ _ e (hR.lay hp (.dct .nil)) (.obj hR.newAt)
end
theorem fnG_ofD {P : Program} {w : World} {K : PySem.W.Frag} {mg : Str → Option Value} {base : Heap} {k j : Nat} {f : Addr} {x qual : Str} {params : Arguments} {body : List Stmt} {scope : Scope} {dvs : List V} {kws : List (Str × V)} {fd : FuncData} {N ps : List Str} {b : SF} (F : FunD K x qual params body scope dvs kws f fd) (S : FnScope N ps scope) (hN : N.length = ps.length + j)
    (hbody : ∀ (cdv : Value) (A : Around) (outer : List PySem.Env) (s : Shared) (H : Hp) (E : XK), RoomG k (A.deeper (envOfC qual scope s.heap.objs.size f cdv)) →
      FSs (cxOf (L2.CX P w) P w K mg base N qual scope f cdv A outer s H E) (fun cls d _ H => E cls d H) body b) : FnG P w K mg base (k + 1) f fd ps (fnF ps.length j b) := by
  obtain ⟨oc, od, dV, kV, doc, pm, an, cdv, ct, osl, rfl, lk, hcd, _, _⟩ := F.ex
  refine ⟨fun us s h => if_neg h, fun A outer s H args us vs Q E hr e0 hb r hsp => ?_⟩
  obtain ⟨m, sto, xs, hR, rx, hl, hP⟩ := hsp
  have hlv : vs.length = ps.length := by rw [← rx.length]; exact hl
  have KX : K.In s.heap := e0.mod.kin.keeps fun b o e => (e0.bs b o e).1
  have names : ∀ y ∈ ps.zip us, scope.names.lookup y.1 = some .local ∨ (scope.names.lookup y.1 = some .cell ∧ ((cellsFrom (s.heap.objs.size + 1) scope.names []).lookup y.1).isSome = true) := by
    rintro ⟨n, v⟩ hy
    exact (S.par n (List.of_mem_zip hy).1).imp id fun q => ⟨q, PySem.W.cellsFrom_some _ _ _ (.inl q)⟩
  refine codeAny_call_function hr.rm.depth (KX _ _ lk) rfl S.co S.gen rfl (PySem.W.codeRec_of KX hcd) (hb _ _ _ _ (wpAny_newFunctionEnv_cells S.kind names fun env he s1 y => ?_))
  subst he
  refine ⟨(e0.mod.nolimit.keeps fun b o e => (e0.bs b o e).1).keeps y.toInCall.keep, codeAny_func ?_⟩
  have body := hbody cdv A outer s H E (hr.deeper _)
  have I := inv_start (CX := L2.CX P w) (N := N) (qual := qual) (f := f) (cd := cdv) (E := E) S hr.rm.hd e0 hlv r y
  have hstart : L2.start N vs = vs.map some ++ List.replicate j none := by
    unfold L2.start
    rw [hN, hlv]
    congr 2
    omega
  rw [hstart] at I
  have hP : Post K mg (relV K mg) (fun cv d _ H => E cv d H) [] m H Q (fnF ps.length j b xs sto) := hP
  unfold fnF at hP
  rw [if_pos hl] at hP
  refine wpAny_mono (body.run [] s1 _ H { nx := fun _ H' => Q .non H', rt := Q } I ⟨m, _, sto, re_start rx, hR, ?_⟩) (fun fl s' hs => ?_) fun e s' hs => hs
  · show PostS K mg _ m H _ (b (xs.map some ++ List.replicate j none) sto)
    cases hb2 : b (xs.map some ++ List.replicate j none) sto with
    | nx ρ s2 => rw [hb2] at hP; exact fun m' H' σ' e _ hR' => hP m' H' .non e hR' .non
    | rt v s2 => rw [hb2] at hP; exact hP
    | exc C fs ρ s2 => rw [hb2] at hP; exact fun m' H' cv d σ' e _ hR' x => hP m' H' cv d e hR' x
    | bk ρ s2 => rw [hb2] at hP; exact hP.elim
    | ct ρ s2 => rw [hb2] at hP; exact hP.elim
    | bad => rw [hb2] at hP; exact hP.elim
  · cases fl with
    | ret u =>
      obtain ⟨v, σ', H', J, rv, q⟩ := hs
      exact ⟨v, H', J.os, J.bare, J.base, J.hok, rv, q⟩
    | next =>
      obtain ⟨σ', H', J, q⟩ := hs
      exact ⟨.non, H', J.os, J.bare, J.base, J.hok, rfl, q⟩
    | brk => obtain ⟨_, _, _, q⟩ := hs; exact q.elim
    | cont => obtain ⟨_, _, _, q⟩ := hs; exact q.elim

theorem b_len : bootBuiltins "len" = some (.builtin "len") := by decide +kernel
theorem b_any : bootBuiltins "any" = some (.builtin "any") := by decide +kernel
theorem b_all : bootBuiltins "all" = some (.builtin "all") := by decide +kernel
theorem b_sum : bootBuiltins "sum" = some (.builtin "sum") := by decide +kernel
theorem b_sorted : bootBuiltins "sorted" = some (.builtin "sorted") := by decide +kernel
theorem b_repr : bootBuiltins "repr" = some (.builtin "repr") := by decide +kernel
theorem b_isinstance : bootBuiltins "isinstance" = some (.builtin "isinstance") := by decide +kernel
theorem b_list : bootBuiltins "list" = some (.type "list") := by decide +kernel
theorem b_tuple : bootBuiltins "tuple" = some (.type "tuple") := by decide +kernel
theorem b_dict : bootBuiltins "dict" = some (.type "dict") := by decide +kernel
theorem b_str : bootBuiltins "str" = some (.type "str") := by decide +kernel
theorem b_int : bootBuiltins "int" = some (.type "int") := by decide +kernel
theorem b_bool : bootBuiltins "bool" = some (.type "bool") := by decide +kernel
theorem b_ValueError : bootBuiltins "ValueError" = some (.type "ValueError") := by decide +kernel
theorem roomG_caller : RoomG 60 callerA := ⟨⟨rfl, by decide, by decide⟩, rfl⟩
end FS

/-! FS: the head's facts. -/
namespace FS
open PySem PySem.Spec PyProof.Rows L2

abbrev TT := List (Tk × Tk × Bool)
def tabOf (l : TT) (t d : Tk) : Option Bool := (l.find? fun p => decide (p.1 = t ∧ p.2.1 = d)).map (·.2.2)
def catOf (l : List (Str × Bool)) (C : Str) : Option Bool := l.lookup C
def vTk (K : PySem.W.Frag) : Tk → Value
  | .bt s => .type s
  | .own C => .ref (He.ga K C)
def gloB (K : PySem.W.Frag) : Tk → Bool
  | .bt _ => true
  | .own C => (He.Fa.glo C).ok K
def excCB (K : PySem.W.Frag) (D : Addr) : Bool :=
  He.eqO (PySem.W.findIn K (.ref D) "__getattribute__") (some (some (.builtin "BaseException.__getattribute__"))) && (He.eqO (PySem.W.findIn K (.ref D) "__getattr__") (some none) &&
  (decide (PySem.W.subIn K (.ref D) (.type "BaseException") = some true) && (PySem.W.hasDictIn K D && (He.eqO (PySem.W.findIn K (.ref D) "__class__") (some (some (.builtin "object.__class__"))) &&
  (He.eqO (PySem.W.specialIn K (.builtin "object.__class__") "__get__") (some (some (.builtin "getset_descriptor.__get__"))) && (decide (PySem.W.takesIn K (.builtin "object.__class__") = some true) && decide (PySem.W.mroIn K D (.type "object") = some true)))))))
theorem excCB_ok {K : PySem.W.Frag} {D : Addr} (h : excCB K D = true) : ExcC K D := by
  obtain ⟨h1, h⟩ := He.ba h
  obtain ⟨h2, h⟩ := He.ba h
  obtain ⟨h3, h⟩ := He.ba h
  obtain ⟨h4, h⟩ := He.ba h
  obtain ⟨h5, h⟩ := He.ba h
  obtain ⟨h6, h⟩ := He.ba h
  obtain ⟨h7, h8⟩ := He.ba h
  exact ⟨He.eqO_ok h1, He.eqO_ok h2, of_decide_eq_true h3, h4, He.eqO_ok h5, He.eqO_ok h6, of_decide_eq_true h7, of_decide_eq_true h8⟩
def kitB (K : PySem.W.Frag) (l : TT) : Bool := l.all fun p => gloB K p.1 && (gloB K p.2.1 && (decide (PySem.W.kitOne K (vTk K p.1) (vTk K p.2.1) = some p.2.2) && match p.1 with
  | .own C => excCB K (He.ga K C)
  | .bt _ => true))
def catB (K : PySem.W.Frag) (R : Str) (l : List (Str × Bool)) : Bool := (He.Fa.glo R).ok K && l.all fun p => (He.Fa.glo p.1).ok K && decide (PySem.W.exmOne K (.ref (He.ga K p.1)) (.ref (He.ga K R)) = some p.2)
section
variable {K : PySem.W.Frag} {h : Heap} {mg : Str → Option Value}
theorem tkv_eq (X : K.In h) (G : h.Ns mainGlobals mg) {t : Tk} {v : Value} (g : gloB K t = true) (q : TkV mg t v) : v = vTk K t := by
  cases t with
  | bt s => exact q
  | own C =>
    obtain ⟨c, hc, rfl⟩ := q
    have e := (He.glo_ok X G (x := C) g).symm.trans hc
    injection e with e
    exact e.symm
theorem isiOk_of (X : K.In h) (G : h.Ns mainGlobals mg) {l : TT} (c : kitB K l = true) : IsiOk K mg (tabOf l) where
  kit := fun t d b tv dv ht h1 h2 => by
    unfold tabOf at ht
    cases e : l.find? (fun p => decide (p.1 = t ∧ p.2.1 = d)) with
    | none => rw [e] at ht; cases ht
    | some p =>
      rw [e] at ht
      cases ht
      have hp : p.1 = t ∧ p.2.1 = d := by simpa using List.find?_some e
      have hm := List.all_eq_true.mp c p (List.mem_of_find?_eq_some e)
      obtain ⟨g1, hm⟩ := He.ba hm
      obtain ⟨g2, hm⟩ := He.ba hm
      obtain ⟨g3, _⟩ := He.ba hm
      obtain ⟨rfl, rfl⟩ := hp
      rw [tkv_eq X G g1 h1, tkv_eq X G g2 h2]
      exact of_decide_eq_true g3
  exc := fun C d D ht hC => by
    unfold tabOf at ht
    cases e : l.find? (fun p => decide (p.1 = .own C ∧ p.2.1 = d)) with
    | none => rw [e] at ht; exact absurd rfl ht
    | some p =>
      have hp : p.1 = .own C ∧ p.2.1 = d := by simpa using List.find?_some e
      have hm := List.all_eq_true.mp c p (List.mem_of_find?_eq_some e)
      obtain ⟨g1, hm⟩ := He.ba hm
      obtain ⟨g2, hm⟩ := He.ba hm
      obtain ⟨g3, g4⟩ := He.ba hm
      obtain ⟨p1, p2⟩ := p
      obtain ⟨e1, e2⟩ := hp
      dsimp only at e1 e2
      subst e1
      have e3 := (He.glo_ok X G (x := C) g1).symm.trans hC
      injection e3 with e3
      injection e3 with e3
      rw [← e3]
      exact excCB_ok g4
theorem catches_of (X : K.In h) (G : h.Ns mainGlobals mg) {R : Str} {l : List (Str × Bool)} (c : catB K R l = true) : Catches K mg (.ref (He.ga K R)) (catOf l) := fun C D b hb hD => by
  obtain ⟨_, c⟩ := He.ba c
  have key : ∀ (l : List (Str × Bool)), l.lookup C = some b → (C, b) ∈ l := fun l e => by
    induction l with
    | nil => cases e
    | cons p r ih =>
      have e2 : (match C == p.1 with | true => some p.2 | false => r.lookup C) = some b := e
      cases q : (C == p.1) with
      | true =>
        rw [q] at e2
        cases e2
        rw [beq_iff_eq.mp q]
        exact List.mem_cons_self
      | false => rw [q] at e2; exact List.mem_cons_of_mem _ (ih e2)
  obtain ⟨g1, g2⟩ := He.ba (List.all_eq_true.mp c (C, b) (key l hb))
  have e3 := (He.glo_ok X G (x := C) g1).symm.trans hD
  injection e3 with e3
  injection e3 with e3
  rw [← e3]
  exact of_decide_eq_true g2
end
/-- an own exception's class, raised -/
structure ExcG (K : PySem.W.Frag) (mg : Str → Option Value) (x : Str) (c : Addr) : Prop where
  g : mg x = some (.ref c)
  i : PySem.W.excIn K c He.veBase "ValueError.__new__" = true
  k : PySem.W.keepIn K (.ref c) = true
  s : PySem.W.subIn K (.ref c) (.type "BaseException") = some true
  t : PySem.W.typeIn K (.ref c) = some (.type "type")
theorem excG_of {K : PySem.W.Frag} {h : Heap} {mg : Str → Option Value} (X : K.In h) (G : h.Ns mainGlobals mg) {x : Str} (c : (He.Fa.glo x).ok K = true) (e : (He.Fa.exc x).ok K = true) : ExcG K mg x (He.ga K x) := by
  obtain ⟨e1, e2, e3, e4⟩ := He.exc_ok e
  exact ⟨He.glo_ok X G c, e1, e2, e3, e4⟩
theorem fs_raiseG {X : Cx} {W : WX} {c : Addr} {x msg : Str} {j : Nat} {p p2 pos pos' : Pos} (e : ExcG X.K X.mg x c) (hc : X.calm = true) (tk : Takes X W) (hg : Gl X x) (hdb : (x == ("__debug__" : Str)) = false := by decide) :
    FS1 X W (.Raise (some (.Call (.Name x p) [.Constant (.str msg) j p2] [] pos)) none pos') (sRaise x) :=
  fs_raise hc tk PySem.F.excBase_ValueError e.i e.g e.k (fun M h X => ⟨PySem.W.looks_subIn X e.s, PySem.W.looks_typeIn X e.t⟩) hg hdb
/-! ### the Hook with what a law asks besides -/
abbrev AlX : Type := Bool × He.AlD
def obsX (n : Nat) (x : PySem.W.Frag → Bool) (fa : List He.Fa) (fn : List He.DefD) (g : Addr → Option Obj) : AlX := (noList (He.frG g (He.asD g n)) && x (He.frG g (He.asD g n)), He.obsDG n fa fn g)
def hookX (n : Nat) (x : PySem.W.Frag → Bool) (fa : List He.Fa) (fn : List He.DefD) : PySem.W.Hook where
  α := AlX
  obs := fun s => obsX n x fa fn s.heap.get?
  val := fun _ => (true, He.valD fn)
  says := fun _ h => ∃ K : PySem.W.Frag, K.In h ∧ (noList K && x K) = true ∧ He.SaysD fa fn K
  of := fun _ _ e => ⟨_, He.frG_in, (Prod.mk.inj e).1, (Prod.mk.inj e).2⟩
  keeps := fun _ _ _ ⟨K, hK, c⟩ k => ⟨K, PySem.W.Frag.In.keeps hK k, c⟩
theorem obsX_eq {n : Nat} {x : PySem.W.Frag → Bool} {fa : List He.Fa} {fn : List He.DefD} {g : Addr → Option Obj} {s : Shared} (h : ∀ a, g a = s.heap.get? a) : obsX n x fa fn g = (hookX n x fa fn).obs s := by
  have e : g = s.heap.get? := funext h
  rw [e] <;> rfl
end FS

/-! FS: plain laws of the layer: what a body surely gives. -/
namespace FS
open PySem PySem.Spec PyProof.Rows L2

@[irreducible] def okR {α : Type} (r : R α) (Q : α → Sto → Prop) : Prop := match r with
  | .ok a s => Q a s
  | _ => False
@[irreducible] def okO {α : Type} (r : O α) (Q : α → Sto → Prop) : Prop := match r with
  | some (a, s) => Q a s
  | none => False
/-- next, return, break, continue -/
@[irreducible] def okS (r : RS) (N : Env → Sto → Prop) (T : PV → Sto → Prop) (B C : Env → Sto → Prop) : Prop := match r with
  | .nx ρ s => N ρ s
  | .rt v s => T v s
  | .bk ρ s => B ρ s
  | .ct ρ s => C ρ s
  | _ => False
@[irreducible] def okC (o : Option Sto) (Q : Sto → Prop) : Prop := match o with
  | some s => Q s
  | none => False
theorem okC.get {o : Option Sto} {Q : Sto → Prop} (h : okC o Q) : ∃ s, o = some s ∧ Q s := by
  cases o with
  | some s => exact ⟨s, rfl, by with_unfolding_all exact h⟩
  | none => exact False.elim (by with_unfolding_all exact h)
section
variable {α β : Type} {Q Q' : α → Sto → Prop} {s : Sto} {ρ : Env} {N N' : Env → Sto → Prop} {T T' : PV → Sto → Prop} {B B' C C' : Env → Sto → Prop}
theorem okR.mono {r : R α} (h : okR r Q) (k : ∀ a s, Q a s → Q' a s) : okR r Q' := by
  cases r with
  | ok a s => with_unfolding_all exact k a s h
  | _ => exact False.elim (by with_unfolding_all exact h)
theorem okS.mono {r : RS} (h : okS r N T B C) (n : ∀ ρ s, N ρ s → N' ρ s) (t : ∀ v s, T v s → T' v s) (b : ∀ ρ s, B ρ s → B' ρ s) (c : ∀ ρ s, C ρ s → C' ρ s) : okS r N' T' B' C' := by
  cases r with
  | nx ρ s => with_unfolding_all exact n _ _ h
  | rt ρ s => with_unfolding_all exact t _ _ h
  | bk ρ s => with_unfolding_all exact b _ _ h
  | ct ρ s => with_unfolding_all exact c _ _ h
  | _ => exact False.elim (by with_unfolding_all exact h)
theorem okR.get {r : R α} (h : okR r Q) : ∃ a s, r = .ok a s ∧ Q a s := by
  cases r with
  | ok a s => exact ⟨a, s, rfl, by with_unfolding_all exact h⟩
  | _ => exact False.elim (by with_unfolding_all exact h)
theorem okR_ok {a : α} : okR (.ok a s) Q = Q a s := by with_unfolding_all rfl
theorem okR_bind {r : R α} {k : α → Sto → R β} {Q : β → Sto → Prop} : okR (r.bind k) Q = okR r fun a s => okR (k a s) Q := by cases r <;> with_unfolding_all rfl
theorem okR_ofO {o : O α} : okR (R.ofO o) Q = okO o Q := by cases o <;> with_unfolding_all rfl
theorem okO_some {a : α} : okO (some (a, s)) Q = Q a s := by with_unfolding_all rfl
theorem okR_ite {c : Prop} [Decidable c] {a b : R α} : okR (if c then a else b) Q = if c then okR a Q else okR b Q := by split <;> with_unfolding_all rfl
theorem okO_ite {c : Prop} [Decidable c] {a b : O α} : okO (if c then a else b) Q = if c then okO a Q else okO b Q := by split <;> with_unfolding_all rfl
theorem okS_nx : okS (.nx ρ s) N T B C = N ρ s := by with_unfolding_all rfl
theorem okS_rt {v : PV} : okS (.rt v s) N T B C = T v s := by with_unfolding_all rfl
theorem okS_bk : okS (.bk ρ s) N T B C = B ρ s := by with_unfolding_all rfl
theorem okS_ct : okS (.ct ρ s) N T B C = C ρ s := by with_unfolding_all rfl
theorem okS_bind {r : RS} {k : Env → Sto → RS} : okS (r.bind k) N T B C = okS r (fun ρ s => okS (k ρ s) N T B C) T B C := by cases r <;> with_unfolding_all rfl
theorem okS_thenS {r : R α} {k : α → Sto → RS} : okS (r.thenS ρ k) N T B C = okR r fun a s => okS (k a s) N T B C := by cases r <;> with_unfolding_all rfl
theorem okS_ite {c : Prop} [Decidable c] {a b : RS} : okS (if c then a else b) N T B C = if c then okS a N T B C else okS b N T B C := by split <;> with_unfolding_all rfl
/-! expressions -/
variable {g ga gb gc : XF} {gs : Env → Sto → R (List PV)} {t t' : Env → Sto → R Bool} {P : PV → Sto → Prop} {PL : List PV → Sto → Prop} {PB : Bool → Sto → Prop} {PO : Option Int → Sto → Prop}
theorem w_c {v : PV} : okR (eC v ρ s) P = P v s := by with_unfolding_all rfl
theorem w_bin {f : Op2} : okR (eBin f ga gb ρ s) P = okR (ga ρ s) fun x s1 => okR (gb ρ s1) fun y s2 => okO (f s2 x y) P := by
  unfold eBin; rw [okR_bind]; congr; funext x s1; rw [okR_bind]; congr; funext y s2; rw [okR_ofO]
theorem w_un {f : Op1} : okR (eUn f ga ρ s) P = okR (ga ρ s) fun x s1 => okO (f s1 x) P := by
  unfold eUn; rw [okR_bind]; congr; funext x s1; rw [okR_ofO]
theorem w_call {f : OpN} : okR (eCall f gs ρ s) P = okR (gs ρ s) fun xs s1 => okO (f s1 xs) P := by
  unfold eCall; rw [okR_bind]; congr; funext x s1; rw [okR_ofO]
theorem w_callG {G : GF} : okR (eCallG G gs ρ s) P = okR (gs ρ s) fun xs s1 => okR (G xs s1) P := by unfold eCallG; rw [okR_bind]
theorem w_nil : okR (aNil ρ s) PL = PL [] s := by with_unfolding_all rfl
theorem w_cons : okR (aCons g gs ρ s) PL = okR (g ρ s) fun x s1 => okR (gs ρ s1) fun xs s2 => PL (x :: xs) s2 := by
  unfold aCons; rw [okR_bind]; congr; funext x s1; rw [okR_bind]; congr; funext xs s2; with_unfolding_all rfl
theorem w_tOfE : okR (tOfE g ρ s) PB = okR (g ρ s) fun v s1 => match v with | .bl b => PB b s1 | _ => False := by
  unfold tOfE; rw [okR_bind]; congr; funext v s1; cases v <;> with_unfolding_all rfl
theorem w_bNot : okR (bNot t ρ s) PB = okR (t ρ s) fun b s1 => PB (!b) s1 := by unfold bNot; rw [okR_bind]; with_unfolding_all rfl
theorem w_bAnd : okR (bAnd t t' ρ s) PB = okR (t ρ s) fun b s1 => if b = true then okR (t' ρ s1) PB else PB false s1 := by
  unfold bAnd; rw [okR_bind]; congr; funext b s1; cases b <;> with_unfolding_all rfl
theorem w_bOr : okR (bOr t t' ρ s) PB = okR (t ρ s) fun b s1 => if b = true then PB true s1 else okR (t' ρ s1) PB := by
  unfold bOr; rw [okR_bind]; congr; funext b s1; cases b <;> with_unfolding_all rfl
theorem w_if : okR (eIf t ga gb ρ s) P = okR (t ρ s) fun b s1 => if b = true then okR (ga ρ s1) P else okR (gb ρ s1) P := by
  unfold eIf; rw [okR_bind]; congr; funext b s1; cases b <;> with_unfolding_all rfl
theorem w_tup : okR (eTup gs ρ s) P = okR (gs ρ s) fun xs s1 => okR (if xs.length ≤ sizeLine then R.ok (PV.tup xs) s1 else .bad) P := by unfold eTup; rw [okR_bind]
theorem w_lst : okR (eLst gs ρ s) P = okR (gs ρ s) fun xs s1 => okR (if xs.length ≤ sizeLine then R.ok (PV.obj s1.length) (s1 ++ [.lst xs]) else .bad) P := by unfold eLst; rw [okR_bind]
theorem w_dict0 : okR (eDict0 ρ s) P = P (.obj s.length) (s ++ [.dct []]) := by with_unfolding_all rfl
theorem w_oNone : okR (oNone ρ s) PO = PO none s := by with_unfolding_all rfl
theorem w_oSome : okR (oSome g ρ s) PO = okR (g ρ s) fun v s1 => match v with | .int i => PO (some i) s1 | _ => False := by
  unfold oSome; rw [okR_bind]; congr; funext v s1; cases v <;> with_unfolding_all rfl
theorem w_sl {f : Sto → PV → Option Int → Option Int → O PV} {gl gh : Env → Sto → R (Option Int)} : okR (eSl f g gl gh ρ s) P = okR (g ρ s) fun x s1 => okR (gl ρ s1) fun l s2 => okR (gh ρ s2) fun h s3 => okO (f s3 x l h) P := by
  unfold eSl; rw [okR_bind]; congr; funext x s1; rw [okR_bind]; congr; funext l s2; rw [okR_bind]; congr; funext h s3; rw [okR_ofO]
theorem w_mt {T : String} {f : OpM} : okR (eMt T f g gs ρ s) P = okR (g ρ s) fun x s1 => if isTy T s1 x = true then okR (gs ρ s1) fun xs s2 => okO (f s2 x xs) P else False := by
  unfold eMt; rw [okR_bind]; congr; funext x s1
  split
  · rw [okR_bind]; congr; funext xs s2; rw [okR_ofO]
  · with_unfolding_all rfl
/-! statements -/
variable {h k : SF}
theorem w_next : okS (sNext ρ s) N T B C = N ρ s := by with_unfolding_all rfl
theorem w_seq : okS (sSeq h k ρ s) N T B C = okS (h ρ s) (fun ρ s => okS (k ρ s) N T B C) T B C := okS_bind
theorem w_expr : okS (sExpr g ρ s) N T B C = okR (g ρ s) fun _ s1 => N ρ s1 := by with_unfolding_all exact okS_thenS
theorem w_ret : okS (sRet g ρ s) N T B C = okR (g ρ s) fun v s1 => T v s1 := by with_unfolding_all exact okS_thenS
theorem w_retN : okS (sRetN ρ s) N T B C = T .non s := by with_unfolding_all rfl
theorem w_sif : okS (sIf t h k ρ s) N T B C = okR (t ρ s) fun b s1 => if b = true then okS (h ρ s1) N T B C else okS (k ρ s1) N T B C := by
  unfold sIf; rw [okS_thenS]; congr; funext b s1; cases b <;> with_unfolding_all rfl
theorem w_set {i : Nat} : okS (sSet i g ρ s) N T B C = okR (g ρ s) fun v s1 => N (ρ.set i (some v)) s1 := by with_unfolding_all exact okS_thenS
theorem w_asg {p : Pat} : okS (sAsg p g ρ s) N T B C = okR (g ρ s) fun v s1 => match p.run v ρ with | some ρ' => N ρ' s1 | none => False := by
  unfold sAsg; rw [okS_thenS]; congr; funext v s1; cases p.run v ρ <;> with_unfolding_all rfl
theorem w_par {i j : Nat} : okS (sPar i j gs ρ s) N T B C = okR (gs ρ s) fun vs s1 => match vs with | [u, v] => N ((ρ.set i (some u)).set j (some v)) s1 | _ => False := by
  unfold sPar; rw [okS_thenS]; congr; funext v s1
  rcases v with _ | ⟨a, _ | ⟨b, _ | ⟨c, r⟩⟩⟩ <;> with_unfolding_all rfl
theorem w_par3 {i j l : Nat} : okS (sPar3 i j l gs ρ s) N T B C = okR (gs ρ s) fun vs s1 => match vs with | [u, v, w] => N (((ρ.set i (some u)).set j (some v)).set l (some w)) s1 | _ => False := by
  unfold sPar3; rw [okS_thenS]; congr; funext v s1
  rcases v with _ | ⟨a, _ | ⟨b, _ | ⟨c, _ | ⟨d, r⟩⟩⟩⟩ <;> with_unfolding_all rfl
theorem w_sub {go gi gv : XF} : okS (sSub go gi gv ρ s) N T B C = okR (gv ρ s) fun y s1 => okR (go ρ s1) fun o s2 => okR (gi ρ s2) fun i s3 => match setF s3 o i y with | some s4 => N ρ s4 | none => False := by
  unfold sSub; rw [okS_thenS]; congr; funext y s1; rw [okS_thenS]; congr; funext o s2; rw [okS_thenS]; congr; funext i s3
  cases setF s3 o i y <;> with_unfolding_all rfl
theorem w_brk : okS (sBreak ρ s) N T B C = B ρ s := by with_unfolding_all rfl
theorem w_cont : okS (sCont ρ s) N T B C = C ρ s := by with_unfolding_all rfl
theorem w_for {gi : IF} {p : Pat} {b : SF} : okS (sFor gi p b ρ s) N T B C = okR (gi ρ s) fun d s1 => okS (forL d.chk p b d.items ρ s1) N T B C := okS_thenS
theorem w_iOf {PI : ItD → Sto → Prop} : okR (iOf g ρ s) PI = okR (g ρ s) fun v s1 => okR (R.ofI (valIt s1 v) s1) PI := by unfold iOf; rw [okR_bind]
theorem w_iItems {PI : ItD → Sto → Prop} : okR (iItemsD g ρ s) PI = okR (g ρ s) fun v s1 => okR (R.ofI ((lockedOf s1 v).map fun kvs => ⟨kvs.map fun p => .tup [p.1, p.2], fun _ => true⟩) s1) PI := by unfold iItemsD; rw [okR_bind]
theorem w_iValues {PI : ItD → Sto → Prop} : okR (iValuesD g ρ s) PI = okR (g ρ s) fun v s1 => okR (R.ofI ((lockedOf s1 v).map fun kvs => ⟨kvs.map (·.2), fun _ => true⟩) s1) PI := by unfold iValuesD; rw [okR_bind]
theorem w_lc {gi : IF} {p : Pat} {tt : Env → Sto → R Bool} {te : XF} {vs : List Nat} : okR (eLc gi p tt te vs ρ s) P = okR (gi ρ s) fun d s1 => okC (compL d.chk p tt te s1.length (wipeE ρ vs) d.items (s1 ++ [.lst []])) fun s2 => P (.obj s1.length) s2 := by
  unfold eLc; rw [okR_bind]; congr; funext d s1; cases compL d.chk p tt te s1.length (wipeE ρ vs) d.items (s1 ++ [.lst []]) <;> with_unfolding_all rfl
theorem w_dc {gi : IF} {p : Pat} {tt : Env → Sto → R Bool} {tk tv : XF} {vs : List Nat} : okR (eDc gi p tt tk tv vs ρ s) P = okR (gi ρ s) fun d s1 => okC (compD d.chk p tt tk tv s1.length (wipeE ρ vs) d.items (s1 ++ [.dct []])) fun s2 => P (.obj s1.length) s2 := by
  unfold eDc; rw [okR_bind]; congr; funext d s1; cases compD d.chk p tt tk tv s1.length (wipeE ρ vs) d.items (s1 ++ [.dct []]) <;> with_unfolding_all rfl
theorem w_lc2 {gi gi1 : IF} {p p1 : Pat} {tt tt1 : Env → Sto → R Bool} {te : XF} {vs vs1 : List Nat} : okR (eLc2 gi p tt gi1 p1 tt1 te vs vs1 ρ s) P = okR (gi ρ s) fun d s1 => okC (compL2 d.chk p tt gi1 p1 tt1 te vs1 s1.length (wipeE ρ vs) d.items (s1 ++ [.lst []])) fun s2 => P (.obj s1.length) s2 := by
  unfold eLc2; rw [okR_bind]; congr; funext d s1; cases compL2 d.chk p tt gi1 p1 tt1 te vs1 s1.length (wipeE ρ vs) d.items (s1 ++ [.lst []]) <;> with_unfolding_all rfl
theorem okR_fnF {n j : Nat} {b : SF} {us : List PV} (hn : us.length = n) (h : okS (b (us.map some ++ List.replicate j none) s) (fun _ s' => P .non s') P (fun _ _ => False) (fun _ _ => False)) : okR (fnF n j b us s) P := by
  unfold fnF
  rw [if_pos hn]
  cases e : b (us.map some ++ List.replicate j none) s with
  | nx ρ s' => rw [e] at h; with_unfolding_all exact h
  | rt ρ s' => rw [e] at h; with_unfolding_all exact h
  | bk ρ s' => rw [e] at h; exact False.elim (by with_unfolding_all exact h)
  | ct ρ s' => rw [e] at h; exact False.elim (by with_unfolding_all exact h)
  | exc C fs ρ s' => rw [e] at h; exact False.elim (by with_unfolding_all exact h)
  | bad => rw [e] at h; exact False.elim (by with_unfolding_all exact h)
end

/-! ### loops -/
theorem for_ok {chk : Sto → Bool} {p : Pat} {b : SF} {N : Env → Sto → Prop} {T : PV → Sto → Prop} {B C : Env → Sto → Prop} (I : Nat → Env → Sto → Prop) : ∀ {xs : List PV} {i : Nat} {ρ : Env} {s : Sto}, I i ρ s → (∀ j ρ s, I j ρ s → chk s = true) →
    (∀ j x ρ s, xs[j]? = some x → I (i + j) ρ s → ∃ ρ1, p.run x ρ = some ρ1 ∧ okS (b ρ1 s) (I (i + j + 1)) T N (I (i + j + 1))) → (∀ ρ s, I (i + xs.length) ρ s → N ρ s) → okS (forL chk p b xs ρ s) N T B C
  | [], i, ρ, s, h0, hc, _, hd => by
    have e := hc _ _ _ h0
    unfold forL
    rw [if_pos e]
    with_unfolding_all exact hd _ _ h0
  | x :: xs, i, ρ, s, h0, hc, hs, hd => by
    have e := hc _ _ _ h0
    unfold forL
    rw [if_pos e]
    obtain ⟨ρ1, e1, q⟩ := hs 0 x ρ s rfl h0
    rw [e1]
    dsimp only
    have go : ∀ ρ2 s2, I (i + 1) ρ2 s2 → okS (forL chk p b xs ρ2 s2) N T B C := fun ρ2 s2 h2 => for_ok I h2 hc (fun j y ρ s hy hI => by
      have := hs (j + 1) y ρ s hy (by rw [show i + (j + 1) = i + 1 + j by omega]; exact hI)
      rw [show i + (j + 1) + 1 = i + 1 + j + 1 by omega] at this
      exact this) fun ρ s hI => hd ρ s (by rw [List.length_cons, show i + (xs.length + 1) = i + 1 + xs.length by omega]; exact hI)
    cases hb : b ρ1 s with
    | nx ρ2 s2 => rw [hb] at q; with_unfolding_all exact go _ _ q
    | ct ρ2 s2 => rw [hb] at q; with_unfolding_all exact go _ _ q
    | bk ρ2 s2 => rw [hb] at q; with_unfolding_all exact q
    | rt v s2 => rw [hb] at q; with_unfolding_all exact q
    | exc C fs ρ2 s2 => rw [hb] at q; exact False.elim (by with_unfolding_all exact q)
    | bad => rw [hb] at q; exact False.elim (by with_unfolding_all exact q)
theorem comp_ok {chk : Sto → Bool} {p : Pat} {tt : Env → Sto → R Bool} {te : XF} {n : Nat} {ρ : Env} {Q : Sto → Prop} (I : Nat → List PV → Sto → Prop) : ∀ {xs : List PV} {i : Nat} {acc : List PV} {s : Sto}, I i acc s → (∀ j acc s, I j acc s → chk s = true) →
    (∀ j x acc s, xs[j]? = some x → I (i + j) acc s → ∃ ρ1, p.run x ρ = some ρ1 ∧ okR (tt ρ1 s) fun b s1 => if b = true then okR (te ρ1 s1) fun y s2 => s2[n]? = some (.lst acc) ∧ acc.length < sizeLine ∧ I (i + j + 1) (acc ++ [y]) (s2.set n (.lst (acc ++ [y]))) else I (i + j + 1) acc s1) →
    (∀ acc s, I (i + xs.length) acc s → Q s) → okC (compL chk p tt te n ρ xs s) Q
  | [], i, acc, s, h0, hc, _, hd => by
    unfold compL
    rw [if_pos (hc _ _ _ h0)]
    with_unfolding_all exact hd _ _ h0
  | x :: xs, i, acc, s, h0, hc, hs, hd => by
    unfold compL
    rw [if_pos (hc _ _ _ h0)]
    obtain ⟨ρ1, e1, q⟩ := hs 0 x acc s rfl h0
    rw [e1]
    have go : ∀ acc2 s2, I (i + 1) acc2 s2 → okC (compL chk p tt te n ρ xs s2) Q := fun acc2 s2 h2 => comp_ok I h2 hc (fun j y acc s hy hI => by
      have := hs (j + 1) y acc s hy (by rw [show i + (j + 1) = i + 1 + j by omega]; exact hI)
      rw [show i + (j + 1) + 1 = i + 1 + j + 1 by omega] at this
      exact this) fun acc s hI => hd acc s (by rw [List.length_cons, show i + (xs.length + 1) = i + 1 + xs.length by omega]; exact hI)
    obtain ⟨b, s1, eb, q⟩ := q.get
    show okC (match tt ρ1 s with | .ok true s1 => _ | .ok false s1 => _ | _ => _) Q
    rw [eb]
    cases b with
    | false => with_unfolding_all exact go _ _ q
    | true =>
      obtain ⟨y, s2, ey, q1, q2, q3⟩ := okR.get (by simpa using q)
      dsimp only
      rw [ey]
      dsimp only
      rw [q1]
      dsimp only
      rw [if_pos q2]
      with_unfolding_all exact go _ _ q3
theorem compD_ok {chk : Sto → Bool} {p : Pat} {tt : Env → Sto → R Bool} {tk tv : XF} {n : Nat} {ρ : Env} {Q : Sto → Prop} (I : Nat → List (PV × PV) → Sto → Prop) : ∀ {xs : List PV} {i : Nat} {acc : List (PV × PV)} {s : Sto}, I i acc s → (∀ j acc s, I j acc s → chk s = true) →
    (∀ j x acc s, xs[j]? = some x → I (i + j) acc s → ∃ ρ1, p.run x ρ = some ρ1 ∧ okR (tt ρ1 s) fun b s1 => if b = true then okR (tk ρ1 s1) fun y s2 => okR (tv ρ1 s2) fun z s3 => ∃ k, toKey y = some k ∧ s3[n]? = some (.dct acc) ∧ acc.length < sizeLine ∧ I (i + j + 1) (putP acc (keyP k) z) (s3.set n (.dct (putP acc (keyP k) z))) else I (i + j + 1) acc s1) →
    (∀ acc s, I (i + xs.length) acc s → Q s) → okC (compD chk p tt tk tv n ρ xs s) Q
  | [], i, acc, s, h0, hc, _, hd => by
    unfold compD
    rw [if_pos (hc _ _ _ h0)]
    with_unfolding_all exact hd _ _ h0
  | x :: xs, i, acc, s, h0, hc, hs, hd => by
    unfold compD
    rw [if_pos (hc _ _ _ h0)]
    obtain ⟨ρ1, e1, q⟩ := hs 0 x acc s rfl h0
    rw [e1]
    have go : ∀ acc2 s2, I (i + 1) acc2 s2 → okC (compD chk p tt tk tv n ρ xs s2) Q := fun acc2 s2 h2 => compD_ok I h2 hc (fun j y acc s hy hI => by
      have := hs (j + 1) y acc s hy (by rw [show i + (j + 1) = i + 1 + j by omega]; exact hI)
      rw [show i + (j + 1) + 1 = i + 1 + j + 1 by omega] at this
      exact this) fun acc s hI => hd acc s (by rw [List.length_cons, show i + (xs.length + 1) = i + 1 + xs.length by omega]; exact hI)
    obtain ⟨b, s1, eb, q⟩ := q.get
    show okC (match tt ρ1 s with | .ok true s1 => _ | .ok false s1 => _ | _ => _) Q
    rw [eb]
    cases b with
    | false => with_unfolding_all exact go _ _ q
    | true =>
      obtain ⟨y, s2, ey, q⟩ := okR.get (by simpa using q)
      obtain ⟨z, s3, ez, k, q0, q1, q2, q3⟩ := q.get
      dsimp only
      rw [ey]
      dsimp only
      rw [ez]
      dsimp only
      rw [q0, q1]
      dsimp only
      rw [if_pos q2]
      with_unfolding_all exact go _ _ q3

/-! ### what stays -/
structure Fr (ps : List Nat) (s s' : Sto) : Prop where
  len : s.length ≤ s'.length
  keep : ∀ n, n < s.length → n ∉ ps → s'[n]? = s[n]?
section
variable {ps qs : List Nat} {s s1 s2 : Sto}
theorem Fr.refl (ps : List Nat) (s : Sto) : Fr ps s s := ⟨Nat.le_refl _, fun _ _ _ => rfl⟩
theorem Fr.trans (a : Fr ps s s1) (b : Fr ps s1 s2) : Fr ps s s2 := ⟨Nat.le_trans a.len b.len, fun n hn hp => (b.keep n (Nat.lt_of_lt_of_le hn a.len) hp).trans (a.keep n hn hp)⟩
theorem Fr.mono (a : Fr ps s s1) (h : ∀ n, n ∈ ps → n ∈ qs ∨ s.length ≤ n) : Fr qs s s1 := ⟨a.len, fun n hn hq => a.keep n hn fun hp => (h n hp).elim hq fun z => by omega⟩
theorem Fr.get (a : Fr ps s s1) {n : Nat} {o : SO} (h : s[n]? = some o) (hp : n ∉ ps) : s1[n]? = some o := (a.keep n (List.getElem?_eq_some_iff.mp h).1 hp).trans h
theorem Fr.push (o : SO) : Fr ps s (s ++ [o]) := ⟨by simp, fun n hn _ => List.getElem?_append_left hn⟩
theorem Fr.set {n : Nat} (o : SO) (h : n ∈ ps ∨ s.length ≤ n) : Fr ps s (s.set n o) := ⟨by simp, fun k hk hp => by
  have : n ≠ k := fun z => by subst z; rcases h with h | h; exact hp h; omega
  rw [List.getElem?_set_ne this]⟩
theorem Fr.setr {n : Nat} (a : Fr ps s s1) (o : SO) (h : n ∈ ps ∨ s.length ≤ n) : Fr ps s (s1.set n o) := ⟨by simpa using a.len, fun k hk hp => by
  have : n ≠ k := fun z => by subst z; rcases h with h | h; exact hp h; omega
  rw [List.getElem?_set_ne this]; exact a.keep k hk hp⟩
theorem Fr.pushr (a : Fr ps s s1) (o : SO) : Fr ps s (s1 ++ [o]) := ⟨by simpa using Nat.le_trans a.len (Nat.le_succ _), fun n hn hp => by rw [List.getElem?_append_left (Nat.lt_of_lt_of_le hn a.len)]; exact a.keep n hn hp⟩
theorem get_push {o : SO} : (s ++ [o])[s.length]? = some o := by simp
theorem get_lt {n : Nat} {o : SO} (h : s[n]? = some o) : n < s.length := (List.getElem?_eq_some_iff.mp h).1
theorem get_pushl {n : Nat} {o u : SO} (h : s[n]? = some o) : (s ++ [u])[n]? = some o := by rw [List.getElem?_append_left (get_lt h)]; exact h
end
end FS

/-! FS: plain laws of operators, texts. -/
namespace FS
open PySem PySem.Spec PyProof.Rows L2
section
variable {ρ : Env} {s : Sto} {P : PV → Sto → Prop}
theorem w_var {i : Nat} : okR (eVar i ρ s) P = match ρ[i]? with | some (some v) => P v s | _ => False := by
  unfold eVar; split <;> simp_all [okR]
theorem i_add {a b : Int} : okO (bAdd s (.int a) (.int b)) P = P (.int (a + b)) s := by with_unfolding_all rfl
theorem i_sub {a b : Int} : okO (bSub s (.int a) (.int b)) P = P (.int (a - b)) s := by with_unfolding_all rfl
def smallM (a b : Int) : Prop := (-(2 ^ 64) < a ∧ a < 2 ^ 64) ∨ (-(2 ^ 64) < b ∧ b < 2 ^ 64)
theorem smL {a b : Int} (h : -18446744073709551616 < a ∧ a < 18446744073709551616) : smallM a b := .inl ⟨by omega, by omega⟩
theorem smR {a b : Int} (h : -18446744073709551616 < b ∧ b < 18446744073709551616) : smallM a b := .inr ⟨by omega, by omega⟩
theorem ite_and {c p : Prop} [Decidable c] : (if c then p else False) = (c ∧ p) := by
  by_cases h : c <;> simp [h]
theorem i_mul {a b : Int} : okO (bMul s (.int a) (.int b)) P = (smallM a b ∧ P (.int (a * b)) s) := by
  show okO (if (-(2 ^ 64) < a ∧ a < 2 ^ 64) ∨ (-(2 ^ 64) < b ∧ b < 2 ^ 64) then some (PV.int (a * b), s) else none) P = _
  rw [okO_ite]; with_unfolding_all exact ite_and
theorem i_mod {a b : Int} : okO (bMod s (.int a) (.int b)) P = (0 < b ∧ P (.int (a % b)) s) := by
  show okO (if 0 < b then some (PV.int (a % b), s) else none) P = _
  rw [okO_ite]; with_unfolding_all exact ite_and
theorem i_fdiv {a b : Int} : okO (bFdiv s (.int a) (.int b)) P = ((0 < b ∧ b < 1073741824) ∧ P (.int (a / b)) s) := by
  show okO (if 0 < b ∧ b < 1073741824 then some (PV.int (a / b), s) else none) P = _
  rw [okO_ite]; with_unfolding_all exact ite_and
theorem i_pow {a b : Int} (h0 : 0 ≤ b) (h1 : b ≤ 1000000) (h2 : a.natAbs < 2 ^ 64) : okO (bPow s (.int a) (.int b)) P = P (.int (a ^ b.toNat)) s := by
  show okO (if 0 ≤ b ∧ b ≤ 1000000 ∧ a.natAbs < 2 ^ 64 then some (PV.int (a ^ b.toNat), s) else none) P = _
  rw [if_pos ⟨h0, h1, h2⟩]; with_unfolding_all rfl
theorem i_lt {a b : Int} : okO (cLt s (.int a) (.int b)) P = P (.bl (decide (a < b))) s := by with_unfolding_all rfl
theorem i_le {a b : Int} : okO (cLe s (.int a) (.int b)) P = P (.bl (decide (a ≤ b))) s := by with_unfolding_all rfl
theorem i_gt {a b : Int} : okO (cGt s (.int a) (.int b)) P = P (.bl (decide (b < a))) s := by with_unfolding_all rfl
theorem i_ge {a b : Int} : okO (cGe s (.int a) (.int b)) P = P (.bl (decide (b ≤ a))) s := by with_unfolding_all rfl
theorem i_neg {a : Int} : okO (uNeg s (.int a)) P = P (.int (-a)) s := by with_unfolding_all rfl
theorem i_eq {a b : Int} : okO (cEq s (.int a) (.int b)) P = P (.bl (a == b)) s := by with_unfolding_all rfl
theorem i_ne {a b : Int} : okO (cNe s (.int a) (.int b)) P = P (.bl (!(a == b))) s := by with_unfolding_all rfl
theorem tY {ρ : Env} {s : Sto} {PB : Bool → Sto → Prop} : okR (tYesF ρ s) PB = PB true s := by with_unfolding_all rfl
theorem r1x {g : Env → Sto → R (List PV)} {PI : ItD → Sto → Prop} : okR (iRange1 g ρ s) PI = okR (g ρ s) fun vs s1 => match vs with
    | [.int j] => (-(2 ^ 62) ≤ j ∧ j < 2 ^ 62) ∧ PI ⟨(List.range j.toNat).map fun (i : Nat) => .int (i : Int), fun _ => true⟩ s1
    | _ => False := by
  unfold iRange1; rw [okR_bind]; congr; funext vs s1
  cases vs with
  | nil => with_unfolding_all rfl
  | cons v r =>
    cases v <;> cases r <;> first
      | with_unfolding_all rfl
      | (dsimp only; rw [okR_ite]; with_unfolding_all exact ite_and)
theorem atI_nat {α : Type} {xs : List α} {i : Nat} {v : α} (h : xs[i]? = some v) : atI xs (i : Int) = some v := by
  have hl := (List.getElem?_eq_some_iff.mp h).1
  unfold atI ixN
  rw [if_pos (by omega), if_pos (by omega)]
  simpa using h
theorem atI_int {α : Type} {xs : List α} {i : Int} {v : α} (h0 : 0 ≤ i) (h : xs[i.toNat]? = some v) : atI xs i = some v := by
  have := atI_nat h
  rwa [Int.toNat_of_nonneg h0] at this
theorem ix_lst {n : Nat} {xs : List PV} {i : Int} {v : PV} (h : s[n]? = some (.lst xs)) (hi : atI xs i = some v) : okO (ixF s (.obj n) (.int i)) P = P v s := by
  simp [ixF, dctOf, seqOf, h, hi, okO]
theorem ix_lstF {n : Nat} {xs : List PV} {i : Int} {v : PV} (h : s[n]? = some (.frz (.lst xs))) (hi : atI xs i = some v) : okO (ixF s (.obj n) (.int i)) P = P v s := by
  simp [ixF, dctOf, seqOf, h, hi, okO]
theorem ix_tup {xs : List PV} {i : Int} {v : PV} (hi : atI xs i = some v) : okO (ixF s (.tup xs) (.int i)) P = P v s := by
  simp [ixF, dctOf, seqOf, hi, okO]
theorem ix_str {z : Str} {i : Int} {c : Nat} (hz : z.length ≤ sizeLine) (hi : atI z.cps.toList i = some c) : okO (ixF s (.str z) (.int i)) P = P (.str ⟨#[c]⟩) s := by
  simp [ixF, hz, hi, okO]
theorem ix_dct {n : Nat} {kvs : List (PV × PV)} {k : Key} {v : PV} (h : s[n]? = some (.dct kvs) ∨ s[n]? = some (.frz (.dct kvs))) (hi : getP kvs (keyP k) = some v) : okO (ixF s (.obj n) (keyP k)) P = P v s := by
  have hk : toKey (keyP k) = some k := by cases k <;> rfl
  rcases h with h | h <;> simp [ixF, dctOf, h, hk, hi, okO]
theorem set_lst {n : Nat} {xs : List PV} {i : Int} {j : Nat} {v : PV} (h : s[n]? = some (.lst xs)) (hj : ixN xs.length i = some j) : setF s (.obj n) (.int i) v = some (s.set n (.lst (xs.set j v))) := by
  simp [setF, h, hj]
theorem set_dct {n : Nat} {kvs : List (PV × PV)} {k : Key} {v : PV} (h : s[n]? = some (.dct kvs)) (hl : kvs.length < sizeLine) : setF s (.obj n) (keyP k) v = some (s.set n (.dct (putP kvs (keyP k) v))) := by
  have hk : toKey (keyP k) = some k := by cases k <;> rfl
  simp [setF, h, hk, hl]
theorem len_lst {n : Nat} {xs : List PV} (h : s[n]? = some (.lst xs)) : okO (lenF s [.obj n]) P = P (.int xs.length) s := by
  simp [lenF, dctOf, seqOf, h, okO]
theorem len_str {z : Str} (h : z.length ≤ sizeLine) : okO (lenF s [.str z]) P = P (.int z.length) s := by
  simp [lenF, h, okO]
theorem mt_lst {n : Nat} {xs : List PV} (h : s[n]? = some (.lst xs)) : isTy "list" s (.obj n) = true := by
  simp [isTy, h]
theorem mt_dct {n : Nat} {xs : List (PV × PV)} (h : s[n]? = some (.dct xs)) : isTy "dict" s (.obj n) = true := by
  simp [isTy, h]
theorem mt_str {z : Str} : isTy "str" s (.str z) = true := rfl
theorem app_lst {n : Nat} {xs : List PV} {y : PV} (h : s[n]? = some (.lst xs)) (hl : xs.length < sizeLine) : okO (mAppend s (.obj n) [y]) P = P .non (s.set n (.lst (xs ++ [y]))) := by
  simp [mAppend, h, hl, okO]
theorem run_nm {i : Nat} {v : PV} : (Pat.nm i).run v ρ = some (ρ.set i (some v)) := by unfold Pat.run; rfl
theorem okS_seq {h k : SF} {N M : Env → Sto → Prop} {T : PV → Sto → Prop} {B C : Env → Sto → Prop} (h1 : okS (h ρ s) M T B C) (h2 : ∀ ρ s, M ρ s → okS (k ρ s) N T B C) : okS (sSeq h k ρ s) N T B C := by
  rw [w_seq]
  exact h1.mono h2 (fun _ _ z => z) (fun _ _ z => z) fun _ _ z => z
theorem sL (n : Nat) (h : n ≤ 1000000) : n ≤ sizeLine := by rw [sizeLine_eq]; omega
end

/-! ### texts of plain signs -/
def asc (n : Nat) (x : Str) : Prop := x.length ≤ n ∧ ∀ c ∈ x.cps.toList, c < 128
theorem asc.mono {n m : Nat} {x : Str} (h : asc n x) (k : n ≤ m) : asc m x := ⟨Nat.le_trans h.1 k, h.2⟩
theorem asc_append {n m : Nat} {x y : Str} (h : asc n x) (k : asc m y) : asc (n + m) (x ++ y) := by
  refine ⟨?_, fun c hc => ?_⟩
  · rw [strLen_append]; have := h.1; have := k.1; omega
  · replace hc : c ∈ (x.cps ++ y.cps).toList := hc
    rw [Array.toList_append, List.mem_append] at hc
    exact hc.elim (h.2 c) (k.2 c)
theorem asc_char {c : Nat} (h : c < 128) : asc 1 ⟨#[c]⟩ := ⟨Nat.le_refl 1, fun d hd => by simp at hd; subst hd; exact h⟩
theorem asc_cut {n : Nat} {x : Str} (h : asc n x) (lo hi : Option Int) : asc n (cutS x lo hi) := by
  refine ⟨?_, fun c hc => ?_⟩
  · unfold cutS
    show (Array.size _) ≤ n
    rw [List.size_toArray, List.length_take, List.length_drop]
    have : x.cps.toList.length = x.length := by simp [Str.length]
    have := h.1
    omega
  · unfold cutS at hc
    simp only at hc
    exact h.2 c (List.mem_of_mem_drop (List.mem_of_mem_take hc))
theorem asc_empty : asc 0 Str.empty := ⟨Nat.le_refl 0, fun c hc => by simp [Str.empty] at hc⟩
theorem asc_mul {n : Nat} {x : Str} (h : asc n x) {k : Int} {m : Nat} (hk : k ≤ m) (hm : 1 ≤ m) : asc (m * n) (Txt.mul x k) := by
  unfold Txt.mul
  split
  · exact asc_empty.mono (Nat.zero_le _)
  · split
    · exact h.mono (Nat.le_mul_of_pos_left n hm)
    · have key : ∀ (l : List (Array Nat)) (acc : Array Nat), (∀ y ∈ l, y = x.cps) → (l.foldl (· ++ ·) acc).size = acc.size + l.length * x.cps.size ∧ ∀ c ∈ (l.foldl (· ++ ·) acc).toList, c ∈ acc.toList ∨ c ∈ x.cps.toList := by
        intro l
        induction l with
        | nil => intro acc _; exact ⟨by simp, fun c hc => .inl hc⟩
        | cons y r ih =>
          intro acc hy
          rw [hy y List.mem_cons_self]
          obtain ⟨e1, e2⟩ := ih (acc ++ x.cps) fun z hz => hy z (List.mem_cons_of_mem _ hz)
          refine ⟨?_, fun c hc => ?_⟩
          · rw [List.foldl_cons, e1, Array.size_append, List.length_cons, Nat.succ_mul]; omega
          · rw [List.foldl_cons] at hc
            rcases e2 c hc with h1 | h1
            · rw [Array.toList_append, List.mem_append] at h1
              exact h1
            · exact .inr h1
      obtain ⟨e1, e2⟩ := key (List.replicate k.toNat x.cps) #[] fun y hy => (List.mem_replicate.mp hy).2
      refine ⟨?_, fun c hc => ?_⟩
      · show Array.size _ ≤ _
        rw [e1, List.length_replicate]
        have h1 := h.1
        have h2 : k.toNat ≤ m := by omega
        show 0 + k.toNat * x.cps.size ≤ m * n
        rw [Nat.zero_add]
        exact Nat.mul_le_mul h2 h1
      · rcases e2 c hc with h1 | h1
        · simp at h1
        · exact h.2 c h1
theorem asc_join0 {n : Nat} : ∀ {xs : List Str}, (∀ x ∈ xs, asc n x) → asc (xs.length * n) (Txt.join "" xs) := by
  intro xs h
  have e : Txt.join "" xs = ⟨(xs.drop 1).foldl (fun acc p => acc ++ ("" : Str).cps ++ p.cps) (xs.headD Str.empty).cps⟩ := rfl
  rw [e]
  cases xs with
  | nil => exact asc_empty.mono (Nat.zero_le _)
  | cons x r =>
    have key : ∀ (l : List Str) (acc : Array Nat) (k : Nat), (∀ y ∈ l, asc n y) → asc k ⟨acc⟩ → asc (k + l.length * n) ⟨l.foldl (fun acc p => acc ++ ("" : Str).cps ++ p.cps) acc⟩ := by
      intro l
      induction l with
      | nil => intro acc k _ ha; simpa using ha
      | cons y r ih =>
        intro acc k hl ha
        rw [List.foldl_cons, List.length_cons, Nat.succ_mul, show k + (r.length * n + n) = (k + n) + r.length * n by omega]
        refine ih _ (k + n) (fun z hz => hl z (List.mem_cons_of_mem _ hz)) ?_
        have := asc_append ha (hl y List.mem_cons_self)
        have e2 : acc ++ ("" : Str).cps ++ y.cps = (Str.append ⟨acc⟩ y).cps := by
          have e3 : ("" : Str).cps = #[] := by decide
          rw [e3, Array.append_empty]; rfl
        rw [e2]
        exact this
    have := key r x.cps n (fun y hy => h y (List.mem_cons_of_mem _ hy)) (h x List.mem_cons_self)
    show asc ((r.length + 1) * n) ⟨List.foldl _ x.cps r⟩
    rw [Nat.succ_mul, Nat.add_comm]
    exact this
theorem asc_ok {n : Nat} {x : Str} (h : asc n x) : PyData.strOk x = true := by
  unfold PyData.strOk
  rw [Array.all_eq_true']
  intro c hc
  have := h.2 c (Array.mem_toList_iff.mpr hc)
  simp only [decide_eq_true_eq]
  omega
theorem get_int {α : Type} {xs : List α} {i : Int} {m : Nat} (h0 : 0 ≤ i) (h1 : i < m) (hm : m ≤ xs.length) : ∃ v, xs[i.toNat]? = some v ∧ v ∈ xs := by
  have hl : i.toNat < xs.length := by omega
  exact ⟨xs[i.toNat], List.getElem?_eq_getElem hl, List.getElem_mem hl⟩
end FS

namespace K61
open PySem PySem.Spec PyProof.Rows L2 FS
def tabL : FS.TT := [(.own "NoLetter", .own "Unlike", false), (.own "NoLetter", .own "NoPaper", false), (.own "NoLetter", .own "Full", false), (.own "NoLetter", .own "Held", false), (.own "NoLetter", .own "NoText", false), (.own "NoLetter", .own "NoPlace", false), (.own "NoLetter", .own "NotApart", false), (.own "NoLetter", .own "TooGreat", false), (.own "NoLetter", .own "NoName", false), (.own "NoLetter", .own "NoWord", false), (.own "NoLetter", .own "NoTable", false), (.own "NoLetter", .own "NoRow", false), (.own "NoLetter", .own "NoLetter", true), (.own "NoLetter", .bt "ValueError", true), (.bt "dict", .bt "dict", true)]
def tabI : Tk → Tk → Option Bool := tabOf tabL
def catRowError : List (Str × Bool) := [("NoLetter", true)]
/-! tabI, cat..: told by hand ahead of this -/
def G_turned : GF := fnF 1 2 (sRet (eLock (eVar 0) (eDc (iItemsD (eVar 0)) (.tp [.nm 1, .nm 2]) (tYesF) (eVar 1) (eUn revF (eVar 2)) [1, 2])))
def G_exchanged_1 : SF := sSub (eVar 3) (eVar 4) (eCall tupleF (aCons (eLc2 (iOf (eVar 5)) (.nm 6) (tYesF) (iOf (eIf (tOfE (eBin cEq (eVar 6) (eVar 1))) (eVar 2) (eTup (aCons (eVar 6) (aNil))))) (.nm 7) (tYesF) (eVar 7) [6, 7] [7]) (aNil)))
def G_exchanged : GF := fnF 3 5 (sSeq (sIf (bNot (tOfE (eCall anyF (aCons (eLock (eVar 0) (eLc2 (iValuesD (eVar 0)) (.nm 5) (tYesF) (iOf (eVar 5)) (.nm 6) (tYesF) (eBin cEq (eVar 1) (eVar 6)) [5, 6] [6])) (aNil))))) (sRaise "NoLetter") (sNext)) (sSeq (sSet 3 (eDict0)) (sSeq (sLock (eVar 0) (sFor (iItemsD (eVar 0)) (.tp [.nm 4, .nm 5]) G_exchanged_1)) (sSeq (sRet (eVar 3)) (sNext)))))
def G_only : GF := fnF 2 3 (sRet (eLock (eVar 0) (eDc (iItemsD (eVar 0)) (.tp [.nm 2, .nm 3]) (tYesF) (eVar 2) (eCall tupleF (aCons (eLc (iOf (eVar 3)) (.nm 4) (bOr (tOfE (eBin cIn (eVar 4) (eVar 0))) (tOfE (eBin cIn (eVar 4) (eVar 1)))) (eVar 4) [4]) (aNil))) [2, 3])))
def G_law_spread : GF := fnF 2 4 (sSeq (sIf (tOfE (eBin cGe (eVar 0) (eBin bPow (eC (.int 10)) (eC (.int 18))))) (sRet (eVar 0)) (sNext)) (sSeq (sSet 2 (eLst (aCons (eC (.int 2147483629)) (aCons (eC (.int 2147483587)) (aCons (eC (.int 2147483579)) (aCons (eC (.int 2147483563)) (aCons (eC (.int 2147483549)) (aCons (eC (.int 2147483543)) (aCons (eC (.int 2147483497)) (aCons (eC (.int 2147483489)) (aNil))))))))))) (sSeq (sSet 3 (eBin bMod (eBin bPow (eBin bAdd (eBin bAdd (eBin bMul (eBin bMod (eVar 0) (eC (.int 1000000007))) (eBin bAdd (eBin bMul (eC (.int 2)) (eVar 1)) (eC (.int 69069)))) (eBin bMul (eVar 1) (eC (.int 40503)))) (eC (.int 977))) (eC (.int 3))) (eBin ixF (eVar 2) (eBin bMod (eVar 1) (eC (.int 8)))))) (sSeq (sSet 4 (eBin bMod (eBin bPow (eBin bAdd (eBin bAdd (eBin bMul (eVar 3) (eBin bAdd (eVar 1) (eC (.int 3)))) (eBin bMod (eVar 0) (eC (.int 65537)))) (eC (.int 5))) (eC (.int 5))) (eBin ixF (eVar 2) (eBin bMod (eBin bAdd (eVar 1) (eC (.int 5))) (eC (.int 8)))))) (sSeq (sSet 5 (eBin bMod (eBin bPow (eBin bAdd (eBin bAdd (eVar 4) (eBin bMod (eVar 3) (eC (.int 1009)))) (eVar 1)) (eC (.int 3))) (eBin ixF (eVar 2) (eBin bMod (eBin bAdd (eVar 1) (eC (.int 7))) (eC (.int 8)))))) (sSeq (sRet (eBin bAdd (eBin bMul (eBin bAdd (eBin bMul (eVar 3) (eC (.int 2147483647))) (eVar 4)) (eC (.int 2147483647))) (eVar 5))) (sNext)))))))
def G_law_open_1 : SF := sSub (eVar 1) (eBin bMod (eVar 2) (eC (.int 12))) (eBin bAdd (eBin ixF (eVar 1) (eBin bMod (eVar 2) (eC (.int 12)))) (eVar 3))
def G_law_open : GF := fnF 1 3 (sSeq (sSet 1 (eCall listF (aCons (eSl slF (eVar 0) (oNone) (oSome (eC (.int 12)))) (aNil)))) (sSeq (sFor (iEnumL (aCons (eSl slF (eVar 0) (oSome (eC (.int 12))) (oSome (eC (.int 63)))) (aNil))) (.tp [.nm 2, .nm 3]) G_law_open_1) (sSeq (sRet (eLst (aCons (eVar 1) (aCons (eC (.int 0)) (aCons (eC (.int 0)) (aNil)))))) (sNext))))
def G_law_take : GF := fnF 2 3 (sSeq (sIf (tOfE (eBin cLt (eBin ixF (eVar 0) (eC (.int 2))) (eVar 1))) (sSeq (sSet 3 (eBin ixF (eVar 0) (eC (.int 1)))) (sSeq (sSet 4 (eC (.int 0))) (sSeq (sIf (tOfE (eBin cLt (eVar 3) (eCall lenF (aCons (eBin ixF (eVar 0) (eC (.int 0))) (aNil))))) (sSet 4 (eBin ixF (eBin ixF (eVar 0) (eC (.int 0))) (eVar 3))) (sIf (tOfE (eBin cGt (eCall lenF (aCons (eBin ixF (eVar 0) (eC (.int 0))) (aNil))) (eC (.int 0)))) (sSet 4 (eBin bMod (eBin ixF (eBin ixF (eVar 0) (eC (.int 0))) (eBin bMod (eBin bAdd (eBin bMul (eVar 3) (eC (.int 5))) (eC (.int 3))) (eCall lenF (aCons (eBin ixF (eVar 0) (eC (.int 0))) (aNil))))) (eBin bAdd (eBin bPow (eC (.int 10)) (eC (.int 17))) (eVar 3)))) (sNext))) (sSeq (sSub (eVar 0) (eC (.int 1)) (eBin bAdd (eVar 3) (eC (.int 1)))) (sSeq (sSub (eVar 0) (eC (.int 2)) (eCallG G_law_spread (aCons (eVar 4) (aCons (eVar 3) (aNil))))) (sNext)))))) (sNext)) (sSeq (sSet 2 (eBin bMod (eBin ixF (eVar 0) (eC (.int 2))) (eVar 1))) (sSeq (sSub (eVar 0) (eC (.int 2)) (eBin bFdiv (eBin ixF (eVar 0) (eC (.int 2))) (eVar 1))) (sSeq (sRet (eVar 2)) (sNext)))))
def G_law_pick : GF := fnF 2 0 (sRet (eBin ixF (eVar 1) (eCallG G_law_take (aCons (eVar 0) (aCons (eCall lenF (aCons (eVar 1) (aNil))) (aNil))))))
def G_law_some_letters : GF := fnF 2 5 (sSeq (sSet 2 (eC (.str "abcdefghijklmnopqrstuvwxyz"))) (sSeq (sSet 3 (eMt "str" mJoin (eC (.str "")) (aCons (eLc (iRange1 (aCons (eCallG G_law_take (aCons (eVar 0) (aCons (eC (.int 8)) (aNil)))) (aNil))) (.nm 6) (tYesF) (eBin ixF (eVar 2) (eCallG G_law_take (aCons (eVar 0) (aCons (eC (.int 26)) (aNil))))) [6]) (aNil)))) (sSeq (sSet 4 (eCallG G_law_take (aCons (eVar 0) (aCons (eBin bAdd (eCall lenF (aCons (eVar 3) (aNil))) (eC (.int 1))) (aNil))))) (sSeq (sSet 5 (eCallG G_law_take (aCons (eVar 0) (aCons (eC (.int 26)) (aNil))))) (sSeq (sIf (tOfE (eBin cEq (eCallG G_law_take (aCons (eVar 0) (aCons (eC (.int 3)) (aNil)))) (eC (.int 0)))) (sRet (eLc (iRange1 (aCons (eVar 1) (aNil))) (.nm 6) (tYesF) (eBin bMul (eBin ixF (eVar 2) (eBin bMod (eBin bAdd (eVar 5) (eBin bMul (eC (.int 5)) (eVar 6))) (eC (.int 26)))) (eBin bAdd (eC (.int 1)) (eBin bMod (eBin bAdd (eVar 4) (eBin bMul (eC (.int 3)) (eVar 6))) (eC (.int 8))))) [6])) (sNext)) (sSeq (sRet (eLc (iRange1 (aCons (eVar 1) (aNil))) (.nm 6) (tYesF) (eBin bAdd (eBin bAdd (eSl slF (eVar 3) (oNone) (oSome (eVar 4))) (eBin ixF (eVar 2) (eBin bMod (eBin bAdd (eVar 5) (eBin bMul (eC (.int 5)) (eVar 6))) (eC (.int 26))))) (eSl slF (eVar 3) (oSome (eVar 4)) (oNone))) [6])) (sNext)))))))
def G_law_some_names : GF := fnF 2 5 (sSeq (sSet 2 (eC (.str "ABCDEFGHIJKLMNOPQRSTUVWXYZ"))) (sSeq (sSet 3 (eMt "str" mJoin (eC (.str "")) (aCons (eLc (iRange1 (aCons (eCallG G_law_take (aCons (eVar 0) (aCons (eC (.int 8)) (aNil)))) (aNil))) (.nm 6) (tYesF) (eBin ixF (eVar 2) (eCallG G_law_take (aCons (eVar 0) (aCons (eC (.int 26)) (aNil))))) [6]) (aNil)))) (sSeq (sSet 4 (eCallG G_law_take (aCons (eVar 0) (aCons (eBin bAdd (eCall lenF (aCons (eVar 3) (aNil))) (eC (.int 1))) (aNil))))) (sSeq (sSet 5 (eCallG G_law_take (aCons (eVar 0) (aCons (eC (.int 26)) (aNil))))) (sSeq (sIf (tOfE (eBin cEq (eCallG G_law_take (aCons (eVar 0) (aCons (eC (.int 3)) (aNil)))) (eC (.int 0)))) (sRet (eLc (iRange1 (aCons (eVar 1) (aNil))) (.nm 6) (tYesF) (eBin bMul (eBin ixF (eVar 2) (eBin bMod (eBin bAdd (eVar 5) (eBin bMul (eC (.int 7)) (eVar 6))) (eC (.int 26)))) (eBin bAdd (eC (.int 1)) (eBin bMod (eBin bAdd (eVar 4) (eBin bMul (eC (.int 3)) (eVar 6))) (eC (.int 8))))) [6])) (sNext)) (sSeq (sRet (eLc (iRange1 (aCons (eVar 1) (aNil))) (.nm 6) (tYesF) (eBin bAdd (eBin bAdd (eSl slF (eVar 3) (oNone) (oSome (eVar 4))) (eBin ixF (eVar 2) (eBin bMod (eBin bAdd (eVar 5) (eBin bMul (eC (.int 7)) (eVar 6))) (eC (.int 26))))) (eSl slF (eVar 3) (oSome (eVar 4)) (oNone))) [6])) (sNext)))))))
def G_law_drawn_words_1 : SF := sExpr (eMt "list" mAppend (eVar 7) (aCons (eCallG G_law_pick (aCons (eVar 0) (aCons (eIf (tOfE (eBin cLt (eCallG G_law_take (aCons (eVar 0) (aCons (eC (.int 4)) (aNil)))) (eVar 6))) (eVar 1) (eVar 2)) (aNil)))) (aNil)))
def G_law_drawn_words_2 : SF := sSeq (sSet 6 (eBin bAdd (eC (.int 1)) (eCallG G_law_take (aCons (eVar 0) (aCons (eC (.int 3)) (aNil)))))) (sSeq (sSet 7 (eLst (aNil))) (sSeq (sFor (iRange1 (aCons (eCallG G_law_take (aCons (eVar 0) (aCons (eBin bAdd (eVar 3) (eC (.int 1))) (aNil)))) (aNil))) (.nm 8) G_law_drawn_words_1) (sSeq (sSub (eVar 4) (eVar 5) (eCall tupleF (aCons (eVar 7) (aNil)))) (sNext))))
def G_law_drawn_words : GF := fnF 4 5 (sSeq (sSet 4 (eDict0)) (sSeq (sFor (iOf (eVar 1)) (.nm 5) G_law_drawn_words_2) (sSeq (sRet (eVar 4)) (sNext))))
def G_law_same : GF := fnF 2 0 (sRet (eBin cEq (eCall reprF (aCons (eVar 0) (aNil))) (eCall reprF (aCons (eVar 1) (aNil)))))
def G_law_swap_in_1 : SF := sSet 3 (eBin bAdd (eVar 3) (eIf (tOfE (eBin cEq (eVar 4) (eVar 1))) (eVar 2) (eTup (aCons (eVar 4) (aNil)))))
def G_law_swap_in : GF := fnF 3 2 (sSeq (sSet 3 (eTup (aNil))) (sSeq (sFor (iOf (eVar 0)) (.nm 4) G_law_swap_in_1) (sSeq (sRet (eVar 3)) (sNext))))
def G_law_told_1 : SF := sSet 4 (eCallG G_exchanged (aCons (eVar 0) (aCons (eVar 1) (aCons (eVar 2) (aNil)))))
def G_law_told : GF := fnF 3 4 (sSeq (sSet 3 (eC .non)) (sSeq (sSet 4 (eC .non)) (sSeq (sKeep (catOf catRowError) 5 3 G_law_told_1) (sSeq (sIf (tOfE (eBin cIs (eVar 3) (eC .non))) (sRet (eVar 4)) (sNext)) (sSeq (sSet 6 (eLst (aCons (eCall (isiF tabI) (aCons (eVar 3) (aCons (eC (.glo "Unlike")) (aNil)))) (aCons (eCall (isiF tabI) (aCons (eVar 3) (aCons (eC (.glo "NoPaper")) (aNil)))) (aCons (eCall (isiF tabI) (aCons (eVar 3) (aCons (eC (.glo "Full")) (aNil)))) (aNil)))))) (sSeq (sSet 6 (eBin bAdd (eVar 6) (eLst (aCons (eCall (isiF tabI) (aCons (eVar 3) (aCons (eC (.glo "Held")) (aNil)))) (aCons (eCall (isiF tabI) (aCons (eVar 3) (aCons (eC (.glo "NoText")) (aNil)))) (aCons (eCall (isiF tabI) (aCons (eVar 3) (aCons (eC (.glo "NoPlace")) (aNil)))) (aNil))))))) (sSeq (sSet 6 (eBin bAdd (eVar 6) (eLst (aCons (eCall (isiF tabI) (aCons (eVar 3) (aCons (eC (.glo "NotApart")) (aNil)))) (aCons (eCall (isiF tabI) (aCons (eVar 3) (aCons (eC (.glo "TooGreat")) (aNil)))) (aCons (eCall (isiF tabI) (aCons (eVar 3) (aCons (eC (.glo "NoName")) (aNil)))) (aNil))))))) (sSeq (sSet 6 (eBin bAdd (eVar 6) (eLst (aCons (eCall (isiF tabI) (aCons (eVar 3) (aCons (eC (.glo "NoWord")) (aNil)))) (aCons (eCall (isiF tabI) (aCons (eVar 3) (aCons (eC (.glo "NoTable")) (aNil)))) (aCons (eCall (isiF tabI) (aCons (eVar 3) (aCons (eC (.glo "NoRow")) (aNil)))) (aNil))))))) (sSeq (sIf (bOr (tOfE (eBin cIn (eC (.bl true)) (eVar 6))) (bOr (bNot (tOfE (eCall (isiF tabI) (aCons (eVar 3) (aCons (eC (.glo "NoLetter")) (aNil)))))) (bNot (tOfE (eCall (isiF tabI) (aCons (eVar 3) (aCons (eC (.ty "ValueError")) (aNil)))))))) (sRet (eC (.str "odd"))) (sNext)) (sSeq (sRet (eC (.str "letter"))) (sNext)))))))))))
def G_law_alike : GF := fnF 2 1 (sSeq (sIf (bOr (bNot (tOfE (eCall (isiF tabI) (aCons (eVar 0) (aCons (eC (.ty "dict")) (aNil)))))) (tOfE (eBin cNe (eCall sortedF (aCons (eCall listF (aCons (eVar 0) (aNil))) (aNil))) (eCall sortedF (aCons (eCall listF (aCons (eVar 1) (aNil))) (aNil)))))) (sRet (eC (.bl false))) (sNext)) (sSeq (sRet (eBin cEq (eLock (eVar 1) (eLc (iOf (eVar 1)) (.nm 2) (bNot (tOfE (eCallG G_law_same (aCons (eBin ixF (eVar 0) (eVar 2)) (aCons (eBin ixF (eVar 1) (eVar 2)) (aNil)))))) (eVar 2) [2])) (eLst (aNil)))) (sNext)))
def G_law_1 : SF := sSeq (sSub (eVar 13) (eVar 10) (eUn revF (eBin ixF (eVar 5) (eVar 10)))) (sSeq (sSub (eVar 14) (eVar 10) (eCallG G_law_swap_in (aCons (eBin ixF (eVar 5) (eVar 10)) (aCons (eVar 7) (aCons (eVar 8) (aNil)))))) (sSeq (sSub (eVar 15) (eVar 10) (eCall tupleF (aCons (eLc (iOf (eBin ixF (eVar 5) (eVar 10))) (.nm 21) (bOr (tOfE (eBin cIn (eVar 21) (eVar 5))) (tOfE (eBin cIn (eVar 21) (eVar 9)))) (eVar 21) [21]) (aNil)))) (sNext)))
def G_law_2 : SF := sSeq (sPar3 17 18 19 (aCons (eCallG G_turned (aCons (eVar 6) (aNil))) (aCons (eCallG G_law_told (aCons (eVar 6) (aCons (eVar 7) (aCons (eVar 8) (aNil))))) (aCons (eCallG G_only (aCons (eVar 6) (aCons (eCall tupleF (aCons (eVar 9) (aNil))) (aNil)))) (aNil))))) (sSeq (sIf (bOr (bNot (tOfE (eCallG G_law_alike (aCons (eVar 17) (aCons (eVar 13) (aNil)))))) (bNot (tOfE (eCallG G_law_alike (aCons (eVar 19) (aCons (eVar 15) (aNil))))))) (sRet (eC (.bl false))) (sNext)) (sSeq (sIf (bOr (bAnd (tOfE (eVar 11)) (bNot (tOfE (eCallG G_law_alike (aCons (eVar 18) (aCons (eVar 14) (aNil))))))) (bAnd (bNot (tOfE (eVar 11))) (tOfE (eBin cNe (eVar 18) (eC (.str "letter")))))) (sRet (eC (.bl false))) (sNext)) (sSeq (sIf (bNot (tOfE (eCallG G_law_alike (aCons (eVar 6) (aCons (eVar 5) (aNil)))))) (sRet (eC (.bl false))) (sNext)) (sSeq (sExpr (eMt "dict" mDClear (eVar 17) aNil)) (sSeq (sExpr (eMt "dict" mDClear (eVar 19) aNil)) (sSeq (sIf (tOfE (eVar 11)) (sExpr (eMt "dict" mDClear (eVar 18) aNil)) (sNext)) (sNext)))))))
def G_law_3 : SF := sSeq (sSet 3 (eCallG G_law_some_letters (aCons (eVar 1) (aCons (eC (.int 8)) (aNil))))) (sSeq (sSet 4 (eCallG G_law_some_names (aCons (eVar 1) (aCons (eBin bAdd (eC (.int 1)) (eCallG G_law_take (aCons (eVar 1) (aCons (eC (.int 8)) (aNil))))) (aNil))))) (sSeq (sSet 5 (eCallG G_law_drawn_words (aCons (eVar 1) (aCons (eVar 4) (aCons (eSl slF (eVar 3) (oNone) (oSome (eC (.int 5)))) (aCons (eC (.int 6)) (aNil))))))) (sSeq (sSet 6 (eCall dictF (aCons (eVar 5) (aNil)))) (sSeq (sPar3 13 14 15 (aCons (eDict0) (aCons (eDict0) (aCons (eDict0) (aNil))))) (sSeq (sSet 7 (eCallG G_law_pick (aCons (eVar 1) (aCons (eSl slF (eVar 3) (oNone) (oSome (eC (.int 6)))) (aNil))))) (sSeq (sSet 8 (eCall tupleF (aCons (eLc (iRange1 (aCons (eCallG G_law_take (aCons (eVar 1) (aCons (eC (.int 7)) (aNil)))) (aNil))) (.nm 20) (tYesF) (eCallG G_law_pick (aCons (eVar 1) (aCons (eVar 3) (aNil)))) [20]) (aNil)))) (sSeq (sSet 9 (eLc (iOf (eVar 3)) (.nm 16) (tOfE (eBin cEq (eCallG G_law_take (aCons (eVar 1) (aCons (eC (.int 2)) (aNil)))) (eC (.int 0)))) (eVar 16) [16])) (sSeq (sLock (eVar 5) (sFor (iOf (eVar 5)) (.nm 10) G_law_1)) (sSeq (sSet 11 (eBin cNe (eLock (eVar 5) (eLc (iOf (eVar 5)) (.nm 10) (tOfE (eBin cIn (eVar 7) (eBin ixF (eVar 5) (eVar 10)))) (eVar 10) [10])) (eLst (aNil)))) (sSeq (sFor (iRange1 (aCons (eC (.int 2)) (aNil))) (.nm 12) G_law_2) (sNext)))))))))))
def G_law : GF := fnF 1 21 (sSeq (sSet 1 (eCallG G_law_open (aCons (eVar 0) (aNil)))) (sSeq (sFor (iRange1 (aCons (eC (.int 6)) (aNil))) (.nm 2) G_law_3) (sSeq (sRet (eC (.bl true))) (sNext))))
end K61

namespace K61
open PySem PySem.Spec PyProof.Rows L2 FS


/-! ### the pen -/
def Pen (s : Sto) (p c k : Nat) : Prop := ∃ (cells : List Int) (a v : Int), s[p]? = some (.lst [.obj c, .int a, .int v]) ∧ s[c]? = some (.lst (cells.map .int)) ∧ c ≠ p ∧ 0 ≤ a ∧ a ≤ k ∧ 0 ≤ v
theorem Pen.mono {s : Sto} {p c k j : Nat} (h : Pen s p c k) (q : k ≤ j) : Pen s p c j := by
  obtain ⟨l, a, v, h1, h2, h3, h4, h5, h6⟩ := h
  exact ⟨l, a, v, h1, h2, h3, h4, by omega, h6⟩
theorem Pen.fr {s s' : Sto} {p c k : Nat} {ps : List Nat} (h : Pen s p c k) (f : Fr ps s s') (hp : p ∉ ps) (hc : c ∉ ps) : Pen s' p c k := by
  obtain ⟨l, a, v, h1, h2, h3⟩ := h
  exact ⟨l, a, v, f.get h1 hp, f.get h2 hc, h3⟩
theorem Pen.lt {s : Sto} {p c k : Nat} (h : Pen s p c k) : p < s.length ∧ c < s.length := by
  obtain ⟨l, a, v, h1, h2, h3⟩ := h
  exact ⟨get_lt h1, get_lt h2⟩
theorem em0 (a : Int) {b : Int} (h : 0 < b) : 0 ≤ a % b := Int.emod_nonneg a (by omega)
theorem eml (a : Int) {b : Int} (h : 0 < b) : a % b < b := Int.emod_lt_of_pos a h
theorem spread_ok {s : Sto} {cell a : Int} {Q : PV → Sto → Prop} (ha : 0 ≤ a) (hb : a ≤ 1000000) (hQ : ∀ r s', 0 ≤ r → Fr [] s s' → Q (.int r) s') : okR (G_law_spread [.int cell, .int a] s) Q := by
  refine okR_fnF rfl ?_
  show okS ((_ : SF) [some (.int cell), some (.int a), none, none, none, none] s) _ _ _ _
  refine okS_seq (M := fun ρ1 s1 => ρ1 = [some (.int cell), some (.int a), none, none, none, none] ∧ s1 = s) ?_ ?_
  · simp only [FS.w_c, FS.w_bin, FS.w_un, FS.w_call, FS.w_callG, FS.w_nil, FS.w_cons, FS.w_tOfE, FS.w_bNot, FS.w_bAnd, FS.w_bOr, FS.w_if, FS.w_tup, FS.w_lst, FS.w_dict0, FS.w_oNone, FS.w_oSome, FS.w_sl, FS.w_mt, FS.w_next, FS.w_seq, FS.w_expr, FS.w_ret, FS.w_retN, FS.w_sif, FS.w_set, FS.w_asg, FS.w_par, FS.w_par3, FS.w_sub, FS.w_brk, FS.w_cont, FS.w_for, FS.w_iOf, FS.w_iItems, FS.w_iValues, FS.w_lc, FS.w_dc, FS.w_lc2, FS.w_var, FS.okR_ok, FS.okO_some, FS.okR_ite, FS.okO_ite, List.getElem?_cons_zero, List.getElem?_cons_succ, List.set_cons_zero, List.set_cons_succ, FS.i_add, FS.i_sub, FS.i_mul, FS.i_mod, FS.i_fdiv, FS.i_lt, FS.i_le, FS.i_gt, FS.i_ge, FS.i_neg, decide_eq_true_eq, if_true, if_false, Bool.false_eq_true, Int.reduceLT, Int.reduceLE, Int.reduceNeg, Int.reducePow, reduceIte, and_self, true_or, or_true, true_and, and_true, FS.tY, FS.r1x]
    rw [i_pow (by decide) (by decide) (by decide)]
    simp only [FS.w_c, FS.w_bin, FS.w_un, FS.w_call, FS.w_callG, FS.w_nil, FS.w_cons, FS.w_tOfE, FS.w_bNot, FS.w_bAnd, FS.w_bOr, FS.w_if, FS.w_tup, FS.w_lst, FS.w_dict0, FS.w_oNone, FS.w_oSome, FS.w_sl, FS.w_mt, FS.w_next, FS.w_seq, FS.w_expr, FS.w_ret, FS.w_retN, FS.w_sif, FS.w_set, FS.w_asg, FS.w_par, FS.w_par3, FS.w_sub, FS.w_brk, FS.w_cont, FS.w_for, FS.w_iOf, FS.w_iItems, FS.w_iValues, FS.w_lc, FS.w_dc, FS.w_lc2, FS.w_var, FS.okR_ok, FS.okO_some, FS.okR_ite, FS.okO_ite, List.getElem?_cons_zero, List.getElem?_cons_succ, List.set_cons_zero, List.set_cons_succ, FS.i_add, FS.i_sub, FS.i_mul, FS.i_mod, FS.i_fdiv, FS.i_lt, FS.i_le, FS.i_gt, FS.i_ge, FS.i_neg, decide_eq_true_eq, if_true, if_false, Bool.false_eq_true, Int.reduceLT, Int.reduceLE, Int.reduceNeg, Int.reducePow, reduceIte, and_self, true_or, or_true, true_and, and_true, FS.tY, FS.r1x]
    split
    · rename_i h
      refine hQ cell s ?_ (Fr.refl _ _)
      have : (10 : Int) ^ (18 : Int).toNat = 1000000000000000000 := by decide
      omega
    · trivial
  · rintro ρ1 s1 ⟨rfl, rfl⟩
    have hz : ([PV.int 2147483629, .int 2147483587, .int 2147483579, .int 2147483563, .int 2147483549, .int 2147483543, .int 2147483497, .int 2147483489] : List PV).length ≤ sizeLine := by rw [sizeLine_eq]; simp
    simp only [FS.w_c, FS.w_bin, FS.w_un, FS.w_call, FS.w_callG, FS.w_nil, FS.w_cons, FS.w_tOfE, FS.w_bNot, FS.w_bAnd, FS.w_bOr, FS.w_if, FS.w_tup, FS.w_lst, FS.w_dict0, FS.w_oNone, FS.w_oSome, FS.w_sl, FS.w_mt, FS.w_next, FS.w_seq, FS.w_expr, FS.w_ret, FS.w_retN, FS.w_sif, FS.w_set, FS.w_asg, FS.w_par, FS.w_par3, FS.w_sub, FS.w_brk, FS.w_cont, FS.w_for, FS.w_iOf, FS.w_iItems, FS.w_iValues, FS.w_lc, FS.w_dc, FS.w_lc2, FS.w_var, FS.okR_ok, FS.okO_some, FS.okR_ite, FS.okO_ite, List.getElem?_cons_zero, List.getElem?_cons_succ, List.set_cons_zero, List.set_cons_succ, FS.i_add, FS.i_sub, FS.i_mul, FS.i_mod, FS.i_fdiv, FS.i_lt, FS.i_le, FS.i_gt, FS.i_ge, FS.i_neg, decide_eq_true_eq, if_true, if_false, Bool.false_eq_true, Int.reduceLT, Int.reduceLE, Int.reduceNeg, Int.reducePow, reduceIte, and_self, true_or, or_true, true_and, and_true, FS.tY, FS.r1x]
    rw [if_pos hz]
    have get : (s1 ++ [SO.lst [PV.int 2147483629, .int 2147483587, .int 2147483579, .int 2147483563, .int 2147483549, .int 2147483543, .int 2147483497, .int 2147483489]])[s1.length]? = some (.lst [PV.int 2147483629, .int 2147483587, .int 2147483579, .int 2147483563, .int 2147483549, .int 2147483543, .int 2147483497, .int 2147483489]) := get_push
    generalize hs2 : (s1 ++ [SO.lst [PV.int 2147483629, .int 2147483587, .int 2147483579, .int 2147483563, .int 2147483549, .int 2147483543, .int 2147483497, .int 2147483489]]) = s2 at get ⊢
    have f2 : Fr [] s1 s2 := by rw [← hs2]; exact Fr.push _
    have pick : ∀ k : Int, ∃ q : Int, atI [PV.int 2147483629, .int 2147483587, .int 2147483579, .int 2147483563, .int 2147483549, .int 2147483543, .int 2147483497, .int 2147483489] (k % 8) = some (.int q) ∧ 0 < q ∧ q ≤ 2147483629 := fun k => by
      have h0 := em0 k (b := 8) (by decide)
      have h1 := eml k (b := 8) (by decide)
      have : k % 8 = 0 ∨ k % 8 = 1 ∨ k % 8 = 2 ∨ k % 8 = 3 ∨ k % 8 = 4 ∨ k % 8 = 5 ∨ k % 8 = 6 ∨ k % 8 = 7 := by omega
      rcases this with e | e | e | e | e | e | e | e <;> rw [e] <;> exact ⟨_, rfl, by decide, by decide⟩
    have c1 := em0 cell (b := 1000000007) (by decide)
    have c2 := eml cell (b := 1000000007) (by decide)
    have c3 := em0 cell (b := 65537) (by decide)
    have c4 := eml cell (b := 65537) (by decide)
    have x1 : 0 ≤ cell % 1000000007 * (2 * a + 69069) := Int.mul_nonneg c1 (by omega)
    have x2 : cell % 1000000007 * (2 * a + 69069) ≤ 1000000007 * 3000000 := Int.mul_le_mul (by omega) (by omega) (by omega) (by decide)
    refine ⟨smL (by omega), smL (by omega), smL (by omega), ?_⟩
    rw [i_pow (by decide) (by decide) (by omega)]
    obtain ⟨q1, e1, p1, p1'⟩ := pick a
    rw [ix_lst get e1]
    simp only [FS.w_c, FS.w_bin, FS.w_un, FS.w_call, FS.w_callG, FS.w_nil, FS.w_cons, FS.w_tOfE, FS.w_bNot, FS.w_bAnd, FS.w_bOr, FS.w_if, FS.w_tup, FS.w_lst, FS.w_dict0, FS.w_oNone, FS.w_oSome, FS.w_sl, FS.w_mt, FS.w_next, FS.w_seq, FS.w_expr, FS.w_ret, FS.w_retN, FS.w_sif, FS.w_set, FS.w_asg, FS.w_par, FS.w_par3, FS.w_sub, FS.w_brk, FS.w_cont, FS.w_for, FS.w_iOf, FS.w_iItems, FS.w_iValues, FS.w_lc, FS.w_dc, FS.w_lc2, FS.w_var, FS.okR_ok, FS.okO_some, FS.okR_ite, FS.okO_ite, List.getElem?_cons_zero, List.getElem?_cons_succ, List.set_cons_zero, List.set_cons_succ, FS.i_add, FS.i_sub, FS.i_mul, FS.i_mod, FS.i_fdiv, FS.i_lt, FS.i_le, FS.i_gt, FS.i_ge, FS.i_neg, decide_eq_true_eq, if_true, if_false, Bool.false_eq_true, Int.reduceLT, Int.reduceLE, Int.reduceNeg, Int.reducePow, reduceIte, and_self, true_or, or_true, true_and, and_true, FS.tY, FS.r1x]
    refine ⟨p1, ?_⟩
    generalize hone : (cell % 1000000007 * (2 * a + 69069) + a * 40503 + 977) ^ (3 : Int).toNat % q1 = one
    have o0 : 0 ≤ one := by rw [← hone]; exact em0 _ p1
    have o1 : one < q1 := by rw [← hone]; exact eml _ p1
    clear hone
    have y1 : 0 ≤ one * (a + 3) := Int.mul_nonneg o0 (by omega)
    have y2 : one * (a + 3) ≤ 2147483629 * 1000003 := Int.mul_le_mul (by omega) (by omega) (by omega) (by decide)
    refine ⟨smL (by omega), ?_⟩
    rw [i_pow (by decide) (by decide) (by omega)]
    obtain ⟨q2, e2, p2, p2'⟩ := pick (a + 5)
    rw [ix_lst get e2]
    simp only [FS.w_c, FS.w_bin, FS.w_un, FS.w_call, FS.w_callG, FS.w_nil, FS.w_cons, FS.w_tOfE, FS.w_bNot, FS.w_bAnd, FS.w_bOr, FS.w_if, FS.w_tup, FS.w_lst, FS.w_dict0, FS.w_oNone, FS.w_oSome, FS.w_sl, FS.w_mt, FS.w_next, FS.w_seq, FS.w_expr, FS.w_ret, FS.w_retN, FS.w_sif, FS.w_set, FS.w_asg, FS.w_par, FS.w_par3, FS.w_sub, FS.w_brk, FS.w_cont, FS.w_for, FS.w_iOf, FS.w_iItems, FS.w_iValues, FS.w_lc, FS.w_dc, FS.w_lc2, FS.w_var, FS.okR_ok, FS.okO_some, FS.okR_ite, FS.okO_ite, List.getElem?_cons_zero, List.getElem?_cons_succ, List.set_cons_zero, List.set_cons_succ, FS.i_add, FS.i_sub, FS.i_mul, FS.i_mod, FS.i_fdiv, FS.i_lt, FS.i_le, FS.i_gt, FS.i_ge, FS.i_neg, decide_eq_true_eq, if_true, if_false, Bool.false_eq_true, Int.reduceLT, Int.reduceLE, Int.reduceNeg, Int.reducePow, reduceIte, and_self, true_or, or_true, true_and, and_true, FS.tY, FS.r1x]
    refine ⟨p2, ?_⟩
    generalize htwo : (one * (a + 3) + cell % 65537 + 5) ^ (5 : Int).toNat % q2 = two
    have t0 : 0 ≤ two := by rw [← htwo]; exact em0 _ p2
    have t1 : two < q2 := by rw [← htwo]; exact eml _ p2
    clear htwo
    have z0 := em0 one (b := 1009) (by decide)
    have z1 := eml one (b := 1009) (by decide)
    rw [i_pow (by decide) (by decide) (by omega)]
    obtain ⟨q3, e3, p3, p3'⟩ := pick (a + 7)
    rw [ix_lst get e3]
    simp only [FS.w_c, FS.w_bin, FS.w_un, FS.w_call, FS.w_callG, FS.w_nil, FS.w_cons, FS.w_tOfE, FS.w_bNot, FS.w_bAnd, FS.w_bOr, FS.w_if, FS.w_tup, FS.w_lst, FS.w_dict0, FS.w_oNone, FS.w_oSome, FS.w_sl, FS.w_mt, FS.w_next, FS.w_seq, FS.w_expr, FS.w_ret, FS.w_retN, FS.w_sif, FS.w_set, FS.w_asg, FS.w_par, FS.w_par3, FS.w_sub, FS.w_brk, FS.w_cont, FS.w_for, FS.w_iOf, FS.w_iItems, FS.w_iValues, FS.w_lc, FS.w_dc, FS.w_lc2, FS.w_var, FS.okR_ok, FS.okO_some, FS.okR_ite, FS.okO_ite, List.getElem?_cons_zero, List.getElem?_cons_succ, List.set_cons_zero, List.set_cons_succ, FS.i_add, FS.i_sub, FS.i_mul, FS.i_mod, FS.i_fdiv, FS.i_lt, FS.i_le, FS.i_gt, FS.i_ge, FS.i_neg, decide_eq_true_eq, if_true, if_false, Bool.false_eq_true, Int.reduceLT, Int.reduceLE, Int.reduceNeg, Int.reducePow, reduceIte, and_self, true_or, or_true, true_and, and_true, FS.tY, FS.r1x]
    refine ⟨p3, ?_⟩
    generalize hthree : (two + one % 1009 + a) ^ (3 : Int).toNat % q3 = three
    have u0 : 0 ≤ three := by rw [← hthree]; exact em0 _ p3
    clear hthree
    refine ⟨smL (by omega), smR (by omega), ?_⟩
    refine hQ _ _ ?_ f2
    have v1 : 0 ≤ one * 2147483647 := Int.mul_nonneg o0 (by decide)
    have v2 : 0 ≤ (one * 2147483647 + two) * 2147483647 := Int.mul_nonneg (by omega) (by decide)
    omega

theorem take_ok {s : Sto} {p c k : Nat} {m : Int} {Q : PV → Sto → Prop} (h : Pen s p c k) (hk : k ≤ 1000000) (hm : 0 < m) (hm2 : m < 1073741824)
    (hQ : ∀ r s', 0 ≤ r → r < m → Fr [p] s s' → Pen s' p c (k + 1) → Q (.int r) s') : okR (G_law_take [.obj p, .int m] s) Q := by
  obtain ⟨cells, a, v, hp, hc, hne, ha, hak, hv⟩ := h
  refine okR_fnF rfl ?_
  show okS ((_ : SF) [some (.obj p), some (.int m), none, none, none] s) _ _ _ _
  have lc := get_lt hc
  have lp := get_lt hp
  have step : ∀ (cell : Int) (N : FS.Env → Sto → Prop), (∀ s1 v1, 0 ≤ v1 → FS.Fr [p] s s1 → s1[p]? = some (.lst [.obj c, .int (a + 1), .int v1]) → s1[c]? = some (.lst (cells.map .int)) → N [some (.obj p), some (.int m), none, some (.int a), some (.int cell)] s1) →
      okS (sSeq (sSub (eVar 0) (eC (.int 1)) (eBin bAdd (eVar 3) (eC (.int 1)))) (sSeq (sSub (eVar 0) (eC (.int 2)) (eCallG G_law_spread (aCons (eVar 4) (aCons (eVar 3) (aNil))))) (sNext)) [some (.obj p), some (.int m), none, some (.int a), some (.int cell)] s) N (fun _ _ => False) (fun _ _ => False) (fun _ _ => False) := by
    intro cell N hN
    simp only [FS.w_c, FS.w_bin, FS.w_un, FS.w_call, FS.w_callG, FS.w_nil, FS.w_cons, FS.w_tOfE, FS.w_bNot, FS.w_bAnd, FS.w_bOr, FS.w_if, FS.w_tup, FS.w_lst, FS.w_dict0, FS.w_oNone, FS.w_oSome, FS.w_sl, FS.w_mt, FS.w_next, FS.w_seq, FS.w_expr, FS.w_ret, FS.w_retN, FS.w_sif, FS.w_set, FS.w_asg, FS.w_par, FS.w_par3, FS.w_sub, FS.w_brk, FS.w_cont, FS.w_for, FS.w_iOf, FS.w_iItems, FS.w_iValues, FS.w_lc, FS.w_dc, FS.w_lc2, FS.w_var, FS.okR_ok, FS.okO_some, FS.okR_ite, FS.okO_ite, List.getElem?_cons_zero, List.getElem?_cons_succ, List.set_cons_zero, List.set_cons_succ, FS.i_add, FS.i_sub, FS.i_mul, FS.i_mod, FS.i_fdiv, FS.i_lt, FS.i_le, FS.i_gt, FS.i_ge, FS.i_neg, decide_eq_true_eq, if_true, if_false, Bool.false_eq_true, Int.reduceLT, Int.reduceLE, Int.reduceNeg, Int.reducePow, reduceIte, and_self, true_or, or_true, true_and, and_true, FS.tY, FS.r1x]
    rw [set_lst hp (j := 1) rfl]
    try dsimp only
    refine spread_ok ha (by omega) fun r s2 hr f2 => ?_
    have hp1 : (s.set p (.lst [.obj c, .int (a + 1), .int v]))[p]? = some (.lst [.obj c, .int (a + 1), .int v]) := List.getElem?_set_self lp
    have hp2 := f2.get hp1 (by simp)
    rw [set_lst hp2 (j := 2) rfl]
    have g : FS.Fr [p] s s2 := (FS.Fr.set _ (.inl (by simp))).trans (f2.mono fun n hn => by simp at hn)
    refine hN _ r hr (g.setr _ (.inl (by simp))) (List.getElem?_set_self (get_lt hp2)) ?_
    rw [List.getElem?_set_ne (Ne.symm hne)]
    exact g.get hc (by simpa using hne)
  refine okS_seq (M := fun ρ1 s1 => ∃ y z a1 v1, ρ1 = [some (.obj p), some (.int m), none, y, z] ∧ Fr [p] s s1 ∧ s1[p]? = some (.lst [.obj c, .int a1, .int v1]) ∧ s1[c]? = some (.lst (cells.map .int)) ∧ 0 ≤ a1 ∧ a1 ≤ a + 1 ∧ 0 ≤ v1) ?_ ?_
  · rw [FS.w_sif]
    simp only [FS.w_c, FS.w_bin, FS.w_un, FS.w_call, FS.w_callG, FS.w_nil, FS.w_cons, FS.w_tOfE, FS.w_bNot, FS.w_bAnd, FS.w_bOr, FS.w_if, FS.w_tup, FS.w_lst, FS.w_dict0, FS.w_oNone, FS.w_oSome, FS.w_sl, FS.w_mt, FS.w_iOf, FS.w_iItems, FS.w_iValues, FS.w_lc, FS.w_dc, FS.w_lc2, FS.w_var, FS.okR_ok, FS.okO_some, FS.okR_ite, FS.okO_ite, List.getElem?_cons_zero, List.getElem?_cons_succ, List.set_cons_zero, List.set_cons_succ, FS.i_add, FS.i_sub, FS.i_mul, FS.i_mod, FS.i_fdiv, FS.i_lt, FS.i_le, FS.i_gt, FS.i_ge, FS.i_neg, decide_eq_true_eq, if_true, if_false, Bool.false_eq_true, Int.reduceLT, Int.reduceLE, Int.reduceNeg, Int.reducePow, reduceIte, and_self, true_or, or_true, true_and, and_true, FS.tY, FS.r1x]
    rw [ix_lst hp (v := .int v) rfl]
    simp only [FS.w_c, FS.w_bin, FS.w_un, FS.w_call, FS.w_callG, FS.w_nil, FS.w_cons, FS.w_tOfE, FS.w_bNot, FS.w_bAnd, FS.w_bOr, FS.w_if, FS.w_tup, FS.w_lst, FS.w_dict0, FS.w_oNone, FS.w_oSome, FS.w_sl, FS.w_mt, FS.w_iOf, FS.w_iItems, FS.w_iValues, FS.w_lc, FS.w_dc, FS.w_lc2, FS.w_var, FS.okR_ok, FS.okO_some, FS.okR_ite, FS.okO_ite, List.getElem?_cons_zero, List.getElem?_cons_succ, List.set_cons_zero, List.set_cons_succ, FS.i_add, FS.i_sub, FS.i_mul, FS.i_mod, FS.i_fdiv, FS.i_lt, FS.i_le, FS.i_gt, FS.i_ge, FS.i_neg, decide_eq_true_eq, if_true, if_false, Bool.false_eq_true, Int.reduceLT, Int.reduceLE, Int.reduceNeg, Int.reducePow, reduceIte, and_self, true_or, or_true, true_and, and_true, FS.tY, FS.r1x]
    split
    · rw [FS.w_seq, FS.w_set]
      simp only [FS.w_c, FS.w_bin, FS.w_un, FS.w_call, FS.w_callG, FS.w_nil, FS.w_cons, FS.w_tOfE, FS.w_bNot, FS.w_bAnd, FS.w_bOr, FS.w_if, FS.w_tup, FS.w_lst, FS.w_dict0, FS.w_oNone, FS.w_oSome, FS.w_sl, FS.w_mt, FS.w_iOf, FS.w_iItems, FS.w_iValues, FS.w_lc, FS.w_dc, FS.w_lc2, FS.w_var, FS.okR_ok, FS.okO_some, FS.okR_ite, FS.okO_ite, List.getElem?_cons_zero, List.getElem?_cons_succ, List.set_cons_zero, List.set_cons_succ, FS.i_add, FS.i_sub, FS.i_mul, FS.i_mod, FS.i_fdiv, FS.i_lt, FS.i_le, FS.i_gt, FS.i_ge, FS.i_neg, decide_eq_true_eq, if_true, if_false, Bool.false_eq_true, Int.reduceLT, Int.reduceLE, Int.reduceNeg, Int.reducePow, reduceIte, and_self, true_or, or_true, true_and, and_true, FS.tY, FS.r1x]
      rw [ix_lst hp (v := .int a) rfl]
      rw [FS.w_seq, FS.w_set]
      simp only [FS.w_c, FS.w_bin, FS.w_un, FS.w_call, FS.w_callG, FS.w_nil, FS.w_cons, FS.w_tOfE, FS.w_bNot, FS.w_bAnd, FS.w_bOr, FS.w_if, FS.w_tup, FS.w_lst, FS.w_dict0, FS.w_oNone, FS.w_oSome, FS.w_sl, FS.w_mt, FS.w_iOf, FS.w_iItems, FS.w_iValues, FS.w_lc, FS.w_dc, FS.w_lc2, FS.w_var, FS.okR_ok, FS.okO_some, FS.okR_ite, FS.okO_ite, List.getElem?_cons_zero, List.getElem?_cons_succ, List.set_cons_zero, List.set_cons_succ, FS.i_add, FS.i_sub, FS.i_mul, FS.i_mod, FS.i_fdiv, FS.i_lt, FS.i_le, FS.i_gt, FS.i_ge, FS.i_neg, decide_eq_true_eq, if_true, if_false, Bool.false_eq_true, Int.reduceLT, Int.reduceLE, Int.reduceNeg, Int.reducePow, reduceIte, and_self, true_or, or_true, true_and, and_true, FS.tY, FS.r1x]
      refine okS_seq (M := fun ρ1 s1 => ∃ cell, ρ1 = [some (.obj p), some (.int m), none, some (.int a), some (.int cell)] ∧ s1 = s) ?_ ?_
      · rw [FS.w_sif]
        simp only [FS.w_c, FS.w_bin, FS.w_un, FS.w_call, FS.w_callG, FS.w_nil, FS.w_cons, FS.w_tOfE, FS.w_bNot, FS.w_bAnd, FS.w_bOr, FS.w_if, FS.w_tup, FS.w_lst, FS.w_dict0, FS.w_oNone, FS.w_oSome, FS.w_sl, FS.w_mt, FS.w_iOf, FS.w_iItems, FS.w_iValues, FS.w_lc, FS.w_dc, FS.w_lc2, FS.w_var, FS.okR_ok, FS.okO_some, FS.okR_ite, FS.okO_ite, List.getElem?_cons_zero, List.getElem?_cons_succ, List.set_cons_zero, List.set_cons_succ, FS.i_add, FS.i_sub, FS.i_mul, FS.i_mod, FS.i_fdiv, FS.i_lt, FS.i_le, FS.i_gt, FS.i_ge, FS.i_neg, decide_eq_true_eq, if_true, if_false, Bool.false_eq_true, Int.reduceLT, Int.reduceLE, Int.reduceNeg, Int.reducePow, reduceIte, and_self, true_or, or_true, true_and, and_true, FS.tY, FS.r1x]
        rw [ix_lst hp (v := .obj c) rfl, len_lst hc]
        simp only [FS.w_c, FS.w_bin, FS.w_un, FS.w_call, FS.w_callG, FS.w_nil, FS.w_cons, FS.w_tOfE, FS.w_bNot, FS.w_bAnd, FS.w_bOr, FS.w_if, FS.w_tup, FS.w_lst, FS.w_dict0, FS.w_oNone, FS.w_oSome, FS.w_sl, FS.w_mt, FS.w_iOf, FS.w_iItems, FS.w_iValues, FS.w_lc, FS.w_dc, FS.w_lc2, FS.w_var, FS.okR_ok, FS.okO_some, FS.okR_ite, FS.okO_ite, List.getElem?_cons_zero, List.getElem?_cons_succ, List.set_cons_zero, List.set_cons_succ, FS.i_add, FS.i_sub, FS.i_mul, FS.i_mod, FS.i_fdiv, FS.i_lt, FS.i_le, FS.i_gt, FS.i_ge, FS.i_neg, decide_eq_true_eq, if_true, if_false, Bool.false_eq_true, Int.reduceLT, Int.reduceLE, Int.reduceNeg, Int.reducePow, reduceIte, and_self, true_or, or_true, true_and, and_true, FS.tY, FS.r1x]
        rw [List.length_map]
        split
        · rename_i hlt
          rw [FS.w_set]
          simp only [FS.w_c, FS.w_bin, FS.w_un, FS.w_call, FS.w_callG, FS.w_nil, FS.w_cons, FS.w_tOfE, FS.w_bNot, FS.w_bAnd, FS.w_bOr, FS.w_if, FS.w_tup, FS.w_lst, FS.w_dict0, FS.w_oNone, FS.w_oSome, FS.w_sl, FS.w_mt, FS.w_iOf, FS.w_iItems, FS.w_iValues, FS.w_lc, FS.w_dc, FS.w_lc2, FS.w_var, FS.okR_ok, FS.okO_some, FS.okR_ite, FS.okO_ite, List.getElem?_cons_zero, List.getElem?_cons_succ, List.set_cons_zero, List.set_cons_succ, FS.i_add, FS.i_sub, FS.i_mul, FS.i_mod, FS.i_fdiv, FS.i_lt, FS.i_le, FS.i_gt, FS.i_ge, FS.i_neg, decide_eq_true_eq, if_true, if_false, Bool.false_eq_true, Int.reduceLT, Int.reduceLE, Int.reduceNeg, Int.reducePow, reduceIte, and_self, true_or, or_true, true_and, and_true, FS.tY, FS.r1x]
          rw [ix_lst hp (v := .obj c) rfl]
          have hl : a.toNat < cells.length := by omega
          rw [ix_lst hc (v := .int cells[a.toNat]) (atI_int ha (by rw [List.getElem?_map, List.getElem?_eq_getElem hl]; rfl))]
          exact ⟨_, rfl, rfl⟩
        · rw [FS.w_sif]
          simp only [FS.w_c, FS.w_bin, FS.w_un, FS.w_call, FS.w_callG, FS.w_nil, FS.w_cons, FS.w_tOfE, FS.w_bNot, FS.w_bAnd, FS.w_bOr, FS.w_if, FS.w_tup, FS.w_lst, FS.w_dict0, FS.w_oNone, FS.w_oSome, FS.w_sl, FS.w_mt, FS.w_iOf, FS.w_iItems, FS.w_iValues, FS.w_lc, FS.w_dc, FS.w_lc2, FS.w_var, FS.okR_ok, FS.okO_some, FS.okR_ite, FS.okO_ite, List.getElem?_cons_zero, List.getElem?_cons_succ, List.set_cons_zero, List.set_cons_succ, FS.i_add, FS.i_sub, FS.i_mul, FS.i_mod, FS.i_fdiv, FS.i_lt, FS.i_le, FS.i_gt, FS.i_ge, FS.i_neg, decide_eq_true_eq, if_true, if_false, Bool.false_eq_true, Int.reduceLT, Int.reduceLE, Int.reduceNeg, Int.reducePow, reduceIte, and_self, true_or, or_true, true_and, and_true, FS.tY, FS.r1x]
          rw [ix_lst hp (v := .obj c) rfl, len_lst hc]
          simp only [FS.w_c, FS.w_bin, FS.w_un, FS.w_call, FS.w_callG, FS.w_nil, FS.w_cons, FS.w_tOfE, FS.w_bNot, FS.w_bAnd, FS.w_bOr, FS.w_if, FS.w_tup, FS.w_lst, FS.w_dict0, FS.w_oNone, FS.w_oSome, FS.w_sl, FS.w_mt, FS.w_iOf, FS.w_iItems, FS.w_iValues, FS.w_lc, FS.w_dc, FS.w_lc2, FS.w_var, FS.okR_ok, FS.okO_some, FS.okR_ite, FS.okO_ite, List.getElem?_cons_zero, List.getElem?_cons_succ, List.set_cons_zero, List.set_cons_succ, FS.i_add, FS.i_sub, FS.i_mul, FS.i_mod, FS.i_fdiv, FS.i_lt, FS.i_le, FS.i_gt, FS.i_ge, FS.i_neg, decide_eq_true_eq, if_true, if_false, Bool.false_eq_true, Int.reduceLT, Int.reduceLE, Int.reduceNeg, Int.reducePow, reduceIte, and_self, true_or, or_true, true_and, and_true, FS.tY, FS.r1x]
          rw [List.length_map]
          split
          · rename_i hpos
            rw [FS.w_set]
            simp only [FS.w_c, FS.w_bin, FS.w_un, FS.w_call, FS.w_callG, FS.w_nil, FS.w_cons, FS.w_tOfE, FS.w_bNot, FS.w_bAnd, FS.w_bOr, FS.w_if, FS.w_tup, FS.w_lst, FS.w_dict0, FS.w_oNone, FS.w_oSome, FS.w_sl, FS.w_mt, FS.w_iOf, FS.w_iItems, FS.w_iValues, FS.w_lc, FS.w_dc, FS.w_lc2, FS.w_var, FS.okR_ok, FS.okO_some, FS.okR_ite, FS.okO_ite, List.getElem?_cons_zero, List.getElem?_cons_succ, List.set_cons_zero, List.set_cons_succ, FS.i_add, FS.i_sub, FS.i_mul, FS.i_mod, FS.i_fdiv, FS.i_lt, FS.i_le, FS.i_gt, FS.i_ge, FS.i_neg, decide_eq_true_eq, if_true, if_false, Bool.false_eq_true, Int.reduceLT, Int.reduceLE, Int.reduceNeg, Int.reducePow, reduceIte, and_self, true_or, or_true, true_and, and_true, FS.tY, FS.r1x]
            rw [ix_lst hp (v := .obj c) rfl]
            refine ⟨smL (by omega), ?_⟩
            rw [ix_lst hp (v := .obj c) rfl, len_lst hc]
            simp only [FS.w_c, FS.w_bin, FS.w_un, FS.w_call, FS.w_callG, FS.w_nil, FS.w_cons, FS.w_tOfE, FS.w_bNot, FS.w_bAnd, FS.w_bOr, FS.w_if, FS.w_tup, FS.w_lst, FS.w_dict0, FS.w_oNone, FS.w_oSome, FS.w_sl, FS.w_mt, FS.w_iOf, FS.w_iItems, FS.w_iValues, FS.w_lc, FS.w_dc, FS.w_lc2, FS.w_var, FS.okR_ok, FS.okO_some, FS.okR_ite, FS.okO_ite, List.getElem?_cons_zero, List.getElem?_cons_succ, List.set_cons_zero, List.set_cons_succ, FS.i_add, FS.i_sub, FS.i_mul, FS.i_mod, FS.i_fdiv, FS.i_lt, FS.i_le, FS.i_gt, FS.i_ge, FS.i_neg, decide_eq_true_eq, if_true, if_false, Bool.false_eq_true, Int.reduceLT, Int.reduceLE, Int.reduceNeg, Int.reducePow, reduceIte, and_self, true_or, or_true, true_and, and_true, FS.tY, FS.r1x]
            rw [List.length_map]
            refine ⟨hpos, ?_⟩
            have g0 := em0 (a * 5 + 3) hpos
            have g1 := eml (a * 5 + 3) hpos
            have hl : ((a * 5 + 3) % (cells.length : Int)).toNat < cells.length := by omega
            rw [ix_lst hc (v := .int cells[((a * 5 + 3) % (cells.length : Int)).toNat]) (atI_int g0 (by rw [List.getElem?_map, List.getElem?_eq_getElem hl]; rfl))]
            rw [i_pow (by decide) (by decide) (by decide)]
            simp only [FS.w_c, FS.w_bin, FS.w_un, FS.w_call, FS.w_callG, FS.w_nil, FS.w_cons, FS.w_tOfE, FS.w_bNot, FS.w_bAnd, FS.w_bOr, FS.w_if, FS.w_tup, FS.w_lst, FS.w_dict0, FS.w_oNone, FS.w_oSome, FS.w_sl, FS.w_mt, FS.w_iOf, FS.w_iItems, FS.w_iValues, FS.w_lc, FS.w_dc, FS.w_lc2, FS.w_var, FS.okR_ok, FS.okO_some, FS.okR_ite, FS.okO_ite, List.getElem?_cons_zero, List.getElem?_cons_succ, List.set_cons_zero, List.set_cons_succ, FS.i_add, FS.i_sub, FS.i_mul, FS.i_mod, FS.i_fdiv, FS.i_lt, FS.i_le, FS.i_gt, FS.i_ge, FS.i_neg, decide_eq_true_eq, if_true, if_false, Bool.false_eq_true, Int.reduceLT, Int.reduceLE, Int.reduceNeg, Int.reducePow, reduceIte, and_self, true_or, or_true, true_and, and_true, FS.tY, FS.r1x]
            have hten : (10 : Int) ^ (17 : Int).toNat = 100000000000000000 := by decide
            exact ⟨by omega, _, rfl⟩
          · rw [FS.w_next]
            exact ⟨0, rfl, rfl⟩
      · rintro ρ1 s1 ⟨cell, rfl, rfl⟩
        refine (step cell (fun ρ1 s1 => ∃ y z a1 v1, ρ1 = [some (.obj p), some (.int m), none, y, z] ∧ FS.Fr [p] _ s1 ∧ s1[p]? = some (.lst [.obj c, .int a1, .int v1]) ∧ s1[c]? = some (.lst (cells.map .int)) ∧ 0 ≤ a1 ∧ a1 ≤ a + 1 ∧ 0 ≤ v1) fun s2 v2 hv2 f2 q1 q2 => ⟨_, _, a + 1, v2, rfl, f2, q1, q2, by omega, by omega, hv2⟩).mono (fun _ _ z => z) (fun _ _ z => z.elim) (fun _ _ z => z) fun _ _ z => z
    · rw [FS.w_next]
      exact ⟨none, none, a, v, rfl, Fr.refl _ _, hp, hc, ha, by omega, hv⟩
  · rintro ρ1 s1 ⟨y, z, a1, v1, rfl, f1, hp1, hc1, h1, h2, h3⟩
    simp only [FS.w_c, FS.w_bin, FS.w_un, FS.w_call, FS.w_callG, FS.w_nil, FS.w_cons, FS.w_tOfE, FS.w_bNot, FS.w_bAnd, FS.w_bOr, FS.w_if, FS.w_tup, FS.w_lst, FS.w_dict0, FS.w_oNone, FS.w_oSome, FS.w_sl, FS.w_mt, FS.w_next, FS.w_seq, FS.w_expr, FS.w_ret, FS.w_retN, FS.w_sif, FS.w_set, FS.w_asg, FS.w_par, FS.w_par3, FS.w_sub, FS.w_brk, FS.w_cont, FS.w_for, FS.w_iOf, FS.w_iItems, FS.w_iValues, FS.w_lc, FS.w_dc, FS.w_lc2, FS.w_var, FS.okR_ok, FS.okO_some, FS.okR_ite, FS.okO_ite, List.getElem?_cons_zero, List.getElem?_cons_succ, List.set_cons_zero, List.set_cons_succ, FS.i_add, FS.i_sub, FS.i_mul, FS.i_mod, FS.i_fdiv, FS.i_lt, FS.i_le, FS.i_gt, FS.i_ge, FS.i_neg, decide_eq_true_eq, if_true, if_false, Bool.false_eq_true, Int.reduceLT, Int.reduceLE, Int.reduceNeg, Int.reducePow, reduceIte, and_self, true_or, or_true, true_and, and_true, FS.tY, FS.r1x]
    rw [ix_lst hp1 (v := .int v1) rfl]
    simp only [FS.w_c, FS.w_bin, FS.w_un, FS.w_call, FS.w_callG, FS.w_nil, FS.w_cons, FS.w_tOfE, FS.w_bNot, FS.w_bAnd, FS.w_bOr, FS.w_if, FS.w_tup, FS.w_lst, FS.w_dict0, FS.w_oNone, FS.w_oSome, FS.w_sl, FS.w_mt, FS.w_next, FS.w_seq, FS.w_expr, FS.w_ret, FS.w_retN, FS.w_sif, FS.w_set, FS.w_asg, FS.w_par, FS.w_par3, FS.w_sub, FS.w_brk, FS.w_cont, FS.w_for, FS.w_iOf, FS.w_iItems, FS.w_iValues, FS.w_lc, FS.w_dc, FS.w_lc2, FS.w_var, FS.okR_ok, FS.okO_some, FS.okR_ite, FS.okO_ite, List.getElem?_cons_zero, List.getElem?_cons_succ, List.set_cons_zero, List.set_cons_succ, FS.i_add, FS.i_sub, FS.i_mul, FS.i_mod, FS.i_fdiv, FS.i_lt, FS.i_le, FS.i_gt, FS.i_ge, FS.i_neg, decide_eq_true_eq, if_true, if_false, Bool.false_eq_true, Int.reduceLT, Int.reduceLE, Int.reduceNeg, Int.reducePow, reduceIte, and_self, true_or, or_true, true_and, and_true, FS.tY, FS.r1x]
    refine ⟨hm, ?_⟩
    rw [ix_lst hp1 (v := .int v1) rfl]
    simp only [FS.w_c, FS.w_bin, FS.w_un, FS.w_call, FS.w_callG, FS.w_nil, FS.w_cons, FS.w_tOfE, FS.w_bNot, FS.w_bAnd, FS.w_bOr, FS.w_if, FS.w_tup, FS.w_lst, FS.w_dict0, FS.w_oNone, FS.w_oSome, FS.w_sl, FS.w_mt, FS.w_next, FS.w_seq, FS.w_expr, FS.w_ret, FS.w_retN, FS.w_sif, FS.w_set, FS.w_asg, FS.w_par, FS.w_par3, FS.w_sub, FS.w_brk, FS.w_cont, FS.w_for, FS.w_iOf, FS.w_iItems, FS.w_iValues, FS.w_lc, FS.w_dc, FS.w_lc2, FS.w_var, FS.okR_ok, FS.okO_some, FS.okR_ite, FS.okO_ite, List.getElem?_cons_zero, List.getElem?_cons_succ, List.set_cons_zero, List.set_cons_succ, FS.i_add, FS.i_sub, FS.i_mul, FS.i_mod, FS.i_fdiv, FS.i_lt, FS.i_le, FS.i_gt, FS.i_ge, FS.i_neg, decide_eq_true_eq, if_true, if_false, Bool.false_eq_true, Int.reduceLT, Int.reduceLE, Int.reduceNeg, Int.reducePow, reduceIte, and_self, true_or, or_true, true_and, and_true, FS.tY, FS.r1x]
    refine ⟨⟨hm, hm2⟩, ?_⟩
    rw [set_lst hp1 (j := 2) rfl]
    refine hQ _ _ (em0 _ hm) (eml _ hm) (f1.setr _ (.inl (by simp))) ⟨cells, a1, v1 / m, List.getElem?_set_self (get_lt hp1), ?_, hne, h1, by omega, Int.ediv_nonneg h3 (by omega)⟩
    rw [List.getElem?_set_ne (Ne.symm hne)]
    exact hc1

/-! ### drawing -/
theorem strs_of {n : Nat} : ∀ (acc : List PV), (∀ y ∈ acc, ∃ x, y = PV.str x ∧ asc n x) → ∃ xs : List Str, acc = xs.map .str ∧ ∀ x ∈ xs, asc n x
  | [], _ => ⟨[], rfl, nofun⟩
  | y :: r, h => by
    obtain ⟨x, rfl, hx⟩ := h y List.mem_cons_self
    obtain ⟨xs, rfl, hxs⟩ := strs_of r fun z hz => h z (List.mem_cons_of_mem _ hz)
    exact ⟨x :: xs, rfl, fun z hz => (List.mem_cons.mp hz).elim (fun e => e ▸ hx) (hxs z)⟩
theorem sum_le {n : Nat} : ∀ {xs : List Str}, (∀ x ∈ xs, x.length ≤ n) → (xs.map (·.length)).sum ≤ xs.length * n
  | [], _ => by simp
  | x :: r, h => by
    have h1 := h x List.mem_cons_self
    have h2 := sum_le (xs := r) fun z hz => h z (List.mem_cons_of_mem _ hz)
    rw [List.map_cons, List.sum_cons, List.length_cons, Nat.succ_mul]
    omega
theorem mapM_strs : ∀ (xs : List Str), (xs.map PV.str).mapM strOfP = some xs
  | [] => rfl
  | x :: r => by rw [List.map_cons, List.mapM_cons, mapM_strs r]; rfl
theorem join_lst {s : Sto} {n : Nat} {xs : List Str} {P : PV → Sto → Prop} {z : Str} (h : s[n]? = some (.lst (xs.map .str))) (hl : (xs.map (·.length)).sum + xs.length * z.length ≤ 16777216) : okO (mJoin s (.str z) [.obj n]) P = P (.str (Txt.join z xs)) s := by
  have e : seqOf s (.obj n) = some (xs.map .str) := by simp [seqOf, h]
  show okO ((seqOf s (.obj n)).bind fun ys => (ys.mapM strOfP).bind fun zs => if (zs.map (·.length)).sum + zs.length * z.length ≤ 16777216 then some (PV.str (Txt.join z zs), s) else none) P = _
  rw [e, Option.bind_some, mapM_strs, Option.bind_some, if_pos hl]
  exact FS.okO_some
theorem mul_str {s : Sto} {a : Str} {k : Int} {P : PV → Sto → Prop} (h : a.length ≤ 16) (h0 : 0 ≤ k) (h1 : k ≤ 1048576) : okO (bMul s (.str a) (.int k)) P = P (.str (Txt.mul a k)) s := by
  have h2 : -9223372036854775808 ≤ k := by omega
  simp [bMul, h, h1, h2, okO]
theorem add_str {s : Sto} {a b : Str} {P : PV → Sto → Prop} (h : a.length + b.length ≤ sizeLine) : okO (bAdd s (.str a) (.str b)) P = P (.str (a ++ b)) s := by
  simp [bAdd, h, okO]
theorem sl_str {s : Sto} {z : Str} {lo hi : Option Int} {P : PV → Sto → Prop} (h : z.length ≤ sizeLine) : okO (slF s (.str z) lo hi) P = P (.str (cutS z lo hi)) s := by
  simp [slF, h, okO]
theorem draw {ρ0 : FS.Env} {te : XF} {j pp c k d N : Nat} {A : PV → Prop} {s : Sto} {Q : Sto → Prop} (hN : N ≤ 1000) (hpen : Pen s pp c k)
    (hte : ∀ (i : Nat) s1 k1, i < N → FS.Fr [pp] s s1 → Pen s1 pp c k1 → k1 = k + i * d → okR (te (ρ0.set j (some (.int (i : Int)))) s1) fun y s2 => A y ∧ FS.Fr [pp] s1 s2 ∧ Pen s2 pp c (k1 + d))
    (hQ : ∀ acc s', acc.length = N → (∀ y ∈ acc, A y) → s'[s.length]? = some (.lst acc) → FS.Fr [pp] s s' → Pen s' pp c (k + N * d) → Q s') :
    okC (compL (fun _ => true) (.nm j) tYesF te s.length ρ0 ((List.range N).map fun (i : Nat) => .int (i : Int)) (s ++ [.lst []])) Q := by
  have hpl := hpen.lt
  refine comp_ok (I := fun i acc s1 => s1[s.length]? = some (.lst acc) ∧ acc.length = i ∧ (∀ y ∈ acc, A y) ∧ FS.Fr [pp] s s1 ∧ Pen s1 pp c (k + i * d)) (i := 0) ⟨get_push, rfl, nofun, FS.Fr.push _, ?_⟩ (fun _ _ _ _ => rfl) (fun i x acc s1 hx hI => ?_) fun acc s1 hI => ?_
  · rw [Nat.zero_mul]
    exact hpen.fr (ps := []) (FS.Fr.push _) (by simp) (by simp)
  · rw [Nat.zero_add] at hI ⊢
    obtain ⟨g1, g2, g3, g4, g5⟩ := hI
    have hi : i < N := by
      have := (List.getElem?_eq_some_iff.mp hx).1
      simpa using this
    rw [List.getElem?_map, List.getElem?_range hi] at hx
    cases hx
    refine ⟨_, run_nm, ?_⟩
    rw [FS.tY, if_pos rfl]
    refine (hte i s1 _ hi g4 g5 rfl).mono fun y s2 ⟨q1, q2, q3⟩ => ?_
    have hn : s.length ∉ [pp] := by simp; omega
    have e2 := q2.get g1 hn
    refine ⟨e2, by rw [g2]; exact Nat.lt_of_lt_of_le hi (sL _ (by omega)), List.getElem?_set_self (get_lt e2), by simp [g2], fun z hz => ?_, (g4.trans q2).setr _ (.inr (Nat.le_refl _)), ?_⟩
    · rcases List.mem_append.mp hz with h | h
      · exact g3 z h
      · simp at h; subst h; exact q1
    · rw [show k + (i + 1) * d = k + i * d + d by rw [Nat.succ_mul]; omega]
      exact q3.fr (ps := [s.length]) (FS.Fr.set _ (.inl (by simp))) (by simp; omega) (by simp; omega)
  · obtain ⟨g1, g2, g3, g4, g5⟩ := hI
    simp only [List.length_map, List.length_range, Nat.zero_add] at g2 g5
    exact hQ acc s1 g2 g3 g1 g4 g5

theorem letters_ok {s : Sto} {p c k : Nat} {m : Nat} {Q : PV → Sto → Prop} (h : Pen s p c k) (hk : k ≤ 900000) (hm : m ≤ 1000)
    (hQ : ∀ n (xs : List Str) s', s'[n]? = some (.lst (xs.map .str)) → xs.length = m → (∀ x ∈ xs, asc 16 x) → s.length ≤ n → FS.Fr [p] s s' → Pen s' p c (k + 11) → Q (.obj n) s') : okR (G_law_some_letters [.obj p, .int (m : Int)] s) Q := by
  refine okR_fnF rfl ?_
  show okS ((_ : SF) [some (.obj p), some (.int (m : Int)), none, none, none, none, none] s) _ _ _ _
  rw [FS.w_seq, FS.w_set, FS.w_c, FS.w_seq, FS.w_set]
  simp only [FS.w_c, FS.w_bin, FS.w_un, FS.w_call, FS.w_callG, FS.w_nil, FS.w_cons, FS.w_tOfE, FS.w_bNot, FS.w_bAnd, FS.w_bOr, FS.w_if, FS.w_tup, FS.w_lst, FS.w_dict0, FS.w_oNone, FS.w_oSome, FS.w_sl, FS.w_mt, FS.w_iOf, FS.w_iItems, FS.w_iValues, FS.w_lc, FS.w_dc, FS.w_lc2, FS.w_var, FS.okR_ok, FS.okO_some, FS.okR_ite, FS.okO_ite, List.getElem?_cons_zero, List.getElem?_cons_succ, List.set_cons_zero, List.set_cons_succ, FS.i_add, FS.i_sub, FS.i_mul, FS.i_mod, FS.i_fdiv, FS.i_lt, FS.i_le, FS.i_gt, FS.i_ge, FS.i_neg, decide_eq_true_eq, if_true, if_false, Bool.false_eq_true, Int.reduceLT, Int.reduceLE, Int.reduceNeg, Int.reducePow, reduceIte, and_self, true_or, or_true, true_and, and_true, FS.tY, FS.r1x]
  rw [mt_str, if_pos rfl]
  refine take_ok h (by omega) (by decide) (by decide) fun r s1 hr0 hr1 f1 h1 => ⟨by omega, ?_⟩
  have hbig : ("abcdefghijklmnopqrstuvwxyz" : Str).length ≤ sizeLine := sL _ (by decide)
  have hal : ∀ q : Int, 0 ≤ q → q < 26 → ∃ ch, atI ("abcdefghijklmnopqrstuvwxyz" : Str).cps.toList q = some ch ∧ ch < 128 := fun q q0 q1 => by
    have hl : ("abcdefghijklmnopqrstuvwxyz" : Str).cps.toList.length = 26 := by decide
    obtain ⟨v, hv, hm⟩ := get_int (xs := ("abcdefghijklmnopqrstuvwxyz" : Str).cps.toList) q0 q1 (m := 26) (by omega)
    exact ⟨v, atI_int q0 hv, (by decide : ∀ c ∈ ("abcdefghijklmnopqrstuvwxyz" : Str).cps.toList, c < 128) v hm⟩
  have e1 : (r.toNat : Int) = r := Int.toNat_of_nonneg hr0
  refine draw (N := r.toNat) (A := fun y => ∃ x, y = .str x ∧ asc 1 x) (d := 1) (by omega) h1 (fun i s2 k2 hi f2 h2 hk2 => ?_) fun acc s3 ha1 ha2 ha3 f3 h3 => ?_
  · show okR (eBin ixF (eVar 2) (eCallG G_law_take (aCons (eVar 0) (aCons (eC (.int 26)) (aNil)))) [some (.obj p), some (.int (m : Int)), some (.str "abcdefghijklmnopqrstuvwxyz"), none, none, none, some (.int (i : Int))] s2) _
    simp only [FS.w_c, FS.w_bin, FS.w_un, FS.w_call, FS.w_callG, FS.w_nil, FS.w_cons, FS.w_tOfE, FS.w_bNot, FS.w_bAnd, FS.w_bOr, FS.w_if, FS.w_tup, FS.w_lst, FS.w_dict0, FS.w_oNone, FS.w_oSome, FS.w_sl, FS.w_mt, FS.w_iOf, FS.w_iItems, FS.w_iValues, FS.w_lc, FS.w_dc, FS.w_lc2, FS.w_var, FS.okR_ok, FS.okO_some, FS.okR_ite, FS.okO_ite, List.getElem?_cons_zero, List.getElem?_cons_succ, List.set_cons_zero, List.set_cons_succ, FS.i_add, FS.i_sub, FS.i_mul, FS.i_mod, FS.i_fdiv, FS.i_lt, FS.i_le, FS.i_gt, FS.i_ge, FS.i_neg, decide_eq_true_eq, if_true, if_false, Bool.false_eq_true, Int.reduceLT, Int.reduceLE, Int.reduceNeg, Int.reducePow, reduceIte, and_self, true_or, or_true, true_and, and_true, FS.tY, FS.r1x]
    refine take_ok h2 (by omega) (by decide) (by decide) fun q s4 q0 q1 f4 h4 => ?_
    obtain ⟨ch, ech, hch⟩ := hal q q0 q1
    rw [ix_str hbig ech]
    exact ⟨⟨_, rfl, asc_char hch⟩, f4, h4⟩
  · obtain ⟨xs, rfl, hxs⟩ := strs_of acc ha2
    have hs := sum_le (fun x hx => (hxs x hx).1)
    rw [List.length_map] at ha1
    have hz : ("" : Str).length = 0 := by decide
    rw [join_lst ha3 (by rw [hz]; omega)]
    have hstem : asc 7 (Txt.join "" xs) := (asc_join0 hxs).mono (by omega)
    generalize Txt.join "" xs = stem at hstem
    rw [FS.w_seq, FS.w_set]
    simp only [FS.w_c, FS.w_bin, FS.w_un, FS.w_call, FS.w_callG, FS.w_nil, FS.w_cons, FS.w_tOfE, FS.w_bNot, FS.w_bAnd, FS.w_bOr, FS.w_if, FS.w_tup, FS.w_lst, FS.w_dict0, FS.w_oNone, FS.w_oSome, FS.w_sl, FS.w_mt, FS.w_iOf, FS.w_iItems, FS.w_iValues, FS.w_lc, FS.w_dc, FS.w_lc2, FS.w_var, FS.okR_ok, FS.okO_some, FS.okR_ite, FS.okO_ite, List.getElem?_cons_zero, List.getElem?_cons_succ, List.set_cons_zero, List.set_cons_succ, FS.i_add, FS.i_sub, FS.i_mul, FS.i_mod, FS.i_fdiv, FS.i_lt, FS.i_le, FS.i_gt, FS.i_ge, FS.i_neg, decide_eq_true_eq, if_true, if_false, Bool.false_eq_true, Int.reduceLT, Int.reduceLE, Int.reduceNeg, Int.reducePow, reduceIte, and_self, true_or, or_true, true_and, and_true, FS.tY, FS.r1x]
    rw [len_str (Nat.le_trans hstem.1 (sL _ (by decide)))]
    simp only [FS.w_c, FS.w_bin, FS.w_un, FS.w_call, FS.w_callG, FS.w_nil, FS.w_cons, FS.w_tOfE, FS.w_bNot, FS.w_bAnd, FS.w_bOr, FS.w_if, FS.w_tup, FS.w_lst, FS.w_dict0, FS.w_oNone, FS.w_oSome, FS.w_sl, FS.w_mt, FS.w_iOf, FS.w_iItems, FS.w_iValues, FS.w_lc, FS.w_dc, FS.w_lc2, FS.w_var, FS.okR_ok, FS.okO_some, FS.okR_ite, FS.okO_ite, List.getElem?_cons_zero, List.getElem?_cons_succ, List.set_cons_zero, List.set_cons_succ, FS.i_add, FS.i_sub, FS.i_mul, FS.i_mod, FS.i_fdiv, FS.i_lt, FS.i_le, FS.i_gt, FS.i_ge, FS.i_neg, decide_eq_true_eq, if_true, if_false, Bool.false_eq_true, Int.reduceLT, Int.reduceLE, Int.reduceNeg, Int.reducePow, reduceIte, and_self, true_or, or_true, true_and, and_true, FS.tY, FS.r1x]
    refine take_ok h3 (by omega) (by have := hstem.1; omega) (by have := hstem.1; omega) fun at_ s4 a0 a1 f4 h4 => ?_
    rw [FS.w_seq, FS.w_set]
    simp only [FS.w_c, FS.w_bin, FS.w_un, FS.w_call, FS.w_callG, FS.w_nil, FS.w_cons, FS.w_tOfE, FS.w_bNot, FS.w_bAnd, FS.w_bOr, FS.w_if, FS.w_tup, FS.w_lst, FS.w_dict0, FS.w_oNone, FS.w_oSome, FS.w_sl, FS.w_mt, FS.w_iOf, FS.w_iItems, FS.w_iValues, FS.w_lc, FS.w_dc, FS.w_lc2, FS.w_var, FS.okR_ok, FS.okO_some, FS.okR_ite, FS.okO_ite, List.getElem?_cons_zero, List.getElem?_cons_succ, List.set_cons_zero, List.set_cons_succ, FS.i_add, FS.i_sub, FS.i_mul, FS.i_mod, FS.i_fdiv, FS.i_lt, FS.i_le, FS.i_gt, FS.i_ge, FS.i_neg, decide_eq_true_eq, if_true, if_false, Bool.false_eq_true, Int.reduceLT, Int.reduceLE, Int.reduceNeg, Int.reducePow, reduceIte, and_self, true_or, or_true, true_and, and_true, FS.tY, FS.r1x]
    refine take_ok h4 (by omega) (by decide) (by decide) fun first s5 b0 b1 f5 h5 => ?_
    rw [FS.w_seq, FS.w_sif]
    simp only [FS.w_c, FS.w_bin, FS.w_un, FS.w_call, FS.w_callG, FS.w_nil, FS.w_cons, FS.w_tOfE, FS.w_bNot, FS.w_bAnd, FS.w_bOr, FS.w_if, FS.w_tup, FS.w_lst, FS.w_dict0, FS.w_oNone, FS.w_oSome, FS.w_sl, FS.w_mt, FS.w_iOf, FS.w_iItems, FS.w_iValues, FS.w_lc, FS.w_dc, FS.w_lc2, FS.w_var, FS.okR_ok, FS.okO_some, FS.okR_ite, FS.okO_ite, List.getElem?_cons_zero, List.getElem?_cons_succ, List.set_cons_zero, List.set_cons_succ, FS.i_add, FS.i_sub, FS.i_mul, FS.i_mod, FS.i_fdiv, FS.i_lt, FS.i_le, FS.i_gt, FS.i_ge, FS.i_neg, decide_eq_true_eq, if_true, if_false, Bool.false_eq_true, Int.reduceLT, Int.reduceLE, Int.reduceNeg, Int.reducePow, reduceIte, and_self, true_or, or_true, true_and, and_true, FS.tY, FS.r1x]
    refine take_ok h5 (by omega) (by decide) (by decide) fun t s6 t0 t1 f6 h6 => ?_
    rw [i_eq]
    try dsimp only
    have f16 : FS.Fr [p] s s6 := (((f1.trans f3).trans f4).trans f5).trans f6
    have last : ∀ (te : XF), (∀ (i : Nat) s2 k2, i < m → Pen s2 p c k2 → okR (te [some (.obj p), some (.int (m : Int)), some (.str "abcdefghijklmnopqrstuvwxyz"), some (.str stem), some (.int at_), some (.int first), some (.int (i : Int))] s2) fun y s3 => (∃ x, y = .str x ∧ asc 16 x) ∧ FS.Fr [p] s2 s3 ∧ Pen s3 p c (k2 + 0)) →
        okR (eLc (iRange1 (aCons (eVar 1) (aNil))) (.nm 6) (tYesF) te [6] [some (.obj p), some (.int (m : Int)), some (.str "abcdefghijklmnopqrstuvwxyz"), some (.str stem), some (.int at_), some (.int first), none] s6) Q := fun te hte => by
      simp only [FS.w_c, FS.w_bin, FS.w_un, FS.w_call, FS.w_callG, FS.w_nil, FS.w_cons, FS.w_tOfE, FS.w_bNot, FS.w_bAnd, FS.w_bOr, FS.w_if, FS.w_tup, FS.w_lst, FS.w_dict0, FS.w_oNone, FS.w_oSome, FS.w_sl, FS.w_mt, FS.w_iOf, FS.w_iItems, FS.w_iValues, FS.w_lc, FS.w_dc, FS.w_lc2, FS.w_var, FS.okR_ok, FS.okO_some, FS.okR_ite, FS.okO_ite, List.getElem?_cons_zero, List.getElem?_cons_succ, List.set_cons_zero, List.set_cons_succ, FS.i_add, FS.i_sub, FS.i_mul, FS.i_mod, FS.i_fdiv, FS.i_lt, FS.i_le, FS.i_gt, FS.i_ge, FS.i_neg, decide_eq_true_eq, if_true, if_false, Bool.false_eq_true, Int.reduceLT, Int.reduceLE, Int.reduceNeg, Int.reducePow, reduceIte, and_self, true_or, or_true, true_and, and_true, FS.tY, FS.r1x]
      refine ⟨by omega, ?_⟩
      have e2 : (m : Int).toNat = m := Int.toNat_natCast m
      rw [e2]
      refine draw (N := m) (A := fun y => ∃ x, y = .str x ∧ asc 16 x) (d := 0) hm h6 (fun i s2 k2 hi f2 h2 hk2 => hte i s2 k2 hi h2) fun acc s7 c1 c2 c3 f7 h7 => ?_
      obtain ⟨ys, rfl, hys⟩ := strs_of acc c2
      rw [List.length_map] at c1
      exact hQ _ ys s7 c3 c1 hys f16.len (f16.trans f7) (h7.mono (by omega))
    have char : ∀ (i : Nat), ∃ ch, atI ("abcdefghijklmnopqrstuvwxyz" : Str).cps.toList ((first + 5 * (i : Int)) % 26) = some ch ∧ ch < 128 := fun i => hal _ (em0 _ (by decide)) (eml _ (by decide))
    split
    · rw [FS.w_ret]
      apply last
      intro i s2 k2 hi h2
      simp only [FS.w_c, FS.w_bin, FS.w_un, FS.w_call, FS.w_callG, FS.w_nil, FS.w_cons, FS.w_tOfE, FS.w_bNot, FS.w_bAnd, FS.w_bOr, FS.w_if, FS.w_tup, FS.w_lst, FS.w_dict0, FS.w_oNone, FS.w_oSome, FS.w_sl, FS.w_mt, FS.w_iOf, FS.w_iItems, FS.w_iValues, FS.w_lc, FS.w_dc, FS.w_lc2, FS.w_var, FS.okR_ok, FS.okO_some, FS.okR_ite, FS.okO_ite, List.getElem?_cons_zero, List.getElem?_cons_succ, List.set_cons_zero, List.set_cons_succ, FS.i_add, FS.i_sub, FS.i_mul, FS.i_mod, FS.i_fdiv, FS.i_lt, FS.i_le, FS.i_gt, FS.i_ge, FS.i_neg, decide_eq_true_eq, if_true, if_false, Bool.false_eq_true, Int.reduceLT, Int.reduceLE, Int.reduceNeg, Int.reducePow, reduceIte, and_self, true_or, or_true, true_and, and_true, FS.tY, FS.r1x]
      refine ⟨smL (by omega), ?_⟩
      obtain ⟨ch, ech, hch⟩ := char i
      rw [ix_str hbig ech]
      try simp only [FS.w_c, FS.w_bin, FS.w_un, FS.w_call, FS.w_callG, FS.w_nil, FS.w_cons, FS.w_tOfE, FS.w_bNot, FS.w_bAnd, FS.w_bOr, FS.w_if, FS.w_tup, FS.w_lst, FS.w_dict0, FS.w_oNone, FS.w_oSome, FS.w_sl, FS.w_mt, FS.w_iOf, FS.w_iItems, FS.w_iValues, FS.w_lc, FS.w_dc, FS.w_lc2, FS.w_var, FS.okR_ok, FS.okO_some, FS.okR_ite, FS.okO_ite, List.getElem?_cons_zero, List.getElem?_cons_succ, List.set_cons_zero, List.set_cons_succ, FS.i_add, FS.i_sub, FS.i_mul, FS.i_mod, FS.i_fdiv, FS.i_lt, FS.i_le, FS.i_gt, FS.i_ge, FS.i_neg, decide_eq_true_eq, if_true, if_false, Bool.false_eq_true, Int.reduceLT, Int.reduceLE, Int.reduceNeg, Int.reducePow, reduceIte, and_self, true_or, or_true, true_and, and_true, FS.tY, FS.r1x]
      refine ⟨smL (by omega), ?_⟩
      have g0 := em0 (at_ + 3 * (i : Int)) (b := 8) (by decide)
      have g1 := eml (at_ + 3 * (i : Int)) (b := 8) (by decide)
      rw [mul_str (a := ⟨#[ch]⟩) (Nat.le_trans (show 1 ≤ 16 by decide) (Nat.le_refl _)) (by omega) (by omega)]
      exact ⟨⟨_, rfl, (asc_mul (asc_char hch) (m := 8) (by omega) (by decide)).mono (by decide)⟩, FS.Fr.refl _ _, h2⟩
    · rw [FS.w_next, FS.w_seq, FS.w_ret]
      apply last
      intro i s2 k2 hi h2
      simp only [FS.w_c, FS.w_bin, FS.w_un, FS.w_call, FS.w_callG, FS.w_nil, FS.w_cons, FS.w_tOfE, FS.w_bNot, FS.w_bAnd, FS.w_bOr, FS.w_if, FS.w_tup, FS.w_lst, FS.w_dict0, FS.w_oNone, FS.w_oSome, FS.w_sl, FS.w_mt, FS.w_iOf, FS.w_iItems, FS.w_iValues, FS.w_lc, FS.w_dc, FS.w_lc2, FS.w_var, FS.okR_ok, FS.okO_some, FS.okR_ite, FS.okO_ite, List.getElem?_cons_zero, List.getElem?_cons_succ, List.set_cons_zero, List.set_cons_succ, FS.i_add, FS.i_sub, FS.i_mul, FS.i_mod, FS.i_fdiv, FS.i_lt, FS.i_le, FS.i_gt, FS.i_ge, FS.i_neg, decide_eq_true_eq, if_true, if_false, Bool.false_eq_true, Int.reduceLT, Int.reduceLE, Int.reduceNeg, Int.reducePow, reduceIte, and_self, true_or, or_true, true_and, and_true, FS.tY, FS.r1x]
      rw [sl_str (Nat.le_trans hstem.1 (sL _ (by decide)))]
      try simp only [FS.w_c, FS.w_bin, FS.w_un, FS.w_call, FS.w_callG, FS.w_nil, FS.w_cons, FS.w_tOfE, FS.w_bNot, FS.w_bAnd, FS.w_bOr, FS.w_if, FS.w_tup, FS.w_lst, FS.w_dict0, FS.w_oNone, FS.w_oSome, FS.w_sl, FS.w_mt, FS.w_iOf, FS.w_iItems, FS.w_iValues, FS.w_lc, FS.w_dc, FS.w_lc2, FS.w_var, FS.okR_ok, FS.okO_some, FS.okR_ite, FS.okO_ite, List.getElem?_cons_zero, List.getElem?_cons_succ, List.set_cons_zero, List.set_cons_succ, FS.i_add, FS.i_sub, FS.i_mul, FS.i_mod, FS.i_fdiv, FS.i_lt, FS.i_le, FS.i_gt, FS.i_ge, FS.i_neg, decide_eq_true_eq, if_true, if_false, Bool.false_eq_true, Int.reduceLT, Int.reduceLE, Int.reduceNeg, Int.reducePow, reduceIte, and_self, true_or, or_true, true_and, and_true, FS.tY, FS.r1x]
      refine ⟨smL (by omega), ?_⟩
      obtain ⟨ch, ech, hch⟩ := char i
      rw [ix_str hbig ech]
      have l1 := asc_cut hstem none (some at_)
      have l2 := asc_append l1 (asc_char hch)
      rw [add_str (by have a1 := l1.1; have a2 := (asc_char hch).1; rw [sizeLine_eq]; omega)]
      rw [sl_str (Nat.le_trans hstem.1 (sL _ (by decide)))]
      have l3 := asc_cut hstem (some at_) none
      rw [add_str (by have a1 := l2.1; have a2 := l3.1; rw [sizeLine_eq]; omega)]
      exact ⟨⟨_, rfl, (asc_append l2 l3).mono (by decide)⟩, FS.Fr.refl _ _, h2⟩

theorem names_ok {s : Sto} {p c k : Nat} {m : Nat} {Q : PV → Sto → Prop} (h : Pen s p c k) (hk : k ≤ 900000) (hm : m ≤ 1000)
    (hQ : ∀ n (xs : List Str) s', s'[n]? = some (.lst (xs.map .str)) → xs.length = m → (∀ x ∈ xs, asc 16 x) → s.length ≤ n → FS.Fr [p] s s' → Pen s' p c (k + 11) → Q (.obj n) s') : okR (G_law_some_names [.obj p, .int (m : Int)] s) Q := by
  refine okR_fnF rfl ?_
  show okS ((_ : SF) [some (.obj p), some (.int (m : Int)), none, none, none, none, none] s) _ _ _ _
  rw [FS.w_seq, FS.w_set, FS.w_c, FS.w_seq, FS.w_set]
  simp only [FS.w_c, FS.w_bin, FS.w_un, FS.w_call, FS.w_callG, FS.w_nil, FS.w_cons, FS.w_tOfE, FS.w_bNot, FS.w_bAnd, FS.w_bOr, FS.w_if, FS.w_tup, FS.w_lst, FS.w_dict0, FS.w_oNone, FS.w_oSome, FS.w_sl, FS.w_mt, FS.w_iOf, FS.w_iItems, FS.w_iValues, FS.w_lc, FS.w_dc, FS.w_lc2, FS.w_var, FS.okR_ok, FS.okO_some, FS.okR_ite, FS.okO_ite, List.getElem?_cons_zero, List.getElem?_cons_succ, List.set_cons_zero, List.set_cons_succ, FS.i_add, FS.i_sub, FS.i_mul, FS.i_mod, FS.i_fdiv, FS.i_lt, FS.i_le, FS.i_gt, FS.i_ge, FS.i_neg, decide_eq_true_eq, if_true, if_false, Bool.false_eq_true, Int.reduceLT, Int.reduceLE, Int.reduceNeg, Int.reducePow, reduceIte, and_self, true_or, or_true, true_and, and_true, FS.tY, FS.r1x]
  rw [mt_str, if_pos rfl]
  refine take_ok h (by omega) (by decide) (by decide) fun r s1 hr0 hr1 f1 h1 => ⟨by omega, ?_⟩
  have hbig : ("ABCDEFGHIJKLMNOPQRSTUVWXYZ" : Str).length ≤ sizeLine := sL _ (by decide)
  have hal : ∀ q : Int, 0 ≤ q → q < 26 → ∃ ch, atI ("ABCDEFGHIJKLMNOPQRSTUVWXYZ" : Str).cps.toList q = some ch ∧ ch < 128 := fun q q0 q1 => by
    have hl : ("ABCDEFGHIJKLMNOPQRSTUVWXYZ" : Str).cps.toList.length = 26 := by decide
    obtain ⟨v, hv, hm⟩ := get_int (xs := ("ABCDEFGHIJKLMNOPQRSTUVWXYZ" : Str).cps.toList) q0 q1 (m := 26) (by omega)
    exact ⟨v, atI_int q0 hv, (by decide : ∀ c ∈ ("ABCDEFGHIJKLMNOPQRSTUVWXYZ" : Str).cps.toList, c < 128) v hm⟩
  have e1 : (r.toNat : Int) = r := Int.toNat_of_nonneg hr0
  refine draw (N := r.toNat) (A := fun y => ∃ x, y = .str x ∧ asc 1 x) (d := 1) (by omega) h1 (fun i s2 k2 hi f2 h2 hk2 => ?_) fun acc s3 ha1 ha2 ha3 f3 h3 => ?_
  · show okR (eBin ixF (eVar 2) (eCallG G_law_take (aCons (eVar 0) (aCons (eC (.int 26)) (aNil)))) [some (.obj p), some (.int (m : Int)), some (.str "ABCDEFGHIJKLMNOPQRSTUVWXYZ"), none, none, none, some (.int (i : Int))] s2) _
    simp only [FS.w_c, FS.w_bin, FS.w_un, FS.w_call, FS.w_callG, FS.w_nil, FS.w_cons, FS.w_tOfE, FS.w_bNot, FS.w_bAnd, FS.w_bOr, FS.w_if, FS.w_tup, FS.w_lst, FS.w_dict0, FS.w_oNone, FS.w_oSome, FS.w_sl, FS.w_mt, FS.w_iOf, FS.w_iItems, FS.w_iValues, FS.w_lc, FS.w_dc, FS.w_lc2, FS.w_var, FS.okR_ok, FS.okO_some, FS.okR_ite, FS.okO_ite, List.getElem?_cons_zero, List.getElem?_cons_succ, List.set_cons_zero, List.set_cons_succ, FS.i_add, FS.i_sub, FS.i_mul, FS.i_mod, FS.i_fdiv, FS.i_lt, FS.i_le, FS.i_gt, FS.i_ge, FS.i_neg, decide_eq_true_eq, if_true, if_false, Bool.false_eq_true, Int.reduceLT, Int.reduceLE, Int.reduceNeg, Int.reducePow, reduceIte, and_self, true_or, or_true, true_and, and_true, FS.tY, FS.r1x]
    refine take_ok h2 (by omega) (by decide) (by decide) fun q s4 q0 q1 f4 h4 => ?_
    obtain ⟨ch, ech, hch⟩ := hal q q0 q1
    rw [ix_str hbig ech]
    exact ⟨⟨_, rfl, asc_char hch⟩, f4, h4⟩
  · obtain ⟨xs, rfl, hxs⟩ := strs_of acc ha2
    have hs := sum_le (fun x hx => (hxs x hx).1)
    rw [List.length_map] at ha1
    have hz : ("" : Str).length = 0 := by decide
    rw [join_lst ha3 (by rw [hz]; omega)]
    have hstem : asc 7 (Txt.join "" xs) := (asc_join0 hxs).mono (by omega)
    generalize Txt.join "" xs = stem at hstem
    rw [FS.w_seq, FS.w_set]
    simp only [FS.w_c, FS.w_bin, FS.w_un, FS.w_call, FS.w_callG, FS.w_nil, FS.w_cons, FS.w_tOfE, FS.w_bNot, FS.w_bAnd, FS.w_bOr, FS.w_if, FS.w_tup, FS.w_lst, FS.w_dict0, FS.w_oNone, FS.w_oSome, FS.w_sl, FS.w_mt, FS.w_iOf, FS.w_iItems, FS.w_iValues, FS.w_lc, FS.w_dc, FS.w_lc2, FS.w_var, FS.okR_ok, FS.okO_some, FS.okR_ite, FS.okO_ite, List.getElem?_cons_zero, List.getElem?_cons_succ, List.set_cons_zero, List.set_cons_succ, FS.i_add, FS.i_sub, FS.i_mul, FS.i_mod, FS.i_fdiv, FS.i_lt, FS.i_le, FS.i_gt, FS.i_ge, FS.i_neg, decide_eq_true_eq, if_true, if_false, Bool.false_eq_true, Int.reduceLT, Int.reduceLE, Int.reduceNeg, Int.reducePow, reduceIte, and_self, true_or, or_true, true_and, and_true, FS.tY, FS.r1x]
    rw [len_str (Nat.le_trans hstem.1 (sL _ (by decide)))]
    simp only [FS.w_c, FS.w_bin, FS.w_un, FS.w_call, FS.w_callG, FS.w_nil, FS.w_cons, FS.w_tOfE, FS.w_bNot, FS.w_bAnd, FS.w_bOr, FS.w_if, FS.w_tup, FS.w_lst, FS.w_dict0, FS.w_oNone, FS.w_oSome, FS.w_sl, FS.w_mt, FS.w_iOf, FS.w_iItems, FS.w_iValues, FS.w_lc, FS.w_dc, FS.w_lc2, FS.w_var, FS.okR_ok, FS.okO_some, FS.okR_ite, FS.okO_ite, List.getElem?_cons_zero, List.getElem?_cons_succ, List.set_cons_zero, List.set_cons_succ, FS.i_add, FS.i_sub, FS.i_mul, FS.i_mod, FS.i_fdiv, FS.i_lt, FS.i_le, FS.i_gt, FS.i_ge, FS.i_neg, decide_eq_true_eq, if_true, if_false, Bool.false_eq_true, Int.reduceLT, Int.reduceLE, Int.reduceNeg, Int.reducePow, reduceIte, and_self, true_or, or_true, true_and, and_true, FS.tY, FS.r1x]
    refine take_ok h3 (by omega) (by have := hstem.1; omega) (by have := hstem.1; omega) fun at_ s4 a0 a1 f4 h4 => ?_
    rw [FS.w_seq, FS.w_set]
    simp only [FS.w_c, FS.w_bin, FS.w_un, FS.w_call, FS.w_callG, FS.w_nil, FS.w_cons, FS.w_tOfE, FS.w_bNot, FS.w_bAnd, FS.w_bOr, FS.w_if, FS.w_tup, FS.w_lst, FS.w_dict0, FS.w_oNone, FS.w_oSome, FS.w_sl, FS.w_mt, FS.w_iOf, FS.w_iItems, FS.w_iValues, FS.w_lc, FS.w_dc, FS.w_lc2, FS.w_var, FS.okR_ok, FS.okO_some, FS.okR_ite, FS.okO_ite, List.getElem?_cons_zero, List.getElem?_cons_succ, List.set_cons_zero, List.set_cons_succ, FS.i_add, FS.i_sub, FS.i_mul, FS.i_mod, FS.i_fdiv, FS.i_lt, FS.i_le, FS.i_gt, FS.i_ge, FS.i_neg, decide_eq_true_eq, if_true, if_false, Bool.false_eq_true, Int.reduceLT, Int.reduceLE, Int.reduceNeg, Int.reducePow, reduceIte, and_self, true_or, or_true, true_and, and_true, FS.tY, FS.r1x]
    refine take_ok h4 (by omega) (by decide) (by decide) fun first s5 b0 b1 f5 h5 => ?_
    rw [FS.w_seq, FS.w_sif]
    simp only [FS.w_c, FS.w_bin, FS.w_un, FS.w_call, FS.w_callG, FS.w_nil, FS.w_cons, FS.w_tOfE, FS.w_bNot, FS.w_bAnd, FS.w_bOr, FS.w_if, FS.w_tup, FS.w_lst, FS.w_dict0, FS.w_oNone, FS.w_oSome, FS.w_sl, FS.w_mt, FS.w_iOf, FS.w_iItems, FS.w_iValues, FS.w_lc, FS.w_dc, FS.w_lc2, FS.w_var, FS.okR_ok, FS.okO_some, FS.okR_ite, FS.okO_ite, List.getElem?_cons_zero, List.getElem?_cons_succ, List.set_cons_zero, List.set_cons_succ, FS.i_add, FS.i_sub, FS.i_mul, FS.i_mod, FS.i_fdiv, FS.i_lt, FS.i_le, FS.i_gt, FS.i_ge, FS.i_neg, decide_eq_true_eq, if_true, if_false, Bool.false_eq_true, Int.reduceLT, Int.reduceLE, Int.reduceNeg, Int.reducePow, reduceIte, and_self, true_or, or_true, true_and, and_true, FS.tY, FS.r1x]
    refine take_ok h5 (by omega) (by decide) (by decide) fun t s6 t0 t1 f6 h6 => ?_
    rw [i_eq]
    try dsimp only
    have f16 : FS.Fr [p] s s6 := (((f1.trans f3).trans f4).trans f5).trans f6
    have last : ∀ (te : XF), (∀ (i : Nat) s2 k2, i < m → Pen s2 p c k2 → okR (te [some (.obj p), some (.int (m : Int)), some (.str "ABCDEFGHIJKLMNOPQRSTUVWXYZ"), some (.str stem), some (.int at_), some (.int first), some (.int (i : Int))] s2) fun y s3 => (∃ x, y = .str x ∧ asc 16 x) ∧ FS.Fr [p] s2 s3 ∧ Pen s3 p c (k2 + 0)) →
        okR (eLc (iRange1 (aCons (eVar 1) (aNil))) (.nm 6) (tYesF) te [6] [some (.obj p), some (.int (m : Int)), some (.str "ABCDEFGHIJKLMNOPQRSTUVWXYZ"), some (.str stem), some (.int at_), some (.int first), none] s6) Q := fun te hte => by
      simp only [FS.w_c, FS.w_bin, FS.w_un, FS.w_call, FS.w_callG, FS.w_nil, FS.w_cons, FS.w_tOfE, FS.w_bNot, FS.w_bAnd, FS.w_bOr, FS.w_if, FS.w_tup, FS.w_lst, FS.w_dict0, FS.w_oNone, FS.w_oSome, FS.w_sl, FS.w_mt, FS.w_iOf, FS.w_iItems, FS.w_iValues, FS.w_lc, FS.w_dc, FS.w_lc2, FS.w_var, FS.okR_ok, FS.okO_some, FS.okR_ite, FS.okO_ite, List.getElem?_cons_zero, List.getElem?_cons_succ, List.set_cons_zero, List.set_cons_succ, FS.i_add, FS.i_sub, FS.i_mul, FS.i_mod, FS.i_fdiv, FS.i_lt, FS.i_le, FS.i_gt, FS.i_ge, FS.i_neg, decide_eq_true_eq, if_true, if_false, Bool.false_eq_true, Int.reduceLT, Int.reduceLE, Int.reduceNeg, Int.reducePow, reduceIte, and_self, true_or, or_true, true_and, and_true, FS.tY, FS.r1x]
      refine ⟨by omega, ?_⟩
      have e2 : (m : Int).toNat = m := Int.toNat_natCast m
      rw [e2]
      refine draw (N := m) (A := fun y => ∃ x, y = .str x ∧ asc 16 x) (d := 0) hm h6 (fun i s2 k2 hi f2 h2 hk2 => hte i s2 k2 hi h2) fun acc s7 c1 c2 c3 f7 h7 => ?_
      obtain ⟨ys, rfl, hys⟩ := strs_of acc c2
      rw [List.length_map] at c1
      exact hQ _ ys s7 c3 c1 hys f16.len (f16.trans f7) (h7.mono (by omega))
    have char : ∀ (i : Nat), ∃ ch, atI ("ABCDEFGHIJKLMNOPQRSTUVWXYZ" : Str).cps.toList ((first + 7 * (i : Int)) % 26) = some ch ∧ ch < 128 := fun i => hal _ (em0 _ (by decide)) (eml _ (by decide))
    split
    · rw [FS.w_ret]
      apply last
      intro i s2 k2 hi h2
      simp only [FS.w_c, FS.w_bin, FS.w_un, FS.w_call, FS.w_callG, FS.w_nil, FS.w_cons, FS.w_tOfE, FS.w_bNot, FS.w_bAnd, FS.w_bOr, FS.w_if, FS.w_tup, FS.w_lst, FS.w_dict0, FS.w_oNone, FS.w_oSome, FS.w_sl, FS.w_mt, FS.w_iOf, FS.w_iItems, FS.w_iValues, FS.w_lc, FS.w_dc, FS.w_lc2, FS.w_var, FS.okR_ok, FS.okO_some, FS.okR_ite, FS.okO_ite, List.getElem?_cons_zero, List.getElem?_cons_succ, List.set_cons_zero, List.set_cons_succ, FS.i_add, FS.i_sub, FS.i_mul, FS.i_mod, FS.i_fdiv, FS.i_lt, FS.i_le, FS.i_gt, FS.i_ge, FS.i_neg, decide_eq_true_eq, if_true, if_false, Bool.false_eq_true, Int.reduceLT, Int.reduceLE, Int.reduceNeg, Int.reducePow, reduceIte, and_self, true_or, or_true, true_and, and_true, FS.tY, FS.r1x]
      refine ⟨smL (by omega), ?_⟩
      obtain ⟨ch, ech, hch⟩ := char i
      rw [ix_str hbig ech]
      try simp only [FS.w_c, FS.w_bin, FS.w_un, FS.w_call, FS.w_callG, FS.w_nil, FS.w_cons, FS.w_tOfE, FS.w_bNot, FS.w_bAnd, FS.w_bOr, FS.w_if, FS.w_tup, FS.w_lst, FS.w_dict0, FS.w_oNone, FS.w_oSome, FS.w_sl, FS.w_mt, FS.w_iOf, FS.w_iItems, FS.w_iValues, FS.w_lc, FS.w_dc, FS.w_lc2, FS.w_var, FS.okR_ok, FS.okO_some, FS.okR_ite, FS.okO_ite, List.getElem?_cons_zero, List.getElem?_cons_succ, List.set_cons_zero, List.set_cons_succ, FS.i_add, FS.i_sub, FS.i_mul, FS.i_mod, FS.i_fdiv, FS.i_lt, FS.i_le, FS.i_gt, FS.i_ge, FS.i_neg, decide_eq_true_eq, if_true, if_false, Bool.false_eq_true, Int.reduceLT, Int.reduceLE, Int.reduceNeg, Int.reducePow, reduceIte, and_self, true_or, or_true, true_and, and_true, FS.tY, FS.r1x]
      refine ⟨smL (by omega), ?_⟩
      have g0 := em0 (at_ + 3 * (i : Int)) (b := 8) (by decide)
      have g1 := eml (at_ + 3 * (i : Int)) (b := 8) (by decide)
      rw [mul_str (a := ⟨#[ch]⟩) (Nat.le_trans (show 1 ≤ 16 by decide) (Nat.le_refl _)) (by omega) (by omega)]
      exact ⟨⟨_, rfl, (asc_mul (asc_char hch) (m := 8) (by omega) (by decide)).mono (by decide)⟩, FS.Fr.refl _ _, h2⟩
    · rw [FS.w_next, FS.w_seq, FS.w_ret]
      apply last
      intro i s2 k2 hi h2
      simp only [FS.w_c, FS.w_bin, FS.w_un, FS.w_call, FS.w_callG, FS.w_nil, FS.w_cons, FS.w_tOfE, FS.w_bNot, FS.w_bAnd, FS.w_bOr, FS.w_if, FS.w_tup, FS.w_lst, FS.w_dict0, FS.w_oNone, FS.w_oSome, FS.w_sl, FS.w_mt, FS.w_iOf, FS.w_iItems, FS.w_iValues, FS.w_lc, FS.w_dc, FS.w_lc2, FS.w_var, FS.okR_ok, FS.okO_some, FS.okR_ite, FS.okO_ite, List.getElem?_cons_zero, List.getElem?_cons_succ, List.set_cons_zero, List.set_cons_succ, FS.i_add, FS.i_sub, FS.i_mul, FS.i_mod, FS.i_fdiv, FS.i_lt, FS.i_le, FS.i_gt, FS.i_ge, FS.i_neg, decide_eq_true_eq, if_true, if_false, Bool.false_eq_true, Int.reduceLT, Int.reduceLE, Int.reduceNeg, Int.reducePow, reduceIte, and_self, true_or, or_true, true_and, and_true, FS.tY, FS.r1x]
      rw [sl_str (Nat.le_trans hstem.1 (sL _ (by decide)))]
      try simp only [FS.w_c, FS.w_bin, FS.w_un, FS.w_call, FS.w_callG, FS.w_nil, FS.w_cons, FS.w_tOfE, FS.w_bNot, FS.w_bAnd, FS.w_bOr, FS.w_if, FS.w_tup, FS.w_lst, FS.w_dict0, FS.w_oNone, FS.w_oSome, FS.w_sl, FS.w_mt, FS.w_iOf, FS.w_iItems, FS.w_iValues, FS.w_lc, FS.w_dc, FS.w_lc2, FS.w_var, FS.okR_ok, FS.okO_some, FS.okR_ite, FS.okO_ite, List.getElem?_cons_zero, List.getElem?_cons_succ, List.set_cons_zero, List.set_cons_succ, FS.i_add, FS.i_sub, FS.i_mul, FS.i_mod, FS.i_fdiv, FS.i_lt, FS.i_le, FS.i_gt, FS.i_ge, FS.i_neg, decide_eq_true_eq, if_true, if_false, Bool.false_eq_true, Int.reduceLT, Int.reduceLE, Int.reduceNeg, Int.reducePow, reduceIte, and_self, true_or, or_true, true_and, and_true, FS.tY, FS.r1x]
      refine ⟨smL (by omega), ?_⟩
      obtain ⟨ch, ech, hch⟩ := char i
      rw [ix_str hbig ech]
      have l1 := asc_cut hstem none (some at_)
      have l2 := asc_append l1 (asc_char hch)
      rw [add_str (by have a1 := l1.1; have a2 := (asc_char hch).1; rw [sizeLine_eq]; omega)]
      rw [sl_str (Nat.le_trans hstem.1 (sL _ (by decide)))]
      have l3 := asc_cut hstem (some at_) none
      rw [add_str (by have a1 := l2.1; have a2 := l3.1; rw [sizeLine_eq]; omega)]
      exact ⟨⟨_, rfl, (asc_append l2 l3).mono (by decide)⟩, FS.Fr.refl _ _, h2⟩

theorem pick_ok {s : Sto} {p c k n : Nat} {xs : List PV} {Q : PV → Sto → Prop} (h : Pen s p c k) (hk : k ≤ 900000) (hn : s[n]? = some (.lst xs)) (hl : 0 < xs.length) (hl2 : xs.length ≤ 1000) (hne : n ≠ p)
    (hQ : ∀ x s', x ∈ xs → FS.Fr [p] s s' → Pen s' p c (k + 1) → Q x s') : okR (G_law_pick [.obj p, .obj n] s) Q := by
  refine okR_fnF rfl ?_
  show okS ((_ : SF) [some (.obj p), some (.obj n)] s) _ _ _ _
  rw [FS.w_ret]
  simp only [FS.w_c, FS.w_bin, FS.w_un, FS.w_call, FS.w_callG, FS.w_nil, FS.w_cons, FS.w_tOfE, FS.w_bNot, FS.w_bAnd, FS.w_bOr, FS.w_if, FS.w_tup, FS.w_lst, FS.w_dict0, FS.w_oNone, FS.w_oSome, FS.w_sl, FS.w_mt, FS.w_iOf, FS.w_iItems, FS.w_iValues, FS.w_lc, FS.w_dc, FS.w_lc2, FS.w_var, FS.okR_ok, FS.okO_some, FS.okR_ite, FS.okO_ite, List.getElem?_cons_zero, List.getElem?_cons_succ, List.set_cons_zero, List.set_cons_succ, FS.i_add, FS.i_sub, FS.i_mul, FS.i_mod, FS.i_fdiv, FS.i_lt, FS.i_le, FS.i_gt, FS.i_ge, FS.i_neg, decide_eq_true_eq, if_true, if_false, Bool.false_eq_true, Int.reduceLT, Int.reduceLE, Int.reduceNeg, Int.reducePow, reduceIte, and_self, true_or, or_true, true_and, and_true, FS.tY, FS.r1x]
  rw [len_lst hn]
  refine take_ok h (by omega) (by omega) (by omega) fun r s1 r0 r1 f1 h1 => ?_
  obtain ⟨v, hv, hm⟩ := get_int (xs := xs) r0 r1 (Nat.le_refl _)
  rw [ix_lst (f1.get hn (by simpa using hne)) (atI_int r0 hv)]
  exact hQ v s1 hm f1 h1
theorem sl_lstF {s : Sto} {n : Nat} {xs : List PV} {lo hi : Option Int} {P : PV → Sto → Prop} (h : s[n]? = some (.frz (.lst xs)) ∨ s[n]? = some (.lst xs)) : okO (slF s (.obj n) lo hi) P = P (.obj s.length) (s ++ [.lst (cutP xs lo hi)]) := by
  rcases h with h | h <;> simp [slF, lstOf, h, okO]
theorem list_lst {s : Sto} {n : Nat} {xs : List PV} {P : PV → Sto → Prop} (h : s[n]? = some (.lst xs)) : okO (listF s [.obj n]) P = P (.obj s.length) (s ++ [.lst xs]) := by
  simp [listF, dctOf, seqOf, h, okO]
theorem cutP_ints (ns : List Int) (lo hi : Option Int) : ∃ ms : List Int, cutP (ns.map .int) lo hi = ms.map .int ∧ ms.length = HT.sIx ns.length ns.length hi - HT.sIx ns.length 0 lo := by
  refine ⟨(ns.drop (HT.sIx ns.length 0 lo)).take (HT.sIx ns.length ns.length hi - HT.sIx ns.length 0 lo), ?_, ?_⟩
  · unfold cutP
    rw [List.length_map, List.map_take, List.map_drop]
  · have h1 := HT.sIx_le ns.length ns.length (Nat.le_refl _) hi
    rw [List.length_take, List.length_drop]
    omega
theorem i_enum {ρ : FS.Env} {s : Sto} {g : FS.Env → Sto → R (List PV)} {PI : ItD → Sto → Prop} : okR (iEnumL g ρ s) PI = okR (g ρ s) fun vs s1 => match vs with
    | [v] => ∃ xs, lstOf s1 v = some xs ∧ PI ⟨(List.range xs.length).map fun (i : Nat) => .tup [.int (i : Int), xs.getD i .non], fun s' => decide (lstOf s' v = some xs)⟩ s1
    | _ => False := by
  unfold iEnumL; rw [okR_bind]; congr; funext vs s1
  refine propext ⟨fun h => ?_, fun h => ?_⟩
  · split at h
    · split at h
      · rename_i xs e
        rw [FS.okR_ok] at h
        exact ⟨xs, e, h⟩
      · unfold FS.okR at h; exact h.elim
    · unfold FS.okR at h; exact h.elim
  · split at h
    · obtain ⟨xs, e, q⟩ := h
      try dsimp only
      rw [e]
      try dsimp only
      rw [FS.okR_ok]
      exact q
    · exact h.elim
theorem open_ok {ns : List Int} {Q : PV → Sto → Prop} (hQ : ∀ p c s', Pen s' p c 0 → Q (.obj p) s') : okR (G_law_open [.obj 0] [.frz (.lst (ns.map .int))]) Q := by
  refine okR_fnF rfl ?_
  show okS ((_ : SF) [some (.obj 0), none, none, none] [.frz (.lst (ns.map .int))]) _ _ _ _
  rw [FS.w_seq, FS.w_set]
  simp only [FS.w_c, FS.w_bin, FS.w_un, FS.w_call, FS.w_callG, FS.w_nil, FS.w_cons, FS.w_tOfE, FS.w_bNot, FS.w_bAnd, FS.w_bOr, FS.w_if, FS.w_tup, FS.w_lst, FS.w_dict0, FS.w_oNone, FS.w_oSome, FS.w_sl, FS.w_mt, FS.w_iOf, FS.w_iItems, FS.w_iValues, FS.w_lc, FS.w_dc, FS.w_lc2, FS.w_var, FS.okR_ok, FS.okO_some, FS.okR_ite, FS.okO_ite, List.getElem?_cons_zero, List.getElem?_cons_succ, List.set_cons_zero, List.set_cons_succ, FS.i_add, FS.i_sub, FS.i_mul, FS.i_mod, FS.i_fdiv, FS.i_lt, FS.i_le, FS.i_gt, FS.i_ge, FS.i_neg, decide_eq_true_eq, if_true, if_false, Bool.false_eq_true, Int.reduceLT, Int.reduceLE, Int.reduceNeg, Int.reducePow, reduceIte, and_self, true_or, or_true, true_and, and_true, FS.tY, FS.r1x]
  have h0 : ([.frz (.lst (ns.map .int))] : Sto)[0]? = some (.frz (.lst (ns.map .int))) := rfl
  generalize ([.frz (.lst (ns.map .int))] : Sto) = s at h0 ⊢
  have l0 := get_lt h0
  rw [sl_lstF (.inl h0)]
  obtain ⟨ms, e1, l1⟩ := cutP_ints ns none (some 12)
  obtain ⟨rs, e2, l2⟩ := cutP_ints ns (some 12) (some 63)
  rw [e1, list_lst get_push]
  have g0 : (s ++ [SO.lst (ms.map .int)] ++ [SO.lst (ms.map .int)])[0]? = some (.frz (.lst (ns.map .int))) := get_pushl (get_pushl h0)
  have gc : (s ++ [SO.lst (ms.map .int)] ++ [SO.lst (ms.map .int)])[s.length + 1]? = some (.lst (ms.map .int)) := by
    have := get_push (s := s ++ [SO.lst (ms.map .int)]) (o := SO.lst (ms.map .int))
    simpa using this
  have elen : (s ++ [SO.lst (ms.map PV.int)]).length = s.length + 1 := by simp
  rw [elen]
  generalize hs1 : s ++ [SO.lst (ms.map PV.int)] ++ [SO.lst (ms.map PV.int)] = s1 at g0 gc ⊢
  have c12 : HT.sIx ns.length 0 none = 0 := rfl
  have c12b : HT.sIx ns.length ns.length (some 12) = min 12 ns.length := rfl
  have c12c : HT.sIx ns.length 0 (some 12) = min 12 ns.length := rfl
  have c63 : HT.sIx ns.length ns.length (some 63) = min 63 ns.length := rfl
  rw [c12, c12b] at l1
  rw [c12c, c63] at l2
  rw [FS.w_seq, FS.w_for, i_enum]
  simp only [FS.w_c, FS.w_bin, FS.w_un, FS.w_call, FS.w_callG, FS.w_nil, FS.w_cons, FS.w_tOfE, FS.w_bNot, FS.w_bAnd, FS.w_bOr, FS.w_if, FS.w_tup, FS.w_lst, FS.w_dict0, FS.w_oNone, FS.w_oSome, FS.w_sl, FS.w_mt, FS.w_iOf, FS.w_iItems, FS.w_iValues, FS.w_lc, FS.w_dc, FS.w_lc2, FS.w_var, FS.okR_ok, FS.okO_some, FS.okR_ite, FS.okO_ite, List.getElem?_cons_zero, List.getElem?_cons_succ, List.set_cons_zero, List.set_cons_succ, FS.i_add, FS.i_sub, FS.i_mul, FS.i_mod, FS.i_fdiv, FS.i_lt, FS.i_le, FS.i_gt, FS.i_ge, FS.i_neg, decide_eq_true_eq, if_true, if_false, Bool.false_eq_true, Int.reduceLT, Int.reduceLE, Int.reduceNeg, Int.reducePow, reduceIte, and_self, true_or, or_true, true_and, and_true, FS.tY, FS.r1x]
  rw [sl_lstF (.inl g0), e2]
  refine ⟨rs.map .int, by simp [lstOf], ?_⟩
  have gc2 := get_pushl (u := SO.lst (rs.map PV.int)) gc
  have gr : (s1 ++ [SO.lst (rs.map PV.int)])[s1.length]? = some (.lst (rs.map .int)) := get_push
  have hne : s1.length ≠ s.length + 1 := by
    have := get_lt gc
    omega
  generalize (s1 ++ [SO.lst (rs.map PV.int)]) = s2 at gc2 gr ⊢
  refine for_ok (i := 0) (I := fun i ρ s3 => ∃ y z cells, ρ = [some (.obj 0), some (.obj (s.length + 1)), y, z] ∧ s3[s.length + 1]? = some (.lst ((cells : List Int).map .int)) ∧ cells.length = ms.length ∧ s3[s1.length]? = some (.lst (rs.map .int))) ⟨_, _, ms, rfl, gc2, rfl, gr⟩ (fun j ρ s3 ⟨y, z, cells, _, _, _, h⟩ => by simp [lstOf, h]) (fun j x ρ s3 hx ⟨y, z, cells, e, h1, h2, h3⟩ => ?_) fun ρ s3 ⟨y, z, cells, e, h1, h2, h3⟩ => ?_
  · have hj : j < rs.length := by
      have := (List.getElem?_eq_some_iff.mp hx).1
      simpa using this
    rw [List.getElem?_map, List.getElem?_range (by simpa using hj)] at hx
    cases hx
    subst e
    have er : (rs.map PV.int).getD j .non = .int rs[j] := by simp [hj]
    try dsimp only
    rw [er]
    refine ⟨[some (.obj 0), some (.obj (s.length + 1)), some (.int (j : Int)), some (.int rs[j])], rfl, ?_⟩
    unfold G_law_open_1
    rw [FS.w_sub]
    simp only [FS.w_c, FS.w_bin, FS.w_un, FS.w_call, FS.w_callG, FS.w_nil, FS.w_cons, FS.w_tOfE, FS.w_bNot, FS.w_bAnd, FS.w_bOr, FS.w_if, FS.w_tup, FS.w_lst, FS.w_dict0, FS.w_oNone, FS.w_oSome, FS.w_sl, FS.w_mt, FS.w_iOf, FS.w_iItems, FS.w_iValues, FS.w_lc, FS.w_dc, FS.w_lc2, FS.w_var, FS.okR_ok, FS.okO_some, FS.okR_ite, FS.okO_ite, List.getElem?_cons_zero, List.getElem?_cons_succ, List.set_cons_zero, List.set_cons_succ, FS.i_add, FS.i_sub, FS.i_mul, FS.i_mod, FS.i_fdiv, FS.i_lt, FS.i_le, FS.i_gt, FS.i_ge, FS.i_neg, decide_eq_true_eq, if_true, if_false, Bool.false_eq_true, Int.reduceLT, Int.reduceLE, Int.reduceNeg, Int.reducePow, reduceIte, and_self, true_or, or_true, true_and, and_true, FS.tY, FS.r1x]
    have g0 := em0 (j : Int) (b := 12) (by decide)
    have g1 := eml (j : Int) (b := 12) (by decide)
    have hl : ((j : Int) % 12).toNat < cells.length := by omega
    rw [ix_lst h1 (v := .int cells[((j : Int) % 12).toNat]) (atI_int g0 (by rw [List.getElem?_map, List.getElem?_eq_getElem hl]; rfl))]
    simp only [FS.w_c, FS.w_bin, FS.w_un, FS.w_call, FS.w_callG, FS.w_nil, FS.w_cons, FS.w_tOfE, FS.w_bNot, FS.w_bAnd, FS.w_bOr, FS.w_if, FS.w_tup, FS.w_lst, FS.w_dict0, FS.w_oNone, FS.w_oSome, FS.w_sl, FS.w_mt, FS.w_iOf, FS.w_iItems, FS.w_iValues, FS.w_lc, FS.w_dc, FS.w_lc2, FS.w_var, FS.okR_ok, FS.okO_some, FS.okR_ite, FS.okO_ite, List.getElem?_cons_zero, List.getElem?_cons_succ, List.set_cons_zero, List.set_cons_succ, FS.i_add, FS.i_sub, FS.i_mul, FS.i_mod, FS.i_fdiv, FS.i_lt, FS.i_le, FS.i_gt, FS.i_ge, FS.i_neg, decide_eq_true_eq, if_true, if_false, Bool.false_eq_true, Int.reduceLT, Int.reduceLE, Int.reduceNeg, Int.reducePow, reduceIte, and_self, true_or, or_true, true_and, and_true, FS.tY, FS.r1x]
    rw [set_lst h1 (j := ((j : Int) % 12).toNat) (by unfold ixN; rw [if_pos g0, if_pos (by rw [List.length_map]; omega)])]
    refine ⟨_, _, cells.set ((j : Int) % 12).toNat (cells[((j : Int) % 12).toNat] + rs[j]), rfl, ?_, by simpa using h2, ?_⟩
    · rw [List.getElem?_set_self (get_lt h1), List.map_set]
    · rw [List.getElem?_set_ne (Ne.symm hne)]; exact h3
  · subst e
    rw [FS.w_seq, FS.w_ret]
    simp only [FS.w_c, FS.w_bin, FS.w_un, FS.w_call, FS.w_callG, FS.w_nil, FS.w_cons, FS.w_tOfE, FS.w_bNot, FS.w_bAnd, FS.w_bOr, FS.w_if, FS.w_tup, FS.w_lst, FS.w_dict0, FS.w_oNone, FS.w_oSome, FS.w_sl, FS.w_mt, FS.w_iOf, FS.w_iItems, FS.w_iValues, FS.w_lc, FS.w_dc, FS.w_lc2, FS.w_var, FS.okR_ok, FS.okO_some, FS.okR_ite, FS.okO_ite, List.getElem?_cons_zero, List.getElem?_cons_succ, List.set_cons_zero, List.set_cons_succ, FS.i_add, FS.i_sub, FS.i_mul, FS.i_mod, FS.i_fdiv, FS.i_lt, FS.i_le, FS.i_gt, FS.i_ge, FS.i_neg, decide_eq_true_eq, if_true, if_false, Bool.false_eq_true, Int.reduceLT, Int.reduceLE, Int.reduceNeg, Int.reducePow, reduceIte, and_self, true_or, or_true, true_and, and_true, FS.tY, FS.r1x]
    rw [if_pos (by rw [sizeLine_eq]; simp)]
    refine hQ s3.length (s.length + 1) _ ⟨cells, 0, 0, get_push, get_pushl h1, ?_, by omega, by omega, by omega⟩
    have := get_lt h1
    omega

/-! ### books -/
abbrev Bk := List (Str × List Str)
def encW (l : List Str) : PV := .tup (l.map .str)
def enc (W : Bk) : List (PV × PV) := W.map fun p => (.str p.1, encW p.2)
structure OkB (W : Bk) : Prop where
  nd : (W.map (·.1)).Nodup
  ky : ∀ p ∈ W, asc 16 p.1
  wd : ∀ p ∈ W, p.2.length ≤ 6 ∧ ∀ x ∈ p.2, asc 16 x
theorem enc_any (W : Bk) (x : Str) : ((enc W).any fun p => decide (p.1 = PV.str x)) = W.any fun p => decide (p.1 = x) := by
  unfold enc
  rw [List.any_map]
  congr 1
  funext p
  simp
theorem putP_new {W : Bk} {x : Str} {l : List Str} (h : x ∉ W.map (·.1)) : putP (enc W) (.str x) (encW l) = enc (W ++ [(x, l)]) := by
  unfold putP
  rw [if_neg]
  · simp [enc]
  · rw [enc_any]
    simp only [List.any_eq_true, decide_eq_true_eq, not_exists, not_and]
    intro p hp e
    exact h (e ▸ List.mem_map_of_mem hp)
theorem putP_old {W : Bk} {x : Str} {l : List Str} (h : x ∈ W.map (·.1)) : putP (enc W) (.str x) (encW l) = enc (W.map fun p => if p.1 = x then (p.1, l) else p) := by
  unfold putP
  rw [if_pos]
  · unfold enc
    rw [List.map_map, List.map_map]
    refine List.map_congr_left fun p _ => ?_
    by_cases e : p.1 = x <;> simp [e]
  · rw [enc_any]
    obtain ⟨p, hp, e⟩ := List.mem_map.mp h
    simp only [List.any_eq_true, decide_eq_true_eq]
    exact ⟨p, hp, e⟩
theorem getP_enc : ∀ {W : Bk} {i : Nat} {p : Str × List Str}, (W.map (·.1)).Nodup → W[i]? = some p → getP (enc W) (.str p.1) = some (encW p.2)
  | [], i, p, _, h => by simp at h
  | q :: W, i, p, nd, h => by
    unfold enc getP
    rw [List.map_cons, List.find?_cons]
    by_cases e : q.1 = p.1
    · have hi : q = p := by
        cases i with
        | zero => simpa using h
        | succ i =>
          have h' : W[i]? = some p := by simpa using h
          have := (List.nodup_cons.mp nd).1
          have hm : p.1 ∈ W.map (·.1) := List.mem_map_of_mem (List.mem_of_getElem? h')
          rw [← e] at hm
          exact absurd hm this
      subst hi
      simp
    · have : decide ((PV.str q.1) = PV.str p.1) = false := by simp [e]
      rw [this]
      cases i with
      | zero =>
        have : q = p := by simpa using h
        exact absurd (congrArg (·.1) this) e
      | succ i => exact getP_enc (W := W) (List.nodup_cons.mp nd).2 (by simpa using h)
theorem drawn_ok {s : Sto} {p c k nn ll : Nat} {names letters : List Str} {Q : PV → Sto → Prop} (h : Pen s p c k) (hk : k ≤ 800000) (hn : s[nn]? = some (.lst (names.map .str))) (hl : s[ll]? = some (.lst (letters.map .str)))
    (nl : names.length ≤ 8) (np : 0 < names.length) (lp : 0 < letters.length) (lq : letters.length ≤ 8) (an : ∀ x ∈ names, asc 16 x) (al : ∀ x ∈ letters, asc 16 x) (hnp : nn ≠ p) (hlp : ll ≠ p)
    (hQ : ∀ d W s', OkB W → W.length ≤ 8 → s'[d]? = some (.dct (enc W)) → s.length ≤ d → FS.Fr [p] s s' → Pen s' p c (k + 200) → Q (.obj d) s') : okR (G_law_drawn_words [.obj p, .obj nn, .obj ll, .int 6] s) Q := by
  refine okR_fnF rfl ?_
  show okS ((_ : SF) [some (.obj p), some (.obj nn), some (.obj ll), some (.int 6), none, none, none, none, none] s) _ _ _ _
  rw [FS.w_seq, FS.w_set, FS.w_dict0, FS.w_seq, FS.w_for]
  simp only [FS.w_c, FS.w_bin, FS.w_un, FS.w_call, FS.w_callG, FS.w_nil, FS.w_cons, FS.w_tOfE, FS.w_bNot, FS.w_bAnd, FS.w_bOr, FS.w_if, FS.w_tup, FS.w_lst, FS.w_dict0, FS.w_oNone, FS.w_oSome, FS.w_sl, FS.w_mt, FS.w_iOf, FS.w_iItems, FS.w_iValues, FS.w_lc, FS.w_dc, FS.w_lc2, FS.w_var, FS.okR_ok, FS.okO_some, FS.okR_ite, FS.okO_ite, List.getElem?_cons_zero, List.getElem?_cons_succ, List.set_cons_zero, List.set_cons_succ, FS.i_add, FS.i_sub, FS.i_mul, FS.i_mod, FS.i_fdiv, FS.i_lt, FS.i_le, FS.i_gt, FS.i_ge, FS.i_neg, decide_eq_true_eq, if_true, if_false, Bool.false_eq_true, Int.reduceLT, Int.reduceLE, Int.reduceNeg, Int.reducePow, reduceIte, and_self, true_or, or_true, true_and, and_true, FS.tY, FS.r1x]
  have lpen := h.lt
  have gn := get_pushl (u := SO.dct []) hn
  rw [show valIt (s ++ [SO.dct []]) (.obj nn) = some ⟨names.map .str, fun s' => decide (lstOf s' (.obj nn) = some (names.map .str))⟩ by simp [valIt, gn]]
  rw [show R.ofI (some (⟨names.map .str, fun s' => decide (lstOf s' (.obj nn) = some (names.map .str))⟩ : ItD)) (s ++ [SO.dct []]) = R.ok _ _ from rfl, FS.okR_ok]
  have hdp : s.length ∉ [p] := by simp; omega
  refine for_ok (i := 0) (I := fun i ρ s1 => ∃ y5 y6 y7 y8 W, ρ = [some (.obj p), some (.obj nn), some (.obj ll), some (.int 6), some (.obj s.length), y5, y6, y7, y8] ∧ OkB W ∧ W.length ≤ i ∧ s1[s.length]? = some (.dct (enc W)) ∧ FS.Fr [p] s s1 ∧ Pen s1 p c (k + i * 20))
    ⟨none, none, none, none, [], rfl, ⟨List.nodup_nil, nofun, nofun⟩, Nat.le_refl _, get_push, FS.Fr.push _, by rw [Nat.zero_mul]; exact h.fr (ps := []) (FS.Fr.push _) (by simp) (by simp)⟩
    (fun j ρ s1 ⟨_, _, _, _, W, _, _, _, _, f, _⟩ => by simp [lstOf, f.get hn (by simpa using hnp)]) (fun j x ρ s1 hx ⟨y5, y6, y7, y8, W, e, hW, hWl, hd, f1, h1⟩ => ?_) fun ρ s1 ⟨y5, y6, y7, y8, W, e, hW, hWl, hd, f1, h1⟩ => ?_
  · subst e
    rw [Nat.zero_add] at *
    have hj : j < names.length := by
      have := (List.getElem?_eq_some_iff.mp hx).1
      simpa using this
    rw [List.getElem?_map, List.getElem?_eq_getElem hj] at hx
    cases hx
    refine ⟨[some (.obj p), some (.obj nn), some (.obj ll), some (.int 6), some (.obj s.length), some (.str names[j]), y6, y7, y8], rfl, ?_⟩
    unfold G_law_drawn_words_2
    rw [FS.w_seq, FS.w_set]
    simp only [FS.w_c, FS.w_bin, FS.w_un, FS.w_call, FS.w_callG, FS.w_nil, FS.w_cons, FS.w_tOfE, FS.w_bNot, FS.w_bAnd, FS.w_bOr, FS.w_if, FS.w_tup, FS.w_lst, FS.w_dict0, FS.w_oNone, FS.w_oSome, FS.w_sl, FS.w_mt, FS.w_iOf, FS.w_iItems, FS.w_iValues, FS.w_lc, FS.w_dc, FS.w_lc2, FS.w_var, FS.okR_ok, FS.okO_some, FS.okR_ite, FS.okO_ite, List.getElem?_cons_zero, List.getElem?_cons_succ, List.set_cons_zero, List.set_cons_succ, FS.i_add, FS.i_sub, FS.i_mul, FS.i_mod, FS.i_fdiv, FS.i_lt, FS.i_le, FS.i_gt, FS.i_ge, FS.i_neg, decide_eq_true_eq, if_true, if_false, Bool.false_eq_true, Int.reduceLT, Int.reduceLE, Int.reduceNeg, Int.reducePow, reduceIte, and_self, true_or, or_true, true_and, and_true, FS.tY, FS.r1x]
    refine take_ok h1 (by omega) (by decide) (by decide) fun r s2 r0 r1 f2 h2 => ?_
    rw [FS.i_add, FS.w_seq, FS.w_set]
    simp only [FS.w_c, FS.w_bin, FS.w_un, FS.w_call, FS.w_callG, FS.w_nil, FS.w_cons, FS.w_tOfE, FS.w_bNot, FS.w_bAnd, FS.w_bOr, FS.w_if, FS.w_tup, FS.w_lst, FS.w_dict0, FS.w_oNone, FS.w_oSome, FS.w_sl, FS.w_mt, FS.w_iOf, FS.w_iItems, FS.w_iValues, FS.w_lc, FS.w_dc, FS.w_lc2, FS.w_var, FS.okR_ok, FS.okO_some, FS.okR_ite, FS.okO_ite, List.getElem?_cons_zero, List.getElem?_cons_succ, List.set_cons_zero, List.set_cons_succ, FS.i_add, FS.i_sub, FS.i_mul, FS.i_mod, FS.i_fdiv, FS.i_lt, FS.i_le, FS.i_gt, FS.i_ge, FS.i_neg, decide_eq_true_eq, if_true, if_false, Bool.false_eq_true, Int.reduceLT, Int.reduceLE, Int.reduceNeg, Int.reducePow, reduceIte, and_self, true_or, or_true, true_and, and_true, FS.tY, FS.r1x]
    rw [if_pos (by rw [sizeLine_eq]; simp)]
    rw [FS.w_seq, FS.w_for]
    simp only [FS.w_c, FS.w_bin, FS.w_un, FS.w_call, FS.w_callG, FS.w_nil, FS.w_cons, FS.w_tOfE, FS.w_bNot, FS.w_bAnd, FS.w_bOr, FS.w_if, FS.w_tup, FS.w_lst, FS.w_dict0, FS.w_oNone, FS.w_oSome, FS.w_sl, FS.w_mt, FS.w_iOf, FS.w_iItems, FS.w_iValues, FS.w_lc, FS.w_dc, FS.w_lc2, FS.w_var, FS.okR_ok, FS.okO_some, FS.okR_ite, FS.okO_ite, List.getElem?_cons_zero, List.getElem?_cons_succ, List.set_cons_zero, List.set_cons_succ, FS.i_add, FS.i_sub, FS.i_mul, FS.i_mod, FS.i_fdiv, FS.i_lt, FS.i_le, FS.i_gt, FS.i_ge, FS.i_neg, decide_eq_true_eq, if_true, if_false, Bool.false_eq_true, Int.reduceLT, Int.reduceLE, Int.reduceNeg, Int.reducePow, reduceIte, and_self, true_or, or_true, true_and, and_true, FS.tY, FS.r1x]
    have h3 := h2.fr (ps := []) (FS.Fr.push (SO.lst [])) (by simp) (by simp)
    have f13 : FS.Fr [p] s (s2 ++ [SO.lst []]) := (f1.trans f2).pushr _
    have l2 : s.length < s2.length := Nat.lt_of_lt_of_le (get_lt hd) f2.len
    refine take_ok h3 (by omega) (by decide) (by decide) fun q s4 q0 q1 f4 h4 => ⟨by omega, ?_⟩
    have hqn : s2.length ∉ [p] := by have := f1.len; simp; omega
    have gparts := f4.get (get_push (s := s2) (o := SO.lst [])) hqn
    have gd : s4[s.length]? = some (.dct (enc W)) := f4.get (get_pushl (f2.get hd hdp)) hdp
    have f14 := f13.trans f4
    have eqN : (q.toNat : Int) = q := Int.toNat_of_nonneg q0
    refine for_ok (i := 0) (I := fun i ρ s5 => ∃ (y8 : Option PV) (ps : List Str), ρ = [some (.obj p), some (.obj nn), some (.obj ll), some (.int 6), some (.obj s.length), some (.str names[j]), some (.int (1 + r)), some (.obj s2.length), y8] ∧ ps.length = i ∧ (∀ x ∈ ps, asc 16 x) ∧ s5[s2.length]? = some (.lst (ps.map .str)) ∧ s5[s.length]? = some (.dct (enc W)) ∧ FS.Fr [p] s s5 ∧ Pen s5 p c (k + j * 20 + 2 + i * 2))
      ⟨y8, [], rfl, rfl, nofun, gparts, gd, f14, h4.mono (by omega)⟩ (fun _ _ _ _ => rfl) (fun i x ρ s5 hx ⟨y8, ps, e, pl, pa, g1, g2, f5, h5⟩ => ?_) fun ρ s5 ⟨y8, ps, e, pl, pa, g1, g2, f5, h5⟩ => ?_
    · subst e
      rw [Nat.zero_add] at *
      have hi : i < q.toNat := by
        have := (List.getElem?_eq_some_iff.mp hx).1
        simpa using this
      rw [List.getElem?_map, List.getElem?_range hi] at hx
      cases hx
      refine ⟨[some (.obj p), some (.obj nn), some (.obj ll), some (.int 6), some (.obj s.length), some (.str names[j]), some (.int (1 + r)), some (.obj s2.length), some (.int (i : Int))], rfl, ?_⟩
      unfold G_law_drawn_words_1
      rw [FS.w_expr]
      simp only [FS.w_c, FS.w_bin, FS.w_un, FS.w_call, FS.w_callG, FS.w_nil, FS.w_cons, FS.w_tOfE, FS.w_bNot, FS.w_bAnd, FS.w_bOr, FS.w_if, FS.w_tup, FS.w_lst, FS.w_dict0, FS.w_oNone, FS.w_oSome, FS.w_sl, FS.w_mt, FS.w_iOf, FS.w_iItems, FS.w_iValues, FS.w_lc, FS.w_dc, FS.w_lc2, FS.w_var, FS.okR_ok, FS.okO_some, FS.okR_ite, FS.okO_ite, List.getElem?_cons_zero, List.getElem?_cons_succ, List.set_cons_zero, List.set_cons_succ, FS.i_add, FS.i_sub, FS.i_mul, FS.i_mod, FS.i_fdiv, FS.i_lt, FS.i_le, FS.i_gt, FS.i_ge, FS.i_neg, decide_eq_true_eq, if_true, if_false, Bool.false_eq_true, Int.reduceLT, Int.reduceLE, Int.reduceNeg, Int.reducePow, reduceIte, and_self, true_or, or_true, true_and, and_true, FS.tY, FS.r1x]
      rw [mt_lst g1, if_pos rfl]
      refine take_ok h5 (by omega) (by decide) (by decide) fun t s6 t0 t1 f6 h6 => ?_
      have hn2 : s2.length ≠ p := by simpa using hqn
      have fin : ∀ x s7, (∃ z, x = PV.str z ∧ asc 16 z) → FS.Fr [p] s6 s7 → Pen s7 p c (k + j * 20 + 2 + i * 2 + 1 + 1) → okO (mAppend s7 (.obj s2.length) [x]) fun _ s8 => ∃ (y8 : Option PV) (ps' : List Str), [some (.obj p), some (.obj nn), some (.obj ll), some (.int 6), some (.obj s.length), some (.str names[j]), some (.int (1 + r)), some (.obj s2.length), some (PV.int (i : Int))] = [some (.obj p), some (.obj nn), some (.obj ll), some (.int 6), some (.obj s.length), some (.str names[j]), some (.int (1 + r)), some (.obj s2.length), y8] ∧ ps'.length = i + 1 ∧ (∀ x ∈ ps', asc 16 x) ∧ s8[s2.length]? = some (.lst (ps'.map .str)) ∧ s8[s.length]? = some (.dct (enc W)) ∧ FS.Fr [p] s s8 ∧ Pen s8 p c (k + j * 20 + 2 + (i + 1) * 2) := by
        rintro _ s7 ⟨z, rfl, hz⟩ f7 h7
        have g7 := f7.get (f6.get g1 hqn) hqn
        rw [app_lst g7 (by rw [List.length_map, pl]; exact Nat.lt_of_lt_of_le (show i < 1000 by omega) (sL _ (by decide)))]
        refine ⟨_, ps ++ [z], rfl, by simp [pl], fun x hx => ?_, by rw [List.getElem?_set_self (get_lt g7)]; simp, ?_, ((f5.trans f6).trans f7).setr _ (.inr (by have := f1.len; have := f2.len; omega)), ?_⟩
        · rcases List.mem_append.mp hx with hx | hx
          · exact pa x hx
          · simp at hx; subst hx; exact hz
        · rw [List.getElem?_set_ne (by omega)]
          exact f7.get (f6.get g2 hdp) hdp
        · rw [show k + j * 20 + 2 + (i + 1) * 2 = k + j * 20 + 2 + i * 2 + 1 + 1 by omega]
          have := h5.lt
          exact h7.fr (ps := [s2.length]) (FS.Fr.set _ (.inl (by simp))) (by simp; omega) (by simp; have := f1.len; have := f2.len; omega)
      simp only [FS.w_c, FS.w_bin, FS.w_un, FS.w_call, FS.w_callG, FS.w_nil, FS.w_cons, FS.w_tOfE, FS.w_bNot, FS.w_bAnd, FS.w_bOr, FS.w_if, FS.w_tup, FS.w_lst, FS.w_dict0, FS.w_oNone, FS.w_oSome, FS.w_sl, FS.w_mt, FS.w_iOf, FS.w_iItems, FS.w_iValues, FS.w_lc, FS.w_dc, FS.w_lc2, FS.w_var, FS.okR_ok, FS.okO_some, FS.okR_ite, FS.okO_ite, List.getElem?_cons_zero, List.getElem?_cons_succ, List.set_cons_zero, List.set_cons_succ, FS.i_add, FS.i_sub, FS.i_mul, FS.i_mod, FS.i_fdiv, FS.i_lt, FS.i_le, FS.i_gt, FS.i_ge, FS.i_neg, decide_eq_true_eq, if_true, if_false, Bool.false_eq_true, Int.reduceLT, Int.reduceLE, Int.reduceNeg, Int.reducePow, reduceIte, and_self, true_or, or_true, true_and, and_true, FS.tY, FS.r1x]
      split
      · refine pick_ok h6 (by omega) (f6.get (f5.get hn (by simpa using hnp)) (by simpa using hnp)) (by simpa using np) (by rw [List.length_map]; omega) hnp fun x s7 hx f7 h7 => fin x s7 ?_ f7 h7
        obtain ⟨z, hz, rfl⟩ := List.mem_map.mp hx
        exact ⟨z, rfl, an z hz⟩
      · refine pick_ok h6 (by omega) (f6.get (f5.get hl (by simpa using hlp)) (by simpa using hlp)) (by simpa using lp) (by rw [List.length_map]; omega) hlp fun x s7 hx f7 h7 => fin x s7 ?_ f7 h7
        obtain ⟨z, hz, rfl⟩ := List.mem_map.mp hx
        exact ⟨z, rfl, al z hz⟩
    · subst e
      rw [FS.w_seq, FS.w_sub]
      simp only [FS.w_c, FS.w_bin, FS.w_un, FS.w_call, FS.w_callG, FS.w_nil, FS.w_cons, FS.w_tOfE, FS.w_bNot, FS.w_bAnd, FS.w_bOr, FS.w_if, FS.w_tup, FS.w_lst, FS.w_dict0, FS.w_oNone, FS.w_oSome, FS.w_sl, FS.w_mt, FS.w_iOf, FS.w_iItems, FS.w_iValues, FS.w_lc, FS.w_dc, FS.w_lc2, FS.w_var, FS.okR_ok, FS.okO_some, FS.okR_ite, FS.okO_ite, List.getElem?_cons_zero, List.getElem?_cons_succ, List.set_cons_zero, List.set_cons_succ, FS.i_add, FS.i_sub, FS.i_mul, FS.i_mod, FS.i_fdiv, FS.i_lt, FS.i_le, FS.i_gt, FS.i_ge, FS.i_neg, decide_eq_true_eq, if_true, if_false, Bool.false_eq_true, Int.reduceLT, Int.reduceLE, Int.reduceNeg, Int.reducePow, reduceIte, and_self, true_or, or_true, true_and, and_true, FS.tY, FS.r1x]
      rw [show ∀ P : PV → Sto → Prop, okO (tupleF s5 [.obj s2.length]) P = P (encW ps) s5 from fun P => by simp [tupleF, lstOf, g1, encW, okO]]
      simp only [List.length_map, List.length_range, Nat.zero_add] at pl
      have hlenW : (enc W).length < sizeLine := by
        unfold enc; rw [List.length_map]; exact Nat.lt_of_lt_of_le (show W.length < 1000 by omega) (sL _ (by decide))
      rw [show setF s5 (.obj s.length) (.str names[j]) (encW ps) = some _ from set_dct (k := .inr names[j]) g2 hlenW]
      have hname : asc 16 names[j] := an _ (List.getElem_mem hj)
      have hps : ps.length ≤ 6 ∧ ∀ x ∈ ps, asc 16 x := ⟨by omega, pa⟩
      have key : ∃ W', putP (enc W) (keyP (.inr names[j])) (encW ps) = enc W' ∧ OkB W' ∧ W'.length ≤ W.length + 1 := by
        by_cases hin : names[j] ∈ W.map (·.1)
        · refine ⟨_, putP_old hin, ⟨?_, fun p hp => ?_, fun p hp => ?_⟩, by simp⟩
          · rw [List.map_map]
            have e : ((fun x : Str × List Str => x.1) ∘ fun p => if p.1 = names[j] then (p.1, ps) else p) = fun p => p.1 := by
              funext p; by_cases e : p.1 = names[j] <;> simp [e]
            rw [e]; exact hW.nd
          · obtain ⟨q, hq, rfl⟩ := List.mem_map.mp hp
            by_cases e : q.1 = names[j]
            · rw [if_pos e]; exact hW.ky q hq
            · rw [if_neg e]; exact hW.ky q hq
          · obtain ⟨q, hq, rfl⟩ := List.mem_map.mp hp
            by_cases e : q.1 = names[j]
            · rw [if_pos e]; exact hps
            · rw [if_neg e]; exact hW.wd q hq
        · refine ⟨_, putP_new hin, ⟨?_, fun p hp => ?_, fun p hp => ?_⟩, by simp⟩
          · rw [List.map_append, List.nodup_append]
            refine ⟨hW.nd, by simp, fun a ha b hb => ?_⟩
            simp at hb
            subst hb
            exact fun z => hin (z ▸ ha)
          · rcases List.mem_append.mp hp with hp | hp
            · exact hW.ky p hp
            · simp at hp; subst hp; exact hname
          · rcases List.mem_append.mp hp with hp | hp
            · exact hW.wd p hp
            · simp at hp; subst hp; exact hps
      obtain ⟨W', e', hW', hl'⟩ := key
      try dsimp only
      rw [e', FS.w_next]
      have := h5.lt
      refine ⟨_, _, _, _, W', rfl, hW', by omega, List.getElem?_set_self (get_lt g2), f5.setr _ (.inr (Nat.le_refl _)), (h5.mono ?_).fr (ps := [s.length]) (FS.Fr.set _ (.inl (by simp))) (by simp; omega) (by simp; omega)⟩
      simp only [List.length_map, List.length_range]
      omega
  · subst e
    rw [FS.w_seq, FS.w_ret]
    simp only [FS.w_c, FS.w_bin, FS.w_un, FS.w_call, FS.w_callG, FS.w_nil, FS.w_cons, FS.w_tOfE, FS.w_bNot, FS.w_bAnd, FS.w_bOr, FS.w_if, FS.w_tup, FS.w_lst, FS.w_dict0, FS.w_oNone, FS.w_oSome, FS.w_sl, FS.w_mt, FS.w_iOf, FS.w_iItems, FS.w_iValues, FS.w_lc, FS.w_dc, FS.w_lc2, FS.w_var, FS.okR_ok, FS.okO_some, FS.okR_ite, FS.okO_ite, List.getElem?_cons_zero, List.getElem?_cons_succ, List.set_cons_zero, List.set_cons_succ, FS.i_add, FS.i_sub, FS.i_mul, FS.i_mod, FS.i_fdiv, FS.i_lt, FS.i_le, FS.i_gt, FS.i_ge, FS.i_neg, decide_eq_true_eq, if_true, if_false, Bool.false_eq_true, Int.reduceLT, Int.reduceLE, Int.reduceNeg, Int.reducePow, reduceIte, and_self, true_or, or_true, true_and, and_true, FS.tY, FS.r1x]
    simp only [List.length_map, Nat.zero_add] at hWl h1
    exact hQ s.length W s1 hW (by omega) hd (Nat.le_refl _) f1 (h1.mono (by omega))
end K61

namespace K61
open PySem PySem.Spec PyProof.Rows L2 FS
/-! ### the deeds, plainly -/
def swapIn (l : List Str) (a : Str) (f : List Str) : List Str := l.flatMap fun x => if x = a then f else [x]
theorem eq_str {s : Sto} {x y : Str} {P : PV → Sto → Prop} : okO (cEq s (.str x) (.str y)) P = P (.bl (decide (x = y))) s := by simp [cEq, eqF, okO]
theorem ne_str {s : Sto} {x y : Str} {P : PV → Sto → Prop} : okO (cNe s (.str x) (.str y)) P = P (.bl (!decide (x = y))) s := by simp [cNe, eqF, okO]
theorem add_enc {s : Sto} {a b : List Str} {P : PV → Sto → Prop} (h : a.length + b.length ≤ 1000) : okO (bAdd s (encW a) (encW b)) P = P (encW (a ++ b)) s := by
  have : (a.map PV.str).length + (b.map PV.str).length ≤ sizeLine := by rw [List.length_map, List.length_map]; exact sL _ (by omega)
  unfold encW
  simp only [bAdd, this, if_true]
  rw [FS.okO_some, List.map_append]
theorem it_enc {s : Sto} {l : List Str} {PI : ItD → Sto → Prop} : okR (R.ofI (valIt s (encW l)) s) PI = PI ⟨l.map .str, fun _ => true⟩ s := by
  show okR (R.ok _ s) PI = _
  rw [FS.okR_ok]
theorem swap_len {a : Str} {f : List Str} : ∀ {l : List Str}, f.length ≤ 6 → (swapIn l a f).length ≤ l.length * 7
  | [], _ => Nat.zero_le _
  | x :: l, h => by
    have ih := swap_len (a := a) (l := l) h
    unfold swapIn at *
    rw [List.flatMap_cons, List.length_append, List.length_cons, Nat.succ_mul]
    by_cases e : x = a
    · rw [if_pos e]; omega
    · rw [if_neg e]
      have : ([x] : List Str).length = 1 := rfl
      omega
theorem swap_ok {s : Sto} {l f : List Str} {a : Str} {Q : PV → Sto → Prop} (hl : l.length ≤ 6) (hf : f.length ≤ 6) (hQ : Q (encW (swapIn l a f)) s) : okR (G_law_swap_in [encW l, .str a, encW f] s) Q := by
  refine okR_fnF rfl ?_
  show okS ((_ : SF) [some (encW l), some (.str a), some (encW f), none, none] s) _ _ _ _
  rw [FS.w_seq, FS.w_set]
  simp only [FS.w_c, FS.w_bin, FS.w_un, FS.w_call, FS.w_callG, FS.w_nil, FS.w_cons, FS.w_tOfE, FS.w_bNot, FS.w_bAnd, FS.w_bOr, FS.w_if, FS.w_tup, FS.w_lst, FS.w_dict0, FS.w_oNone, FS.w_oSome, FS.w_sl, FS.w_mt, FS.w_iOf, FS.w_iItems, FS.w_iValues, FS.w_lc, FS.w_dc, FS.w_lc2, FS.w_var, FS.okR_ok, FS.okO_some, FS.okR_ite, FS.okO_ite, List.getElem?_cons_zero, List.getElem?_cons_succ, List.set_cons_zero, List.set_cons_succ, FS.i_add, FS.i_sub, FS.i_mul, FS.i_mod, FS.i_fdiv, FS.i_lt, FS.i_le, FS.i_gt, FS.i_ge, FS.i_neg, decide_eq_true_eq, if_true, if_false, Bool.false_eq_true, Int.reduceLT, Int.reduceLE, Int.reduceNeg, Int.reducePow, reduceIte, and_self, true_or, or_true, true_and, and_true, FS.tY, FS.r1x]
  rw [if_pos (by rw [sizeLine_eq]; simp), FS.w_seq, FS.w_for]
  simp only [FS.w_c, FS.w_bin, FS.w_un, FS.w_call, FS.w_callG, FS.w_nil, FS.w_cons, FS.w_tOfE, FS.w_bNot, FS.w_bAnd, FS.w_bOr, FS.w_if, FS.w_tup, FS.w_lst, FS.w_dict0, FS.w_oNone, FS.w_oSome, FS.w_sl, FS.w_mt, FS.w_iOf, FS.w_iItems, FS.w_iValues, FS.w_lc, FS.w_dc, FS.w_lc2, FS.w_var, FS.okR_ok, FS.okO_some, FS.okR_ite, FS.okO_ite, List.getElem?_cons_zero, List.getElem?_cons_succ, List.set_cons_zero, List.set_cons_succ, FS.i_add, FS.i_sub, FS.i_mul, FS.i_mod, FS.i_fdiv, FS.i_lt, FS.i_le, FS.i_gt, FS.i_ge, FS.i_neg, decide_eq_true_eq, if_true, if_false, Bool.false_eq_true, Int.reduceLT, Int.reduceLE, Int.reduceNeg, Int.reducePow, reduceIte, and_self, true_or, or_true, true_and, and_true, FS.tY, FS.r1x]
  rw [it_enc]
  refine for_ok (i := 0) (I := fun i ρ s1 => ∃ y, ρ = [some (encW l), some (.str a), some (encW f), some (encW (swapIn (l.take i) a f)), y] ∧ s1 = s) ⟨none, rfl, rfl⟩ (fun _ _ _ _ => rfl) (fun j x ρ s1 hx ⟨y, e, es⟩ => ?_) fun ρ s1 ⟨y, e, es⟩ => ?_
  · subst e es
    rw [Nat.zero_add]
    have hj : j < l.length := by
      have := (List.getElem?_eq_some_iff.mp hx).1
      simpa using this
    rw [List.getElem?_map, List.getElem?_eq_getElem hj] at hx
    cases hx
    refine ⟨[some (encW l), some (.str a), some (encW f), some (encW (swapIn (l.take j) a f)), some (.str l[j])], rfl, ?_⟩
    unfold G_law_swap_in_1
    rw [FS.w_set]
    simp only [FS.w_c, FS.w_bin, FS.w_un, FS.w_call, FS.w_callG, FS.w_nil, FS.w_cons, FS.w_tOfE, FS.w_bNot, FS.w_bAnd, FS.w_bOr, FS.w_if, FS.w_tup, FS.w_lst, FS.w_dict0, FS.w_oNone, FS.w_oSome, FS.w_sl, FS.w_mt, FS.w_iOf, FS.w_iItems, FS.w_iValues, FS.w_lc, FS.w_dc, FS.w_lc2, FS.w_var, FS.okR_ok, FS.okO_some, FS.okR_ite, FS.okO_ite, List.getElem?_cons_zero, List.getElem?_cons_succ, List.set_cons_zero, List.set_cons_succ, FS.i_add, FS.i_sub, FS.i_mul, FS.i_mod, FS.i_fdiv, FS.i_lt, FS.i_le, FS.i_gt, FS.i_ge, FS.i_neg, decide_eq_true_eq, if_true, if_false, Bool.false_eq_true, Int.reduceLT, Int.reduceLE, Int.reduceNeg, Int.reducePow, reduceIte, and_self, true_or, or_true, true_and, and_true, FS.tY, FS.r1x]
    rw [eq_str]
    try dsimp only
    have e3 : swapIn (l.take (j + 1)) a f = swapIn (l.take j) a f ++ if l[j] = a then f else [l[j]] := by
      unfold swapIn
      rw [List.take_succ_eq_append_getElem hj, List.flatMap_append]
      simp
    have b1 := swap_len (a := a) (f := f) (l := l.take j) hf
    have b2 : (l.take j).length ≤ 6 := by rw [List.length_take]; omega
    by_cases hc : l[j] = a
    · simp only [hc, decide_true, if_true]
      rw [add_enc (by omega)]
      rw [e3, if_pos hc]
      exact ⟨_, rfl, rfl⟩
    · simp only [hc, decide_false, Bool.false_eq_true, if_false]
      rw [if_pos (by rw [sizeLine_eq]; simp)]
      rw [show (PV.tup [PV.str l[j]]) = encW [l[j]] from rfl, add_enc (by simp; omega)]
      rw [e3, if_neg hc]
      exact ⟨_, rfl, rfl⟩
  · subst e es
    rw [FS.w_seq, FS.w_ret]
    simp only [FS.w_c, FS.w_bin, FS.w_un, FS.w_call, FS.w_callG, FS.w_nil, FS.w_cons, FS.w_tOfE, FS.w_bNot, FS.w_bAnd, FS.w_bOr, FS.w_if, FS.w_tup, FS.w_lst, FS.w_dict0, FS.w_oNone, FS.w_oSome, FS.w_sl, FS.w_mt, FS.w_iOf, FS.w_iItems, FS.w_iValues, FS.w_lc, FS.w_dc, FS.w_lc2, FS.w_var, FS.okR_ok, FS.okO_some, FS.okR_ite, FS.okO_ite, List.getElem?_cons_zero, List.getElem?_cons_succ, List.set_cons_zero, List.set_cons_succ, FS.i_add, FS.i_sub, FS.i_mul, FS.i_mod, FS.i_fdiv, FS.i_lt, FS.i_le, FS.i_gt, FS.i_ge, FS.i_neg, decide_eq_true_eq, if_true, if_false, Bool.false_eq_true, Int.reduceLT, Int.reduceLE, Int.reduceNeg, Int.reducePow, reduceIte, and_self, true_or, or_true, true_and, and_true, FS.tY, FS.r1x]
    rw [List.length_map, Nat.zero_add, List.take_length]
    exact hQ
/-! ### locks -/
theorem w_lock {lk g : XF} {ρ : FS.Env} {s s0 : Sto} {n : Nat} {kvs : List (PV × PV)} {P : PV → Sto → Prop} (hk : lk ρ s = .ok (.obj n) s0) (hs : s[n]? = some (.dct kvs))
    (h : okR (g ρ (s.set n (.frz (.dct kvs)))) fun v s1 => s1[n]? = some (.frz (.dct kvs)) ∧ P v (s1.set n (.dct kvs))) : okR (eLock lk g ρ s) P := by
  obtain ⟨v, s1, e, h1, h2⟩ := h.get
  unfold eLock
  rw [hk]
  try dsimp only
  rw [hs]
  try dsimp only
  rw [e]
  unfold unlockE unlock
  try dsimp only
  rw [h1]
  try dsimp only
  rw [FS.okR_ok]
  exact h2
theorem w_lockS {lk : XF} {g : SF} {ρ : FS.Env} {s s0 : Sto} {n : Nat} {kvs : List (PV × PV)} {N : FS.Env → Sto → Prop} {T : PV → Sto → Prop} {B C : FS.Env → Sto → Prop} (hk : lk ρ s = .ok (.obj n) s0) (hs : s[n]? = some (.dct kvs))
    (h : okS (g ρ (s.set n (.frz (.dct kvs)))) (fun ρ s1 => s1[n]? = some (.frz (.dct kvs)) ∧ N ρ (s1.set n (.dct kvs))) (fun _ _ => False) (fun _ _ => False) (fun _ _ => False)) : okS (sLock lk g ρ s) N T B C := by
  unfold sLock
  rw [hk]
  try dsimp only
  rw [hs]
  try dsimp only
  cases e : g ρ (s.set n (.frz (.dct kvs))) with
  | nx ρ1 s1 =>
    rw [e, FS.okS_nx] at h
    unfold unlockS unlock
    try dsimp only
    rw [h.1]
    try dsimp only
    rw [FS.okS_nx]
    exact h.2
  | rt v s1 => rw [e, FS.okS_rt] at h; exact h.elim
  | bk v s1 => rw [e, FS.okS_bk] at h; exact h.elim
  | ct v s1 => rw [e, FS.okS_ct] at h; exact h.elim
  | exc C fs v s1 => rw [e] at h; unfold FS.okS at h; exact h.elim
  | bad => rw [e] at h; unfold FS.okS at h; exact h.elim
theorem lock_fr {ps : List Nat} {s s1 : Sto} {n : Nat} {o u : SO} (hs : s[n]? = some o) (f : FS.Fr ps (s.set n u) s1) : FS.Fr ps s (s1.set n o) := by
  refine ⟨by have := f.len; simpa using this, fun k hk hp => ?_⟩
  by_cases e : k = n
  · subst e
    have := f.len
    rw [List.getElem?_set_self (by simp at this; omega)]
    exact hs.symm
  · rw [List.getElem?_set_ne (Ne.symm e), f.keep k (by simpa using hk) hp, List.getElem?_set_ne (Ne.symm e)]
theorem lock_get {s : Sto} {n : Nat} {o u : SO} (hs : s[n]? = some o) : (s.set n u)[n]? = some u := List.getElem?_set_self (get_lt hs)
/-- {k: F v for k, v in d.items()} -/
theorem dmap_ok {W : Bk} {F : List Str → List Str} {a b : Nat} {ρ0 : FS.Env} {tk tv : XF} {s : Sto} {Q : Sto → Prop} (nd : (W.map (·.1)).Nodup) (hl : W.length ≤ 1000)
    (hk : ∀ x l s1, okR (tk ((ρ0.set a (some (.str x))).set b (some (encW l))) s1) fun v s2 => v = .str x ∧ s2 = s1)
    (hv : ∀ x l s1, (x, l) ∈ W → FS.Fr [] s s1 → okR (tv ((ρ0.set a (some (.str x))).set b (some (encW l))) s1) fun v s2 => v = encW (F l) ∧ FS.Fr [] s1 s2)
    (hQ : ∀ s', s'[s.length]? = some (.dct (enc (W.map fun p => (p.1, F p.2)))) → FS.Fr [] s s' → Q s') :
    okC (compD (fun _ => true) (.tp [.nm a, .nm b]) tYesF tk tv s.length ρ0 ((enc W).map fun p => .tup [p.1, p.2]) (s ++ [.dct []])) Q := by
  refine compD_ok (I := fun i acc s1 => acc = enc ((W.take i).map fun p => (p.1, F p.2)) ∧ s1[s.length]? = some (.dct acc) ∧ FS.Fr [] s s1) (i := 0) ⟨rfl, get_push, FS.Fr.push _⟩ (fun _ _ _ _ => rfl) (fun i x acc s1 hx hI => ?_) fun acc s1 ⟨e, h1, f1⟩ => ?_
  · rw [Nat.zero_add] at *
    obtain ⟨e, h1, f1⟩ := hI
    have hi : i < W.length := by
      have := (List.getElem?_eq_some_iff.mp hx).1
      simpa [enc] using this
    have ex : x = .tup [.str W[i].1, encW W[i].2] := by
      simp [enc, List.getElem?_eq_getElem hi] at hx
      exact hx.symm
    subst ex
    refine ⟨(ρ0.set a (some (.str W[i].1))).set b (some (encW W[i].2)), rfl, ?_⟩
    rw [FS.tY, if_pos rfl]
    refine (hk _ _ s1).mono fun y s2 ⟨e1, e2⟩ => ?_
    subst e1 e2
    refine (hv _ _ s2 (List.getElem_mem hi) f1).mono fun v s3 ⟨e3, f3⟩ => ?_
    subst e3
    have h3 := f3.get h1 (by simp)
    refine ⟨.inr W[i].1, rfl, h3, ?_, ?_, List.getElem?_set_self (get_lt h3), (f1.trans f3).setr _ (.inr (Nat.le_refl _))⟩
    · rw [e]; unfold enc; rw [List.length_map, List.length_map, List.length_take]
      exact Nat.lt_of_lt_of_le (show min i W.length < 1000 by omega) (sL _ (by decide))
    · rw [e, show keyP (.inr W[i].1) = PV.str W[i].1 from rfl, putP_new]
      · rw [List.take_succ_eq_append_getElem hi, List.map_append]
        rfl
      · rw [List.map_map]
        intro hm
        obtain ⟨p, hp, e4⟩ := List.mem_map.mp hm
        obtain ⟨j, hj, e5⟩ := List.mem_iff_getElem.mp hp
        have hjl : j < i := by rw [List.length_take] at hj; omega
        rw [List.getElem_take] at e5
        have := List.pairwise_iff_getElem.mp nd j i (by rw [List.length_map]; omega) (by rw [List.length_map]; omega) hjl
        refine this ?_
        rw [List.getElem_map, List.getElem_map, e5]
        exact e4
  · have e2 : ((enc W).map fun p => PV.tup [p.1, p.2]).length = W.length := by simp [enc]
    rw [e2, Nat.zero_add, List.take_length] at e
    subst e
    exact hQ s1 h1 f1
theorem items_lk {s : Sto} {n : Nat} {kvs : List (PV × PV)} {PI : ItD → Sto → Prop} (h : s[n]? = some (.frz (.dct kvs))) : okR (R.ofI ((lockedOf s (.obj n)).map fun kvs => (⟨kvs.map fun p => .tup [p.1, p.2], fun _ => true⟩ : ItD)) s) PI = PI ⟨kvs.map fun p => .tup [p.1, p.2], fun _ => true⟩ s := by
  have : lockedOf s (.obj n) = some kvs := by simp [lockedOf, h]
  rw [this]
  show okR (R.ok _ s) PI = _
  rw [FS.okR_ok]
theorem turned_ok {s : Sto} {h : Nat} {W : Bk} {Q : PV → Sto → Prop} (hs : s[h]? = some (.dct (enc W))) (hW : OkB W) (hl : W.length ≤ 8)
    (hQ : ∀ n s', s'[n]? = some (.dct (enc (W.map fun p => (p.1, p.2.reverse)))) → s.length ≤ n → FS.Fr [] s s' → Q (.obj n) s') : okR (G_turned [.obj h] s) Q := by
  refine okR_fnF rfl ?_
  show okS ((_ : SF) [some (.obj h), none, none] s) _ _ _ _
  rw [FS.w_ret]
  refine w_lock (n := h) (s0 := s) rfl hs ?_
  simp only [FS.w_c, FS.w_bin, FS.w_un, FS.w_call, FS.w_callG, FS.w_nil, FS.w_cons, FS.w_tOfE, FS.w_bNot, FS.w_bAnd, FS.w_bOr, FS.w_if, FS.w_tup, FS.w_lst, FS.w_dict0, FS.w_oNone, FS.w_oSome, FS.w_sl, FS.w_mt, FS.w_iOf, FS.w_iItems, FS.w_iValues, FS.w_lc, FS.w_dc, FS.w_lc2, FS.w_var, FS.okR_ok, FS.okO_some, FS.okR_ite, FS.okO_ite, List.getElem?_cons_zero, List.getElem?_cons_succ, List.set_cons_zero, List.set_cons_succ, FS.i_add, FS.i_sub, FS.i_mul, FS.i_mod, FS.i_fdiv, FS.i_lt, FS.i_le, FS.i_gt, FS.i_ge, FS.i_neg, decide_eq_true_eq, if_true, if_false, Bool.false_eq_true, Int.reduceLT, Int.reduceLE, Int.reduceNeg, Int.reducePow, reduceIte, and_self, true_or, or_true, true_and, and_true, FS.tY, FS.r1x]
  have hg := lock_get (u := SO.frz (.dct (enc W))) hs
  rw [items_lk hg]
  have el : (s.set h (SO.frz (.dct (enc W)))).length = s.length := by simp
  generalize hs1 : s.set h (SO.frz (.dct (enc W))) = s1 at hg el ⊢
  refine dmap_ok (F := List.reverse) hW.nd (by omega) (fun x l s2 => ?_) (fun x l s2 hm f2 => ?_) fun s2 h2 f2 => ?_
  · show okR (eVar 1 [some (.obj h), some (.str x), some (encW l)] s2) _
    simp only [FS.w_c, FS.w_bin, FS.w_un, FS.w_call, FS.w_callG, FS.w_nil, FS.w_cons, FS.w_tOfE, FS.w_bNot, FS.w_bAnd, FS.w_bOr, FS.w_if, FS.w_tup, FS.w_lst, FS.w_dict0, FS.w_oNone, FS.w_oSome, FS.w_sl, FS.w_mt, FS.w_iOf, FS.w_iItems, FS.w_iValues, FS.w_lc, FS.w_dc, FS.w_lc2, FS.w_var, FS.okR_ok, FS.okO_some, FS.okR_ite, FS.okO_ite, List.getElem?_cons_zero, List.getElem?_cons_succ, List.set_cons_zero, List.set_cons_succ, FS.i_add, FS.i_sub, FS.i_mul, FS.i_mod, FS.i_fdiv, FS.i_lt, FS.i_le, FS.i_gt, FS.i_ge, FS.i_neg, decide_eq_true_eq, if_true, if_false, Bool.false_eq_true, Int.reduceLT, Int.reduceLE, Int.reduceNeg, Int.reducePow, reduceIte, and_self, true_or, or_true, true_and, and_true, FS.tY, FS.r1x]
  · show okR (eUn revF (eVar 2) [some (.obj h), some (.str x), some (encW l)] s2) _
    simp only [FS.w_c, FS.w_bin, FS.w_un, FS.w_call, FS.w_callG, FS.w_nil, FS.w_cons, FS.w_tOfE, FS.w_bNot, FS.w_bAnd, FS.w_bOr, FS.w_if, FS.w_tup, FS.w_lst, FS.w_dict0, FS.w_oNone, FS.w_oSome, FS.w_sl, FS.w_mt, FS.w_iOf, FS.w_iItems, FS.w_iValues, FS.w_lc, FS.w_dc, FS.w_lc2, FS.w_var, FS.okR_ok, FS.okO_some, FS.okR_ite, FS.okO_ite, List.getElem?_cons_zero, List.getElem?_cons_succ, List.set_cons_zero, List.set_cons_succ, FS.i_add, FS.i_sub, FS.i_mul, FS.i_mod, FS.i_fdiv, FS.i_lt, FS.i_le, FS.i_gt, FS.i_ge, FS.i_neg, decide_eq_true_eq, if_true, if_false, Bool.false_eq_true, Int.reduceLT, Int.reduceLE, Int.reduceNeg, Int.reducePow, reduceIte, and_self, true_or, or_true, true_and, and_true, FS.tY, FS.r1x]
    rw [show okO (revF s2 (encW l)) = fun P => P (encW l.reverse) s2 from by funext P; simp [revF, encW, okO]]
    exact ⟨rfl, FS.Fr.refl _ _⟩
  · refine ⟨f2.get hg (by simp), ?_⟩
    subst hs1
    rw [el] at h2 ⊢
    refine hQ s.length _ ?_ (Nat.le_refl _) (lock_fr hs f2)
    rw [List.getElem?_set_ne (by have := get_lt hs; omega)]
    exact h2

/-! ### only -/
def keepB (W : Bk) (sm : List Str) (x : Str) : Bool := (getP (enc W) (.str x)).isSome || ((sm.map PV.str).any fun y => eqP y (.str x))
theorem in_lk {s : Sto} {n : Nat} {W : Bk} {x : Str} {P : PV → Sto → Prop} (h : s[n]? = some (.frz (.dct (enc W))) ∨ s[n]? = some (.dct (enc W))) : okO (cIn s (.str x) (.obj n)) P = P (.bl (getP (enc W) (.str x)).isSome) s := by
  rcases h with h | h <;> simp [cIn, inF, dctOf, h, toKey, keyP, okO]
theorem all_flat (sm : List Str) : (sm.map PV.str).all flatP = true := by simp [flatP]
theorem in_enc {s : Sto} {sm : List Str} {x : Str} {P : PV → Sto → Prop} : okO (cIn s (.str x) (encW sm)) P = P (.bl ((sm.map PV.str).any fun y => eqP y (.str x))) s := by
  have e : inF s (.str x) (encW sm) = some ((sm.map PV.str).any fun y => eqP y (.str x)) := by
    show (if flatP (PV.str x) = true ∧ (sm.map PV.str).all flatP = true then some ((sm.map PV.str).any fun y => eqP y (.str x)) else none) = _
    rw [if_pos ⟨rfl, all_flat sm⟩]
  unfold cIn
  rw [e]
  exact FS.okO_some
theorem in_lst {s : Sto} {n : Nat} {sm : List Str} {x : Str} {P : PV → Sto → Prop} (h : s[n]? = some (.lst (sm.map .str))) : okO (cIn s (.str x) (.obj n)) P = P (.bl ((sm.map PV.str).any fun y => eqP y (.str x))) s := by
  have e : inF s (.str x) (.obj n) = some ((sm.map PV.str).any fun y => eqP y (.str x)) := by
    have e1 : dctOf s (.obj n) = none := by simp [dctOf, h]
    have e2 : seqOf s (.obj n) = some (sm.map .str) := by simp [seqOf, h]
    unfold inF
    try dsimp only
    rw [e1, e2]
    show (if flatP (PV.str x) = true ∧ (sm.map PV.str).all flatP = true then some ((sm.map PV.str).any fun y => eqP y (.str x)) else none) = _
    rw [if_pos ⟨rfl, all_flat sm⟩]
  unfold cIn
  rw [e]
  exact FS.okO_some
theorem filt_ok {l : List Str} {t : Str → Bool} {j : Nat} {ρ0 : FS.Env} {tt : FS.Env → Sto → R Bool} {te : XF} {s : Sto} {Q : Sto → Prop} (hl : l.length ≤ 1000)
    (ht : ∀ x s1, FS.Fr [] s s1 → okR (tt (ρ0.set j (some (.str x))) s1) fun b s2 => b = t x ∧ s2 = s1)
    (he : ∀ x s1, okR (te (ρ0.set j (some (.str x))) s1) fun v s2 => v = .str x ∧ s2 = s1)
    (hQ : ∀ s', s'[s.length]? = some (.lst ((l.filter t).map .str)) → FS.Fr [] s s' → Q s') :
    okC (compL (fun _ => true) (.nm j) tt te s.length ρ0 (l.map .str) (s ++ [.lst []])) Q := by
  refine comp_ok (I := fun i acc s1 => acc = ((l.take i).filter t).map .str ∧ s1[s.length]? = some (.lst acc) ∧ FS.Fr [] s s1) (i := 0) ⟨rfl, get_push, FS.Fr.push _⟩ (fun _ _ _ _ => rfl) (fun i x acc s1 hx hI => ?_) fun acc s1 ⟨e, h1, f1⟩ => ?_
  · rw [Nat.zero_add] at *
    obtain ⟨e, h1, f1⟩ := hI
    have hi : i < l.length := by
      have := (List.getElem?_eq_some_iff.mp hx).1
      simpa using this
    rw [List.getElem?_map, List.getElem?_eq_getElem hi] at hx
    cases hx
    refine ⟨_, run_nm, ?_⟩
    refine (ht _ s1 f1).mono fun b s2 ⟨e1, e2⟩ => ?_
    subst e1 e2
    have e3 : (l.take (i + 1)).filter t = (l.take i).filter t ++ if t l[i] = true then [l[i]] else [] := by
      rw [List.take_succ_eq_append_getElem hi, List.filter_append]
      congr 1
      by_cases c : t l[i] = true
      · rw [if_pos c, List.filter_cons_of_pos c]; rfl
      · rw [if_neg c, List.filter_cons_of_neg c]; rfl
    split
    · rename_i c
      refine (he _ s2).mono fun v s3 ⟨e4, e5⟩ => ?_
      subst e4 e5
      refine ⟨h1, ?_, ?_, List.getElem?_set_self (get_lt h1), f1.setr _ (.inr (Nat.le_refl _))⟩
      · rw [e, List.length_map]
        refine Nat.lt_of_le_of_lt (List.length_filter_le _ _) (Nat.lt_of_lt_of_le (show (l.take i).length < 1001 by rw [List.length_take]; omega) (sL _ (by decide)))
      · rw [e, e3, if_pos c, List.map_append]; rfl
    · rename_i c
      exact ⟨by rw [e, e3, if_neg c, List.append_nil], h1, f1⟩
  · rw [List.length_map, Nat.zero_add, List.take_length] at e
    subst e
    exact hQ s1 h1 f1
theorem tup_lst {s : Sto} {n : Nat} {l : List Str} {P : PV → Sto → Prop} (h : s[n]? = some (.lst (l.map .str))) : okO (tupleF s [.obj n]) P = P (encW l) s := by
  simp [tupleF, lstOf, h, encW, okO]
theorem only_ok {s : Sto} {h : Nat} {W : Bk} {sm : List Str} {Q : PV → Sto → Prop} (hs : s[h]? = some (.dct (enc W))) (hW : OkB W) (hl : W.length ≤ 8)
    (hQ : ∀ n s', s'[n]? = some (.dct (enc (W.map fun p => (p.1, p.2.filter (keepB W sm))))) → s.length ≤ n → FS.Fr [] s s' → Q (.obj n) s') : okR (G_only [.obj h, encW sm] s) Q := by
  refine okR_fnF rfl ?_
  show okS ((_ : SF) [some (.obj h), some (encW sm), none, none, none] s) _ _ _ _
  rw [FS.w_ret]
  refine w_lock (n := h) (s0 := s) rfl hs ?_
  rw [FS.w_dc]
  simp only [FS.w_c, FS.w_bin, FS.w_un, FS.w_call, FS.w_callG, FS.w_nil, FS.w_cons, FS.w_tOfE, FS.w_bNot, FS.w_bAnd, FS.w_bOr, FS.w_if, FS.w_tup, FS.w_lst, FS.w_dict0, FS.w_oNone, FS.w_oSome, FS.w_sl, FS.w_mt, FS.w_iOf, FS.w_iItems, FS.w_iValues, FS.w_lc, FS.w_dc, FS.w_lc2, FS.w_var, FS.okR_ok, FS.okO_some, FS.okR_ite, FS.okO_ite, List.getElem?_cons_zero, List.getElem?_cons_succ, List.set_cons_zero, List.set_cons_succ, FS.i_add, FS.i_sub, FS.i_mul, FS.i_mod, FS.i_fdiv, FS.i_lt, FS.i_le, FS.i_gt, FS.i_ge, FS.i_neg, decide_eq_true_eq, if_true, if_false, Bool.false_eq_true, Int.reduceLT, Int.reduceLE, Int.reduceNeg, Int.reducePow, reduceIte, and_self, true_or, or_true, true_and, and_true, FS.tY, FS.r1x]
  have hg := lock_get (u := SO.frz (.dct (enc W))) hs
  rw [items_lk hg]
  have el : (s.set h (SO.frz (.dct (enc W)))).length = s.length := by simp
  generalize hs1 : s.set h (SO.frz (.dct (enc W))) = s1 at hg el ⊢
  have lh := get_lt hg
  refine dmap_ok (F := fun l => l.filter (keepB W sm)) hW.nd (by omega) (fun x l s2 => ?_) (fun x l s2 hm f2 => ?_) fun s2 h2 f2 => ?_
  · show okR (eVar 2 [some (.obj h), some (encW sm), some (.str x), some (encW l), none] s2) _
    simp only [FS.w_c, FS.w_bin, FS.w_un, FS.w_call, FS.w_callG, FS.w_nil, FS.w_cons, FS.w_tOfE, FS.w_bNot, FS.w_bAnd, FS.w_bOr, FS.w_if, FS.w_tup, FS.w_lst, FS.w_dict0, FS.w_oNone, FS.w_oSome, FS.w_sl, FS.w_mt, FS.w_iOf, FS.w_iItems, FS.w_iValues, FS.w_lc, FS.w_dc, FS.w_lc2, FS.w_var, FS.okR_ok, FS.okO_some, FS.okR_ite, FS.okO_ite, List.getElem?_cons_zero, List.getElem?_cons_succ, List.set_cons_zero, List.set_cons_succ, FS.i_add, FS.i_sub, FS.i_mul, FS.i_mod, FS.i_fdiv, FS.i_lt, FS.i_le, FS.i_gt, FS.i_ge, FS.i_neg, decide_eq_true_eq, if_true, if_false, Bool.false_eq_true, Int.reduceLT, Int.reduceLE, Int.reduceNeg, Int.reducePow, reduceIte, and_self, true_or, or_true, true_and, and_true, FS.tY, FS.r1x]
  · show okR (eCall tupleF _ [some (.obj h), some (encW sm), some (.str x), some (encW l), none] s2) _
    rw [FS.w_call, FS.w_cons, FS.w_lc]
    simp only [FS.w_c, FS.w_bin, FS.w_un, FS.w_call, FS.w_callG, FS.w_nil, FS.w_cons, FS.w_tOfE, FS.w_bNot, FS.w_bAnd, FS.w_bOr, FS.w_if, FS.w_tup, FS.w_lst, FS.w_dict0, FS.w_oNone, FS.w_oSome, FS.w_sl, FS.w_mt, FS.w_iOf, FS.w_iItems, FS.w_iValues, FS.w_lc, FS.w_dc, FS.w_lc2, FS.w_var, FS.okR_ok, FS.okO_some, FS.okR_ite, FS.okO_ite, List.getElem?_cons_zero, List.getElem?_cons_succ, List.set_cons_zero, List.set_cons_succ, FS.i_add, FS.i_sub, FS.i_mul, FS.i_mod, FS.i_fdiv, FS.i_lt, FS.i_le, FS.i_gt, FS.i_ge, FS.i_neg, decide_eq_true_eq, if_true, if_false, Bool.false_eq_true, Int.reduceLT, Int.reduceLE, Int.reduceNeg, Int.reducePow, reduceIte, and_self, true_or, or_true, true_and, and_true, FS.tY, FS.r1x]
    rw [it_enc]
    have hl6 : l.length ≤ 6 := (hW.wd _ hm).1
    refine filt_ok (t := keepB W sm) (by omega) (fun y s3 f3 => ?_) (fun y s3 => ?_) fun s3 h3 f3 => ?_
    · show okR (bOr _ _ [some (.obj h), some (encW sm), some (.str x), some (encW l), some (.str y)] s3) _
      simp only [FS.w_c, FS.w_bin, FS.w_un, FS.w_call, FS.w_callG, FS.w_nil, FS.w_cons, FS.w_tOfE, FS.w_bNot, FS.w_bAnd, FS.w_bOr, FS.w_if, FS.w_tup, FS.w_lst, FS.w_dict0, FS.w_oNone, FS.w_oSome, FS.w_sl, FS.w_mt, FS.w_iOf, FS.w_iItems, FS.w_iValues, FS.w_lc, FS.w_dc, FS.w_lc2, FS.w_var, FS.okR_ok, FS.okO_some, FS.okR_ite, FS.okO_ite, List.getElem?_cons_zero, List.getElem?_cons_succ, List.set_cons_zero, List.set_cons_succ, FS.i_add, FS.i_sub, FS.i_mul, FS.i_mod, FS.i_fdiv, FS.i_lt, FS.i_le, FS.i_gt, FS.i_ge, FS.i_neg, decide_eq_true_eq, if_true, if_false, Bool.false_eq_true, Int.reduceLT, Int.reduceLE, Int.reduceNeg, Int.reducePow, reduceIte, and_self, true_or, or_true, true_and, and_true, FS.tY, FS.r1x]
      rw [in_lk (.inl (f3.get (f2.get hg (by simp)) (by simp)))]
      try dsimp only
      unfold keepB
      cases (getP (enc W) (.str y)).isSome with
      | true => simp
      | false =>
        rw [if_neg Bool.false_ne_true, in_enc]
        simp
    · show okR (eVar 4 [some (.obj h), some (encW sm), some (.str x), some (encW l), some (.str y)] s3) _
      simp only [FS.w_c, FS.w_bin, FS.w_un, FS.w_call, FS.w_callG, FS.w_nil, FS.w_cons, FS.w_tOfE, FS.w_bNot, FS.w_bAnd, FS.w_bOr, FS.w_if, FS.w_tup, FS.w_lst, FS.w_dict0, FS.w_oNone, FS.w_oSome, FS.w_sl, FS.w_mt, FS.w_iOf, FS.w_iItems, FS.w_iValues, FS.w_lc, FS.w_dc, FS.w_lc2, FS.w_var, FS.okR_ok, FS.okO_some, FS.okR_ite, FS.okO_ite, List.getElem?_cons_zero, List.getElem?_cons_succ, List.set_cons_zero, List.set_cons_succ, FS.i_add, FS.i_sub, FS.i_mul, FS.i_mod, FS.i_fdiv, FS.i_lt, FS.i_le, FS.i_gt, FS.i_ge, FS.i_neg, decide_eq_true_eq, if_true, if_false, Bool.false_eq_true, Int.reduceLT, Int.reduceLE, Int.reduceNeg, Int.reducePow, reduceIte, and_self, true_or, or_true, true_and, and_true, FS.tY, FS.r1x]
    · rw [tup_lst h3]
      exact ⟨rfl, f3⟩
  · refine ⟨f2.get hg (by simp), ?_⟩
    subst hs1
    rw [el] at h2 ⊢
    refine hQ s.length _ ?_ (Nat.le_refl _) (lock_fr hs f2)
    rw [List.getElem?_set_ne (by have := get_lt hs; omega)]
    exact h2
/-! ### exchanged -/
theorem flat_ok {xs : List PV} {inner : PV → List PV} {out : PV → PV → PV} {j j1 : Nat} {vs1 : List Nat} {ρ0 : FS.Env} {gi1 : IF} {te : XF} {s : Sto} {Q : Sto → Prop} (hb : (xs.flatMap fun x => (inner x).map (out x)).length ≤ 1000)
    (hi : ∀ x ∈ xs, ∀ s1, okR (gi1 (ρ0.set j (some x)) s1) fun d s2 => d = ⟨inner x, fun _ => true⟩ ∧ s2 = s1)
    (he : ∀ x ∈ xs, ∀ y ∈ inner x, ∀ s1, okR (te ((wipeE (ρ0.set j (some x)) vs1).set j1 (some y)) s1) fun v s2 => v = out x y ∧ s2 = s1)
    (hQ : ∀ s', s'[s.length]? = some (.lst (xs.flatMap fun x => (inner x).map (out x))) → FS.Fr [] s s' → Q s') :
    okC (compL2 (fun _ => true) (.nm j) tYesF gi1 (.nm j1) tYesF te vs1 s.length ρ0 xs (s ++ [.lst []])) Q := by
  have go : ∀ (ys done : List PV) (s1 : Sto), done ++ ys = xs → s1[s.length]? = some (.lst (done.flatMap fun x => (inner x).map (out x))) → FS.Fr [] s s1 → okC (compL2 (fun _ => true) (.nm j) tYesF gi1 (.nm j1) tYesF te vs1 s.length ρ0 ys s1) Q := by
    intro ys
    induction ys with
    | nil =>
      intro done s1 e h1 f1
      rw [List.append_nil] at e
      subst e
      show okC (if (true : Bool) = true then some s1 else none) Q
      rw [if_pos rfl]
      unfold FS.okC
      exact hQ s1 h1 f1
    | cons x ys ih =>
      intro done s1 e h1 f1
      have hx : x ∈ xs := by rw [← e]; simp
      obtain ⟨d, s2, ed, e1, e2⟩ := (hi x hx s1).get
      subst e1 e2
      unfold compL2
      rw [if_pos rfl, run_nm, Option.bind_some]
      show okC (match gi1 (ρ0.set j (some x)) s2 with | .ok d1 s2 => (compL d1.chk (.nm j1) tYesF te s.length (wipeE (ρ0.set j (some x)) vs1) d1.items s2).bind fun s3 => compL2 (fun _ => true) (.nm j) tYesF gi1 (.nm j1) tYesF te vs1 s.length ρ0 ys s3 | _ => none) Q
      rw [ed]
      try dsimp only
      have inn : okC (compL (fun _ => true) (.nm j1) tYesF te s.length (wipeE (ρ0.set j (some x)) vs1) (inner x) s2) fun s3 => s3[s.length]? = some (.lst ((done.flatMap fun x => (inner x).map (out x)) ++ (inner x).map (out x))) ∧ FS.Fr [] s s3 := by
        refine comp_ok (I := fun i acc s3 => acc = (done.flatMap fun x => (inner x).map (out x)) ++ ((inner x).take i).map (out x) ∧ s3[s.length]? = some (.lst acc) ∧ FS.Fr [] s s3) (i := 0) (acc := done.flatMap fun x => (inner x).map (out x)) ⟨by simp, h1, f1⟩ (fun _ _ _ _ => rfl) (fun i y acc s3 hy hI => ?_) fun acc s3 ⟨e3, h3, f3⟩ => ?_
        · rw [Nat.zero_add] at *
          obtain ⟨e3, h3, f3⟩ := hI
          refine ⟨_, run_nm, ?_⟩
          rw [FS.tY, if_pos rfl]
          have hyi : i < (inner x).length := (List.getElem?_eq_some_iff.mp hy).1
          have ey : (inner x)[i] = y := by
            rw [List.getElem?_eq_getElem hyi] at hy
            exact Option.some.inj hy
          refine (he x hx y (ey ▸ List.getElem_mem hyi) s3).mono fun v s4 ⟨e4, e5⟩ => ?_
          subst e4 e5
          refine ⟨h3, ?_, ?_, List.getElem?_set_self (get_lt h3), f3.setr _ (.inr (Nat.le_refl _))⟩
          · rw [e3, List.length_append, List.length_map, List.length_take]
            have : (xs.flatMap fun x => (inner x).map (out x)).length = (done.flatMap fun x => (inner x).map (out x)).length + ((inner x).length + (ys.flatMap fun x => (inner x).map (out x)).length) := by
              rw [← e, List.flatMap_append, List.length_append, List.flatMap_cons, List.length_append, List.length_map]
            exact Nat.lt_of_lt_of_le (show _ < 1001 by omega) (sL _ (by decide))
          · rw [e3, List.take_succ_eq_append_getElem hyi, List.map_append, List.append_assoc, ey]
            rfl
        · rw [Nat.zero_add, List.take_length] at e3
          subst e3
          exact ⟨h3, f3⟩
      obtain ⟨s3, e3, h3, f3⟩ := inn.get
      rw [e3, Option.bind_some]
      refine ih (done ++ [x]) s3 (by rw [← e]; simp) ?_ f3
      rw [h3, List.flatMap_append]
      simp
  exact go xs [] (s ++ [.lst []]) rfl get_push (FS.Fr.push _)

def bsOf (W : Bk) (a : Str) : List Bool := W.flatMap fun p => p.2.map fun x => decide (a = x)
def stands (W : Bk) (a : Str) : Bool := (bsOf W a).any id
def inT : PV → List PV
  | .tup xs => xs
  | _ => []
def outB (a : Str) : PV → PV → PV := fun _ y => match y with
  | .str y => .bl (decide (a = y))
  | _ => .non
theorem bs_eq (a : Str) : ∀ (W : Bk), ((W.map fun p => encW p.2).flatMap fun x => (inT x).map (outB a x)) = (bsOf W a).map .bl
  | [] => rfl
  | p :: W => by
    unfold bsOf
    rw [List.map_cons, List.flatMap_cons, List.flatMap_cons, List.map_append, bs_eq a W]
    congr 1
    show ((p.2.map PV.str).map (outB a (encW p.2))) = _
    rw [List.map_map, List.map_map]
    rfl
theorem bs_len (a : Str) : ∀ (W : Bk), (∀ p ∈ W, p.2.length ≤ 6) → (bsOf W a).length ≤ W.length * 6
  | [], _ => Nat.zero_le _
  | p :: W, h => by
    have h1 := h p List.mem_cons_self
    have h2 := bs_len a W fun q hq => h q (List.mem_cons_of_mem _ hq)
    unfold bsOf at *
    rw [List.flatMap_cons, List.length_append, List.length_map, List.length_cons, Nat.succ_mul]
    omega
theorem mapM_bls : ∀ (bs : List Bool), (bs.map PV.bl).mapM blOf = some bs
  | [] => rfl
  | x :: r => by rw [List.map_cons, List.mapM_cons, mapM_bls r]; rfl
theorem any_lst {s : Sto} {n : Nat} {bs : List Bool} {P : PV → Sto → Prop} (h : s[n]? = some (.lst (bs.map .bl))) : okO (anyF s [.obj n]) P = P (.bl (bs.any id)) s := by
  have e : lstOf s (.obj n) = some (bs.map .bl) := by simp [lstOf, h]
  show okO ((lstOf s (.obj n)).bind fun ys => (ys.mapM blOf).map fun bs => (PV.bl (bs.any id), s)) P = _
  rw [e, Option.bind_some, mapM_bls]
  exact FS.okO_some
theorem values_lk {s : Sto} {n : Nat} {kvs : List (PV × PV)} {PI : ItD → Sto → Prop} (h : s[n]? = some (.frz (.dct kvs))) : okR (R.ofI ((lockedOf s (.obj n)).map fun kvs => (⟨kvs.map (·.2), fun _ => true⟩ : ItD)) s) PI = PI ⟨kvs.map (·.2), fun _ => true⟩ s := by
  have : lockedOf s (.obj n) = some kvs := by simp [lockedOf, h]
  rw [this]
  show okR (R.ok _ s) PI = _
  rw [FS.okR_ok]
/-- the first look of exchanged -/
theorem look_ok {s : Sto} {h : Nat} {W : Bk} {a : Str} {f : PV} {PB : Bool → Sto → Prop} (hs : s[h]? = some (.dct (enc W))) (hW : OkB W) (hl : W.length ≤ 8)
    (hQ : ∀ s', FS.Fr [] s s' → PB (!stands W a) s') : okR (bNot (tOfE (eCall anyF (aCons (eLock (eVar 0) (eLc2 (iValuesD (eVar 0)) (.nm 5) (tYesF) (iOf (eVar 5)) (.nm 6) (tYesF) (eBin cEq (eVar 1) (eVar 6)) [5, 6] [6])) (aNil)))) [some (.obj h), some (.str a), some f, none, none, none, none, none] s) PB := by
  rw [FS.w_bNot, FS.w_tOfE, FS.w_call, FS.w_cons]
  refine w_lock (n := h) (s0 := s) rfl hs ?_
  rw [FS.w_lc2]
  simp only [FS.w_c, FS.w_bin, FS.w_un, FS.w_call, FS.w_callG, FS.w_nil, FS.w_cons, FS.w_tOfE, FS.w_bNot, FS.w_bAnd, FS.w_bOr, FS.w_if, FS.w_tup, FS.w_lst, FS.w_dict0, FS.w_oNone, FS.w_oSome, FS.w_sl, FS.w_mt, FS.w_iOf, FS.w_iItems, FS.w_iValues, FS.w_lc, FS.w_dc, FS.w_lc2, FS.w_var, FS.okR_ok, FS.okO_some, FS.okR_ite, FS.okO_ite, List.getElem?_cons_zero, List.getElem?_cons_succ, List.set_cons_zero, List.set_cons_succ, FS.i_add, FS.i_sub, FS.i_mul, FS.i_mod, FS.i_fdiv, FS.i_lt, FS.i_le, FS.i_gt, FS.i_ge, FS.i_neg, decide_eq_true_eq, if_true, if_false, Bool.false_eq_true, Int.reduceLT, Int.reduceLE, Int.reduceNeg, Int.reducePow, reduceIte, and_self, true_or, or_true, true_and, and_true, FS.tY, FS.r1x]
  have hg := lock_get (u := SO.frz (.dct (enc W))) hs
  rw [values_lk hg]
  have el : (s.set h (SO.frz (.dct (enc W)))).length = s.length := by simp
  generalize hs1 : s.set h (SO.frz (.dct (enc W))) = s1 at hg el ⊢
  have exs : (enc W).map (·.2) = W.map fun p => encW p.2 := by unfold enc; rw [List.map_map]; rfl
  rw [exs]
  have hb : ((W.map fun p => encW p.2).flatMap fun x => (inT x).map (outB a x)).length ≤ 1000 := by
    rw [bs_eq, List.length_map]
    have := bs_len a W fun p hp => (hW.wd p hp).1
    omega
  refine flat_ok (inner := inT) (out := outB a) hb (fun x hx s2 => ?_) (fun x hx y hy s2 => ?_) fun s2 h2 f2 => ?_
  · obtain ⟨p, hp, rfl⟩ := List.mem_map.mp hx
    show okR (iOf (eVar 5) [some (.obj h), some (.str a), some f, none, none, some (encW p.2), none, none] s2) _
    simp only [FS.w_c, FS.w_bin, FS.w_un, FS.w_call, FS.w_callG, FS.w_nil, FS.w_cons, FS.w_tOfE, FS.w_bNot, FS.w_bAnd, FS.w_bOr, FS.w_if, FS.w_tup, FS.w_lst, FS.w_dict0, FS.w_oNone, FS.w_oSome, FS.w_sl, FS.w_mt, FS.w_iOf, FS.w_iItems, FS.w_iValues, FS.w_lc, FS.w_dc, FS.w_lc2, FS.w_var, FS.okR_ok, FS.okO_some, FS.okR_ite, FS.okO_ite, List.getElem?_cons_zero, List.getElem?_cons_succ, List.set_cons_zero, List.set_cons_succ, FS.i_add, FS.i_sub, FS.i_mul, FS.i_mod, FS.i_fdiv, FS.i_lt, FS.i_le, FS.i_gt, FS.i_ge, FS.i_neg, decide_eq_true_eq, if_true, if_false, Bool.false_eq_true, Int.reduceLT, Int.reduceLE, Int.reduceNeg, Int.reducePow, reduceIte, and_self, true_or, or_true, true_and, and_true, FS.tY, FS.r1x]
    rw [it_enc]
    exact ⟨rfl, rfl⟩
  · obtain ⟨p, hp, rfl⟩ := List.mem_map.mp hx
    obtain ⟨z, hz, rfl⟩ := List.mem_map.mp (show y ∈ p.2.map PV.str from hy)
    show okR (eBin cEq (eVar 1) (eVar 6) [some (.obj h), some (.str a), some f, none, none, some (encW p.2), some (.str z), none] s2) _
    simp only [FS.w_c, FS.w_bin, FS.w_un, FS.w_call, FS.w_callG, FS.w_nil, FS.w_cons, FS.w_tOfE, FS.w_bNot, FS.w_bAnd, FS.w_bOr, FS.w_if, FS.w_tup, FS.w_lst, FS.w_dict0, FS.w_oNone, FS.w_oSome, FS.w_sl, FS.w_mt, FS.w_iOf, FS.w_iItems, FS.w_iValues, FS.w_lc, FS.w_dc, FS.w_lc2, FS.w_var, FS.okR_ok, FS.okO_some, FS.okR_ite, FS.okO_ite, List.getElem?_cons_zero, List.getElem?_cons_succ, List.set_cons_zero, List.set_cons_succ, FS.i_add, FS.i_sub, FS.i_mul, FS.i_mod, FS.i_fdiv, FS.i_lt, FS.i_le, FS.i_gt, FS.i_ge, FS.i_neg, decide_eq_true_eq, if_true, if_false, Bool.false_eq_true, Int.reduceLT, Int.reduceLE, Int.reduceNeg, Int.reducePow, reduceIte, and_self, true_or, or_true, true_and, and_true, FS.tY, FS.r1x]
    rw [eq_str]
    exact ⟨rfl, rfl⟩
  · refine ⟨f2.get hg (by simp), ?_⟩
    rw [bs_eq, el] at h2
    have hh := get_lt hs
    have h3 : (s2.set h (.dct (enc W)))[s.length]? = some (.lst ((bsOf W a).map .bl)) := by
      rw [List.getElem?_set_ne (by omega)]; exact h2
    rw [el, any_lst h3]
    subst hs1
    exact hQ _ (lock_fr hs f2)
def inS (a : Str) (f : List Str) : PV → List PV
  | .str x => if x = a then f.map .str else [.str x]
  | _ => []
theorem swap_eq (a : Str) (f : List Str) : ∀ (l : List Str), ((l.map PV.str).flatMap fun x => (inS a f x).map fun y => y) = (swapIn l a f).map .str
  | [] => rfl
  | x :: l => by
    unfold swapIn
    rw [List.map_cons, List.flatMap_cons, List.flatMap_cons, List.map_append, swap_eq a f l]
    congr 1
    show (if x = a then f.map PV.str else [PV.str x]).map (fun y => y) = _
    by_cases e : x = a
    · rw [if_pos e, if_pos e]; simp
    · rw [if_neg e, if_neg e]; rfl
theorem exchanged_ok {s : Sto} {h : Nat} {W : Bk} {a : Str} {f : List Str} {Q : PV → Sto → Prop} (hs : s[h]? = some (.dct (enc W))) (hW : OkB W) (hl : W.length ≤ 8) (hf : f.length ≤ 6) (hst : stands W a = true)
    (hQ : ∀ n s', s'[n]? = some (.dct (enc (W.map fun p => (p.1, swapIn p.2 a f)))) → s.length ≤ n → FS.Fr [] s s' → Q (.obj n) s') : okR (G_exchanged [.obj h, .str a, encW f] s) Q := by
  refine okR_fnF rfl ?_
  show okS ((_ : SF) [some (.obj h), some (.str a), some (encW f), none, none, none, none, none] s) _ _ _ _
  rw [FS.w_seq, FS.w_sif]
  refine look_ok hs hW hl fun s1 f1 => ?_
  rw [hst]
  rw [if_neg (by decide), FS.w_next, FS.w_seq, FS.w_set, FS.w_dict0, FS.w_seq]
  have hs2 := get_pushl (u := SO.dct []) (f1.get hs (by simp))
  have l1 := get_lt hs
  have l2 := f1.len
  refine w_lockS (n := h) (s0 := s1 ++ [.dct []]) rfl hs2 ?_
  rw [FS.w_for]
  have hg := lock_get (u := SO.frz (.dct (enc W))) hs2
  have hm0 : ((s1 ++ [SO.dct []]).set h (SO.frz (.dct (enc W))))[s1.length]? = some (.dct []) := by
    rw [List.getElem?_set_ne (by omega)]; exact get_push
  have f12 : FS.Fr [] s1 (s1 ++ [SO.dct []]) := FS.Fr.push _
  generalize hs3 : (s1 ++ [SO.dct []]).set h (SO.frz (.dct (enc W))) = s3 at hg hm0 ⊢
  rw [FS.w_iItems]
  simp only [List.set_cons_zero, List.set_cons_succ, FS.w_var, List.getElem?_cons_zero]
  rw [items_lk hg]
  have hne : h ≠ s1.length := by omega
  refine for_ok (i := 0) (I := fun i ρ s4 => ∃ y4 y5, ρ = [some (.obj h), some (.str a), some (encW f), some (.obj s1.length), y4, y5, none, none] ∧ s4[s1.length]? = some (.dct (enc ((W.take i).map fun p => (p.1, swapIn p.2 a f)))) ∧ FS.Fr [s1.length] s3 s4)
    ⟨none, none, rfl, hm0, FS.Fr.refl _ _⟩ (fun _ _ _ _ => rfl) (fun j x ρ s4 hx ⟨y4, y5, e, h4, f4⟩ => ?_) fun ρ s4 ⟨y4, y5, e, h4, f4⟩ => ?_
  · subst e
    rw [Nat.zero_add] at *
    have hj : j < W.length := by
      have := (List.getElem?_eq_some_iff.mp hx).1
      simpa [enc] using this
    have ex : x = .tup [.str W[j].1, encW W[j].2] := by
      simp [enc, List.getElem?_eq_getElem hj] at hx
      exact hx.symm
    subst ex
    refine ⟨[some (.obj h), some (.str a), some (encW f), some (.obj s1.length), some (.str W[j].1), some (encW W[j].2), none, none], rfl, ?_⟩
    have hw6 := (hW.wd W[j] (List.getElem_mem hj)).1
    unfold G_exchanged_1
    rw [FS.w_sub, FS.w_call, FS.w_cons, FS.w_lc2, FS.w_iOf]
    simp only [FS.w_var, List.getElem?_cons_zero, List.getElem?_cons_succ]
    rw [it_enc]
    have hb : (((W[j].2).map PV.str).flatMap fun x => (inS a f x).map fun y => y).length ≤ 1000 := by
      rw [swap_eq, List.length_map]
      have := swap_len (a := a) (l := W[j].2) hf
      omega
    refine flat_ok (inner := inS a f) (out := fun _ y => y) hb (fun x hx s5 => ?_) (fun x hx y hy s5 => ?_) fun s5 h5 f5 => ?_
    · obtain ⟨z, hz, rfl⟩ := List.mem_map.mp hx
      show okR (iOf (eIf _ _ _) [some (.obj h), some (.str a), some (encW f), some (.obj s1.length), some (.str W[j].1), some (encW W[j].2), some (.str z), none] s5) _
      simp only [FS.w_c, FS.w_bin, FS.w_un, FS.w_call, FS.w_callG, FS.w_nil, FS.w_cons, FS.w_tOfE, FS.w_bNot, FS.w_bAnd, FS.w_bOr, FS.w_if, FS.w_tup, FS.w_lst, FS.w_dict0, FS.w_oNone, FS.w_oSome, FS.w_sl, FS.w_mt, FS.w_iOf, FS.w_iItems, FS.w_iValues, FS.w_lc, FS.w_dc, FS.w_lc2, FS.w_var, FS.okR_ok, FS.okO_some, FS.okR_ite, FS.okO_ite, List.getElem?_cons_zero, List.getElem?_cons_succ, List.set_cons_zero, List.set_cons_succ, FS.i_add, FS.i_sub, FS.i_mul, FS.i_mod, FS.i_fdiv, FS.i_lt, FS.i_le, FS.i_gt, FS.i_ge, FS.i_neg, decide_eq_true_eq, if_true, if_false, Bool.false_eq_true, Int.reduceLT, Int.reduceLE, Int.reduceNeg, Int.reducePow, reduceIte, and_self, true_or, or_true, true_and, and_true, FS.tY, FS.r1x]
      rw [eq_str]
      try dsimp only
      by_cases c : z = a
      · simp only [c, decide_true, if_true]
        rw [it_enc]
        refine ⟨?_, rfl⟩
        show _ = (⟨if a = a then _ else _, _⟩ : ItD)
        rw [if_pos rfl]
      · simp only [c, decide_false, Bool.false_eq_true, if_false]
        rw [if_pos (by rw [sizeLine_eq]; simp)]
        rw [show (PV.tup [PV.str z]) = encW [z] from rfl, it_enc]
        refine ⟨?_, rfl⟩
        show _ = (⟨if z = a then _ else _, _⟩ : ItD)
        rw [if_neg c]
        rfl
    · obtain ⟨z, hz, rfl⟩ := List.mem_map.mp hx
      show okR (eVar 7 [some (.obj h), some (.str a), some (encW f), some (.obj s1.length), some (.str W[j].1), some (encW W[j].2), some (.str z), some y] s5) _
      simp only [FS.w_c, FS.w_bin, FS.w_un, FS.w_call, FS.w_callG, FS.w_nil, FS.w_cons, FS.w_tOfE, FS.w_bNot, FS.w_bAnd, FS.w_bOr, FS.w_if, FS.w_tup, FS.w_lst, FS.w_dict0, FS.w_oNone, FS.w_oSome, FS.w_sl, FS.w_mt, FS.w_iOf, FS.w_iItems, FS.w_iValues, FS.w_lc, FS.w_dc, FS.w_lc2, FS.w_var, FS.okR_ok, FS.okO_some, FS.okR_ite, FS.okO_ite, List.getElem?_cons_zero, List.getElem?_cons_succ, List.set_cons_zero, List.set_cons_succ, FS.i_add, FS.i_sub, FS.i_mul, FS.i_mod, FS.i_fdiv, FS.i_lt, FS.i_le, FS.i_gt, FS.i_ge, FS.i_neg, decide_eq_true_eq, if_true, if_false, Bool.false_eq_true, Int.reduceLT, Int.reduceLE, Int.reduceNeg, Int.reducePow, reduceIte, and_self, true_or, or_true, true_and, and_true, FS.tY, FS.r1x]
    · rw [swap_eq] at h5
      try rw [FS.w_nil]
      rw [tup_lst h5]
      try simp only [FS.w_c, FS.w_bin, FS.w_un, FS.w_call, FS.w_callG, FS.w_nil, FS.w_cons, FS.w_tOfE, FS.w_bNot, FS.w_bAnd, FS.w_bOr, FS.w_if, FS.w_tup, FS.w_lst, FS.w_dict0, FS.w_oNone, FS.w_oSome, FS.w_sl, FS.w_mt, FS.w_iOf, FS.w_iItems, FS.w_iValues, FS.w_lc, FS.w_dc, FS.w_lc2, FS.w_var, FS.okR_ok, FS.okO_some, FS.okR_ite, FS.okO_ite, List.getElem?_cons_zero, List.getElem?_cons_succ, List.set_cons_zero, List.set_cons_succ, FS.i_add, FS.i_sub, FS.i_mul, FS.i_mod, FS.i_fdiv, FS.i_lt, FS.i_le, FS.i_gt, FS.i_ge, FS.i_neg, decide_eq_true_eq, if_true, if_false, Bool.false_eq_true, Int.reduceLT, Int.reduceLE, Int.reduceNeg, Int.reducePow, reduceIte, and_self, true_or, or_true, true_and, and_true, FS.tY, FS.r1x]
      have h6 := f5.get h4 (by simp)
      have hlen : (enc ((W.take j).map fun p => (p.1, swapIn p.2 a f))).length < sizeLine := by
        unfold enc
        rw [List.length_map, List.length_map, List.length_take]
        exact Nat.lt_of_lt_of_le (show min j W.length < 1000 by omega) (sL _ (by decide))
      rw [show setF s5 (.obj s1.length) (.str W[j].1) (encW (swapIn W[j].2 a f)) = some _ from set_dct (k := .inr W[j].1) h6 hlen]
      refine ⟨_, _, rfl, ?_, (f4.trans (f5.mono fun n hn => by simp at hn)).setr _ (.inl (by simp))⟩
      rw [List.getElem?_set_self (get_lt h6), show keyP (.inr W[j].1) = PV.str W[j].1 from rfl, putP_new]
      · rw [List.take_succ_eq_append_getElem hj, List.map_append]
        rfl
      · rw [List.map_map]
        intro hm
        obtain ⟨p, hp, e4⟩ := List.mem_map.mp hm
        obtain ⟨i, hi, e5⟩ := List.mem_iff_getElem.mp hp
        have hil : i < j := by rw [List.length_take] at hi; omega
        rw [List.getElem_take] at e5
        have := List.pairwise_iff_getElem.mp hW.nd i j (by rw [List.length_map]; omega) (by rw [List.length_map]; omega) hil
        refine this ?_
        rw [List.getElem_map, List.getElem_map, e5]
        exact e4
  · subst e
    refine ⟨f4.get hg (by simpa using hne), ?_⟩
    rw [FS.w_seq, FS.w_ret]
    simp only [FS.w_c, FS.w_bin, FS.w_un, FS.w_call, FS.w_callG, FS.w_nil, FS.w_cons, FS.w_tOfE, FS.w_bNot, FS.w_bAnd, FS.w_bOr, FS.w_if, FS.w_tup, FS.w_lst, FS.w_dict0, FS.w_oNone, FS.w_oSome, FS.w_sl, FS.w_mt, FS.w_iOf, FS.w_iItems, FS.w_iValues, FS.w_lc, FS.w_dc, FS.w_lc2, FS.w_var, FS.okR_ok, FS.okO_some, FS.okR_ite, FS.okO_ite, List.getElem?_cons_zero, List.getElem?_cons_succ, List.set_cons_zero, List.set_cons_succ, FS.i_add, FS.i_sub, FS.i_mul, FS.i_mod, FS.i_fdiv, FS.i_lt, FS.i_le, FS.i_gt, FS.i_ge, FS.i_neg, decide_eq_true_eq, if_true, if_false, Bool.false_eq_true, Int.reduceLT, Int.reduceLE, Int.reduceNeg, Int.reducePow, reduceIte, and_self, true_or, or_true, true_and, and_true, FS.tY, FS.r1x]
    have e2 : ((enc W).map fun p => PV.tup [p.1, p.2]).length = W.length := by simp [enc]
    rw [e2, Nat.zero_add, List.take_length] at h4
    subst hs3
    refine hQ s1.length _ ?_ l2 ?_
    · rw [List.getElem?_set_ne hne]; exact h4
    · have g1 : FS.Fr [s1.length] s s1 := f1.mono fun n hn => by simp at hn
      have g2 : FS.Fr [s1.length] s1 (s1 ++ [SO.dct []]) := f12.mono fun n hn => by simp at hn
      exact (g1.trans (g2.trans (lock_fr hs2 f4))).mono fun n hn => .inr (by simp at hn; omega)
end K61

namespace K61
open PySem PySem.Spec PyProof.Rows L2 FS
theorem exchanged_exc {s : Sto} {h : Nat} {W : Bk} {a : Str} {f : PV} (hs : s[h]? = some (.dct (enc W))) (hW : OkB W) (hl : W.length ≤ 8) (hst : stands W a = false) :
    ∃ s', G_exchanged [.obj h, .str a, f] s = .exc "NoLetter" [] s' ∧ FS.Fr [] s s' := by
  obtain ⟨b, s1, e, hb, f1⟩ := (look_ok (f := f) (PB := fun b s' => b = true ∧ FS.Fr [] s s') hs hW hl fun s' f1 => ⟨by rw [hst]; rfl, f1⟩).get
  subst hb
  refine ⟨s1, ?_, f1⟩
  have e2 : sIf (bNot (tOfE (eCall anyF (aCons (eLock (eVar 0) (eLc2 (iValuesD (eVar 0)) (.nm 5) (tYesF) (iOf (eVar 5)) (.nm 6) (tYesF) (eBin cEq (eVar 1) (eVar 6)) [5, 6] [6])) (aNil))))) (sRaise "NoLetter") (sNext) [some (.obj h), some (.str a), some f, none, none, none, none, none] s = .exc "NoLetter" [] [some (.obj h), some (.str a), some f, none, none, none, none, none] s1 := by
    unfold sIf
    rw [e]
    rfl
  show ((sIf (bNot (tOfE (eCall anyF (aCons (eLock (eVar 0) (eLc2 (iValuesD (eVar 0)) (.nm 5) (tYesF) (iOf (eVar 5)) (.nm 6) (tYesF) (eBin cEq (eVar 1) (eVar 6)) [5, 6] [6])) (aNil))))) (sRaise "NoLetter") (sNext) [some (.obj h), some (.str a), some f, none, none, none, none, none] s).bind _).toR = _
  rw [e2]
  rfl
theorem keep_ok {c : Str → Option Bool} {i j : Nat} {b : SF} {ρ : FS.Env} {s : Sto} {N : FS.Env → Sto → Prop} {T : PV → Sto → Prop} {B C : FS.Env → Sto → Prop} (h : okS (b ρ s) N T B C) : okS (sKeep c i j b ρ s) N T B C := by
  unfold sKeep
  cases e : b ρ s with
  | exc C fs ρ s => rw [e] at h; unfold FS.okS at h; exact h.elim
  | _ => rw [e] at h; exact h
theorem keep_exc {c : Str → Option Bool} {i j : Nat} {b : SF} {ρ ρ' : FS.Env} {s s' : Sto} {X : Str} {N : FS.Env → Sto → Prop} {T : PV → Sto → Prop} {B C : FS.Env → Sto → Prop} (hb : b ρ s = .exc X [] ρ' s') (hc : c X = some true)
    (h : N ((ρ'.set j (some (.obj s'.length))).set i none) (s' ++ [.exn s'.length X []])) : okS (sKeep c i j b ρ s) N T B C := by
  unfold sKeep
  rw [hb]
  try dsimp only
  rw [hc]
  try dsimp only
  rw [if_pos rfl, FS.okS_nx]
  exact h
theorem isi_exn {s : Sto} {n : Nat} {c : PV} {d : Tk} {b : Bool} {P : PV → Sto → Prop} (h : s[n]? = some (.exn n "NoLetter" [])) (hc : tkCls c = some d) (ht : tabI (.own "NoLetter") d = some b) : okO (isiF tabI s [.obj n, c]) P = P (.bl b) s := by
  simp [isiF, tkOf, h, hc, ht, okO]
theorem add_lst {s : Sto} {i j : Nat} {xs ys : List PV} {P : PV → Sto → Prop} (h : s[i]? = some (.lst xs)) (k : s[j]? = some (.lst ys)) (hl : xs.length + ys.length ≤ 1000) : okO (bAdd s (.obj i) (.obj j)) P = P (.obj s.length) (s ++ [.lst (xs ++ ys)]) := by
  have : xs.length + ys.length ≤ sizeLine := sL _ (by omega)
  simp [bAdd, h, k, this, okO]
theorem told_ok {s : Sto} {h : Nat} {W : Bk} {a : Str} {f : List Str} {Q : PV → Sto → Prop} (hs : s[h]? = some (.dct (enc W))) (hW : OkB W) (hl : W.length ≤ 8) (hf : f.length ≤ 6)
    (hQ : ∀ v s', (stands W a = true → ∃ n, v = .obj n ∧ s'[n]? = some (.dct (enc (W.map fun p => (p.1, swapIn p.2 a f)))) ∧ s.length ≤ n) → (stands W a = false → v = .str "letter") → FS.Fr [] s s' → Q v s') : okR (G_law_told [.obj h, .str a, encW f] s) Q := by
  refine okR_fnF rfl ?_
  show okS ((_ : SF) [some (.obj h), some (.str a), some (encW f), none, none, none, none] s) _ _ _ _
  rw [FS.w_seq, FS.w_set, FS.w_c, FS.w_seq, FS.w_set, FS.w_c, FS.w_seq]
  cases hst : stands W a with
  | true =>
    refine keep_ok ?_
    unfold G_law_told_1
    rw [FS.w_set]
    simp only [FS.w_c, FS.w_bin, FS.w_un, FS.w_call, FS.w_callG, FS.w_nil, FS.w_cons, FS.w_tOfE, FS.w_bNot, FS.w_bAnd, FS.w_bOr, FS.w_if, FS.w_tup, FS.w_lst, FS.w_dict0, FS.w_oNone, FS.w_oSome, FS.w_sl, FS.w_mt, FS.w_iOf, FS.w_iItems, FS.w_iValues, FS.w_lc, FS.w_dc, FS.w_lc2, FS.w_var, FS.okR_ok, FS.okO_some, FS.okR_ite, FS.okO_ite, List.getElem?_cons_zero, List.getElem?_cons_succ, List.set_cons_zero, List.set_cons_succ, FS.i_add, FS.i_sub, FS.i_mul, FS.i_mod, FS.i_fdiv, FS.i_lt, FS.i_le, FS.i_gt, FS.i_ge, FS.i_neg, decide_eq_true_eq, if_true, if_false, Bool.false_eq_true, Int.reduceLT, Int.reduceLE, Int.reduceNeg, Int.reducePow, reduceIte, and_self, true_or, or_true, true_and, and_true, FS.tY, FS.r1x]
    refine exchanged_ok hs hW hl hf hst fun n s1 h1 hn f1 => ?_
    rw [FS.w_seq, FS.w_sif]
    simp only [FS.w_c, FS.w_bin, FS.w_un, FS.w_call, FS.w_callG, FS.w_nil, FS.w_cons, FS.w_tOfE, FS.w_bNot, FS.w_bAnd, FS.w_bOr, FS.w_if, FS.w_tup, FS.w_lst, FS.w_dict0, FS.w_oNone, FS.w_oSome, FS.w_sl, FS.w_mt, FS.w_iOf, FS.w_iItems, FS.w_iValues, FS.w_lc, FS.w_dc, FS.w_lc2, FS.w_var, FS.okR_ok, FS.okO_some, FS.okR_ite, FS.okO_ite, List.getElem?_cons_zero, List.getElem?_cons_succ, List.set_cons_zero, List.set_cons_succ, FS.i_add, FS.i_sub, FS.i_mul, FS.i_mod, FS.i_fdiv, FS.i_lt, FS.i_le, FS.i_gt, FS.i_ge, FS.i_neg, decide_eq_true_eq, if_true, if_false, Bool.false_eq_true, Int.reduceLT, Int.reduceLE, Int.reduceNeg, Int.reducePow, reduceIte, and_self, true_or, or_true, true_and, and_true, FS.tY, FS.r1x]
    rw [show ∀ P : PV → Sto → Prop, okO (cIs s1 .non .non) P = P (.bl true) s1 from fun P => by simp [cIs, okO]]
    try dsimp only
    rw [if_pos rfl, FS.w_ret]
    simp only [FS.w_c, FS.w_bin, FS.w_un, FS.w_call, FS.w_callG, FS.w_nil, FS.w_cons, FS.w_tOfE, FS.w_bNot, FS.w_bAnd, FS.w_bOr, FS.w_if, FS.w_tup, FS.w_lst, FS.w_dict0, FS.w_oNone, FS.w_oSome, FS.w_sl, FS.w_mt, FS.w_iOf, FS.w_iItems, FS.w_iValues, FS.w_lc, FS.w_dc, FS.w_lc2, FS.w_var, FS.okR_ok, FS.okO_some, FS.okR_ite, FS.okO_ite, List.getElem?_cons_zero, List.getElem?_cons_succ, List.set_cons_zero, List.set_cons_succ, FS.i_add, FS.i_sub, FS.i_mul, FS.i_mod, FS.i_fdiv, FS.i_lt, FS.i_le, FS.i_gt, FS.i_ge, FS.i_neg, decide_eq_true_eq, if_true, if_false, Bool.false_eq_true, Int.reduceLT, Int.reduceLE, Int.reduceNeg, Int.reducePow, reduceIte, and_self, true_or, or_true, true_and, and_true, FS.tY, FS.r1x]
    exact hQ _ _ (fun _ => ⟨n, rfl, h1, hn⟩) (fun z => absurd z (by rw [hst]; decide)) f1
  | false =>
    obtain ⟨s1, e, f1⟩ := exchanged_exc (f := encW f) hs hW hl hst
    refine keep_exc (ρ' := [some (.obj h), some (.str a), some (encW f), some .non, some .non, none, none]) (s' := s1) (X := "NoLetter") ?_ (by decide) ?_
    · show (G_exchanged [.obj h, .str a, encW f] s).thenS _ _ = _
      rw [e]
      rfl
    · have hx := get_push (s := s1) (o := SO.exn s1.length "NoLetter" [])
      have f2 : FS.Fr [] s (s1 ++ [SO.exn s1.length "NoLetter" []]) := f1.pushr _
      generalize (s1 ++ [SO.exn s1.length "NoLetter" []]) = s2 at hx f2 ⊢
      generalize s1.length = n at hx ⊢
      simp only [List.set_cons_zero, List.set_cons_succ]
      rw [FS.w_seq, FS.w_sif]
      simp only [FS.w_c, FS.w_bin, FS.w_un, FS.w_call, FS.w_callG, FS.w_nil, FS.w_cons, FS.w_tOfE, FS.w_bNot, FS.w_bAnd, FS.w_bOr, FS.w_if, FS.w_tup, FS.w_lst, FS.w_dict0, FS.w_oNone, FS.w_oSome, FS.w_sl, FS.w_mt, FS.w_iOf, FS.w_iItems, FS.w_iValues, FS.w_lc, FS.w_dc, FS.w_lc2, FS.w_var, FS.okR_ok, FS.okO_some, FS.okR_ite, FS.okO_ite, List.getElem?_cons_zero, List.getElem?_cons_succ, List.set_cons_zero, List.set_cons_succ, FS.i_add, FS.i_sub, FS.i_mul, FS.i_mod, FS.i_fdiv, FS.i_lt, FS.i_le, FS.i_gt, FS.i_ge, FS.i_neg, decide_eq_true_eq, if_true, if_false, Bool.false_eq_true, Int.reduceLT, Int.reduceLE, Int.reduceNeg, Int.reducePow, reduceIte, and_self, true_or, or_true, true_and, and_true, FS.tY, FS.r1x]
      rw [show ∀ P : PV → Sto → Prop, okO (cIs s2 (.obj n) .non) P = P (.bl false) s2 from fun P => by simp [cIs, okO]]
      try dsimp only
      rw [if_neg Bool.false_ne_true, FS.w_next, FS.w_seq, FS.w_set]
      simp only [FS.w_c, FS.w_bin, FS.w_un, FS.w_call, FS.w_callG, FS.w_nil, FS.w_cons, FS.w_tOfE, FS.w_bNot, FS.w_bAnd, FS.w_bOr, FS.w_if, FS.w_tup, FS.w_lst, FS.w_dict0, FS.w_oNone, FS.w_oSome, FS.w_sl, FS.w_mt, FS.w_iOf, FS.w_iItems, FS.w_iValues, FS.w_lc, FS.w_dc, FS.w_lc2, FS.w_var, FS.okR_ok, FS.okO_some, FS.okR_ite, FS.okO_ite, List.getElem?_cons_zero, List.getElem?_cons_succ, List.set_cons_zero, List.set_cons_succ, FS.i_add, FS.i_sub, FS.i_mul, FS.i_mod, FS.i_fdiv, FS.i_lt, FS.i_le, FS.i_gt, FS.i_ge, FS.i_neg, decide_eq_true_eq, if_true, if_false, Bool.false_eq_true, Int.reduceLT, Int.reduceLE, Int.reduceNeg, Int.reducePow, reduceIte, and_self, true_or, or_true, true_and, and_true, FS.tY, FS.r1x]
      rw [isi_exn (b := false) hx rfl (by decide), isi_exn (b := false) hx rfl (by decide), isi_exn (b := false) hx rfl (by decide), if_pos (by rw [sizeLine_eq]; simp)]
      have f3 := f2.pushr (SO.lst [PV.bl false, PV.bl false, PV.bl false])
      have hm := get_push (s := s2) (o := SO.lst [PV.bl false, PV.bl false, PV.bl false])
      replace hx := get_pushl (u := SO.lst [PV.bl false, PV.bl false, PV.bl false]) hx
      generalize (s2 ++ [SO.lst [PV.bl false, PV.bl false, PV.bl false]]) = s3 at hx f3 hm ⊢
      generalize s2.length = m at hm ⊢
      clear f2
      rw [FS.w_seq, FS.w_set]
      simp only [FS.w_c, FS.w_bin, FS.w_un, FS.w_call, FS.w_callG, FS.w_nil, FS.w_cons, FS.w_tOfE, FS.w_bNot, FS.w_bAnd, FS.w_bOr, FS.w_if, FS.w_tup, FS.w_lst, FS.w_dict0, FS.w_oNone, FS.w_oSome, FS.w_sl, FS.w_mt, FS.w_iOf, FS.w_iItems, FS.w_iValues, FS.w_lc, FS.w_dc, FS.w_lc2, FS.w_var, FS.okR_ok, FS.okO_some, FS.okR_ite, FS.okO_ite, List.getElem?_cons_zero, List.getElem?_cons_succ, List.set_cons_zero, List.set_cons_succ, FS.i_add, FS.i_sub, FS.i_mul, FS.i_mod, FS.i_fdiv, FS.i_lt, FS.i_le, FS.i_gt, FS.i_ge, FS.i_neg, decide_eq_true_eq, if_true, if_false, Bool.false_eq_true, Int.reduceLT, Int.reduceLE, Int.reduceNeg, Int.reducePow, reduceIte, and_self, true_or, or_true, true_and, and_true, FS.tY, FS.r1x]
      rw [isi_exn (b := false) hx rfl (by decide), isi_exn (b := false) hx rfl (by decide), isi_exn (b := false) hx rfl (by decide), if_pos (by rw [sizeLine_eq]; simp)]
      rw [add_lst (get_pushl hm) get_push (by simp)]
      have f4 := (f3.pushr (SO.lst [PV.bl false, PV.bl false, PV.bl false])).pushr (SO.lst [PV.bl false, PV.bl false, PV.bl false, PV.bl false, PV.bl false, PV.bl false])
      replace hx := get_pushl (u := SO.lst [PV.bl false, PV.bl false, PV.bl false, PV.bl false, PV.bl false, PV.bl false]) (get_pushl (u := SO.lst [PV.bl false, PV.bl false, PV.bl false]) hx)
      have hm' := get_push (s := (s3 ++ [SO.lst [PV.bl false, PV.bl false, PV.bl false]])) (o := SO.lst [PV.bl false, PV.bl false, PV.bl false, PV.bl false, PV.bl false, PV.bl false])
      rw [show ([PV.bl false, PV.bl false, PV.bl false] ++ [PV.bl false, PV.bl false, PV.bl false]) = [PV.bl false, PV.bl false, PV.bl false, PV.bl false, PV.bl false, PV.bl false] from rfl]
      generalize hlen3 : (s3 ++ [SO.lst [PV.bl false, PV.bl false, PV.bl false]]).length = m3 at hm' ⊢
      generalize (s3 ++ [SO.lst [PV.bl false, PV.bl false, PV.bl false]] ++ [SO.lst [PV.bl false, PV.bl false, PV.bl false, PV.bl false, PV.bl false, PV.bl false]]) = s4 at hx f4 hm' ⊢
      clear hlen3 hm f3
      rw [FS.w_seq, FS.w_set]
      simp only [FS.w_c, FS.w_bin, FS.w_un, FS.w_call, FS.w_callG, FS.w_nil, FS.w_cons, FS.w_tOfE, FS.w_bNot, FS.w_bAnd, FS.w_bOr, FS.w_if, FS.w_tup, FS.w_lst, FS.w_dict0, FS.w_oNone, FS.w_oSome, FS.w_sl, FS.w_mt, FS.w_iOf, FS.w_iItems, FS.w_iValues, FS.w_lc, FS.w_dc, FS.w_lc2, FS.w_var, FS.okR_ok, FS.okO_some, FS.okR_ite, FS.okO_ite, List.getElem?_cons_zero, List.getElem?_cons_succ, List.set_cons_zero, List.set_cons_succ, FS.i_add, FS.i_sub, FS.i_mul, FS.i_mod, FS.i_fdiv, FS.i_lt, FS.i_le, FS.i_gt, FS.i_ge, FS.i_neg, decide_eq_true_eq, if_true, if_false, Bool.false_eq_true, Int.reduceLT, Int.reduceLE, Int.reduceNeg, Int.reducePow, reduceIte, and_self, true_or, or_true, true_and, and_true, FS.tY, FS.r1x]
      rw [isi_exn (b := false) hx rfl (by decide), isi_exn (b := false) hx rfl (by decide), isi_exn (b := false) hx rfl (by decide), if_pos (by rw [sizeLine_eq]; simp)]
      rw [add_lst (get_pushl hm') get_push (by simp)]
      have f5 := (f4.pushr (SO.lst [PV.bl false, PV.bl false, PV.bl false])).pushr (SO.lst [PV.bl false, PV.bl false, PV.bl false, PV.bl false, PV.bl false, PV.bl false, PV.bl false, PV.bl false, PV.bl false])
      replace hx := get_pushl (u := SO.lst [PV.bl false, PV.bl false, PV.bl false, PV.bl false, PV.bl false, PV.bl false, PV.bl false, PV.bl false, PV.bl false]) (get_pushl (u := SO.lst [PV.bl false, PV.bl false, PV.bl false]) hx)
      have hm'' := get_push (s := (s4 ++ [SO.lst [PV.bl false, PV.bl false, PV.bl false]])) (o := SO.lst [PV.bl false, PV.bl false, PV.bl false, PV.bl false, PV.bl false, PV.bl false, PV.bl false, PV.bl false, PV.bl false])
      rw [show ([PV.bl false, PV.bl false, PV.bl false, PV.bl false, PV.bl false, PV.bl false] ++ [PV.bl false, PV.bl false, PV.bl false]) = [PV.bl false, PV.bl false, PV.bl false, PV.bl false, PV.bl false, PV.bl false, PV.bl false, PV.bl false, PV.bl false] from rfl]
      generalize hlen4 : (s4 ++ [SO.lst [PV.bl false, PV.bl false, PV.bl false]]).length = m4 at hm'' ⊢
      generalize (s4 ++ [SO.lst [PV.bl false, PV.bl false, PV.bl false]] ++ [SO.lst [PV.bl false, PV.bl false, PV.bl false, PV.bl false, PV.bl false, PV.bl false, PV.bl false, PV.bl false, PV.bl false]]) = s5 at hx f5 hm'' ⊢
      clear hlen4 hm' f4
      rw [FS.w_seq, FS.w_set]
      simp only [FS.w_c, FS.w_bin, FS.w_un, FS.w_call, FS.w_callG, FS.w_nil, FS.w_cons, FS.w_tOfE, FS.w_bNot, FS.w_bAnd, FS.w_bOr, FS.w_if, FS.w_tup, FS.w_lst, FS.w_dict0, FS.w_oNone, FS.w_oSome, FS.w_sl, FS.w_mt, FS.w_iOf, FS.w_iItems, FS.w_iValues, FS.w_lc, FS.w_dc, FS.w_lc2, FS.w_var, FS.okR_ok, FS.okO_some, FS.okR_ite, FS.okO_ite, List.getElem?_cons_zero, List.getElem?_cons_succ, List.set_cons_zero, List.set_cons_succ, FS.i_add, FS.i_sub, FS.i_mul, FS.i_mod, FS.i_fdiv, FS.i_lt, FS.i_le, FS.i_gt, FS.i_ge, FS.i_neg, decide_eq_true_eq, if_true, if_false, Bool.false_eq_true, Int.reduceLT, Int.reduceLE, Int.reduceNeg, Int.reducePow, reduceIte, and_self, true_or, or_true, true_and, and_true, FS.tY, FS.r1x]
      rw [isi_exn (b := false) hx rfl (by decide), isi_exn (b := false) hx rfl (by decide), isi_exn (b := false) hx rfl (by decide), if_pos (by rw [sizeLine_eq]; simp)]
      rw [add_lst (get_pushl hm'') get_push (by simp)]
      have f6 := (f5.pushr (SO.lst [PV.bl false, PV.bl false, PV.bl false])).pushr (SO.lst [PV.bl false, PV.bl false, PV.bl false, PV.bl false, PV.bl false, PV.bl false, PV.bl false, PV.bl false, PV.bl false, PV.bl false, PV.bl false, PV.bl false])
      replace hx := get_pushl (u := SO.lst [PV.bl false, PV.bl false, PV.bl false, PV.bl false, PV.bl false, PV.bl false, PV.bl false, PV.bl false, PV.bl false, PV.bl false, PV.bl false, PV.bl false]) (get_pushl (u := SO.lst [PV.bl false, PV.bl false, PV.bl false]) hx)
      have hm''' := get_push (s := (s5 ++ [SO.lst [PV.bl false, PV.bl false, PV.bl false]])) (o := SO.lst [PV.bl false, PV.bl false, PV.bl false, PV.bl false, PV.bl false, PV.bl false, PV.bl false, PV.bl false, PV.bl false, PV.bl false, PV.bl false, PV.bl false])
      rw [show ([PV.bl false, PV.bl false, PV.bl false, PV.bl false, PV.bl false, PV.bl false, PV.bl false, PV.bl false, PV.bl false] ++ [PV.bl false, PV.bl false, PV.bl false]) = [PV.bl false, PV.bl false, PV.bl false, PV.bl false, PV.bl false, PV.bl false, PV.bl false, PV.bl false, PV.bl false, PV.bl false, PV.bl false, PV.bl false] from rfl]
      generalize hlen5 : (s5 ++ [SO.lst [PV.bl false, PV.bl false, PV.bl false]]).length = m5 at hm''' ⊢
      generalize (s5 ++ [SO.lst [PV.bl false, PV.bl false, PV.bl false]] ++ [SO.lst [PV.bl false, PV.bl false, PV.bl false, PV.bl false, PV.bl false, PV.bl false, PV.bl false, PV.bl false, PV.bl false, PV.bl false, PV.bl false, PV.bl false]]) = s6 at hx f6 hm''' ⊢
      clear hlen5 hm'' f5
      rw [FS.w_seq, FS.w_sif]
      simp only [FS.w_c, FS.w_bin, FS.w_un, FS.w_call, FS.w_callG, FS.w_nil, FS.w_cons, FS.w_tOfE, FS.w_bNot, FS.w_bAnd, FS.w_bOr, FS.w_if, FS.w_tup, FS.w_lst, FS.w_dict0, FS.w_oNone, FS.w_oSome, FS.w_sl, FS.w_mt, FS.w_iOf, FS.w_iItems, FS.w_iValues, FS.w_lc, FS.w_dc, FS.w_lc2, FS.w_var, FS.okR_ok, FS.okO_some, FS.okR_ite, FS.okO_ite, List.getElem?_cons_zero, List.getElem?_cons_succ, List.set_cons_zero, List.set_cons_succ, FS.i_add, FS.i_sub, FS.i_mul, FS.i_mod, FS.i_fdiv, FS.i_lt, FS.i_le, FS.i_gt, FS.i_ge, FS.i_neg, decide_eq_true_eq, if_true, if_false, Bool.false_eq_true, Int.reduceLT, Int.reduceLE, Int.reduceNeg, Int.reducePow, reduceIte, and_self, true_or, or_true, true_and, and_true, FS.tY, FS.r1x]
      rw [show ∀ P : PV → Sto → Prop, okO (cIn s6 (.bl true) (.obj m5)) P = P (.bl false) s6 from fun P => by
        have e : inF s6 (.bl true) (.obj m5) = some false := by simp [inF, dctOf, seqOf, hm''', flatP, eqP]
        unfold cIn
        rw [e]
        exact FS.okO_some]
      try dsimp only
      rw [if_neg Bool.false_ne_true, isi_exn (b := true) hx rfl (by decide)]
      try dsimp only
      rw [if_neg (by decide), isi_exn (b := true) hx rfl (by decide)]
      try dsimp only
      rw [if_neg (by decide), FS.w_next, FS.w_seq, FS.w_ret]
      simp only [FS.w_c, FS.w_bin, FS.w_un, FS.w_call, FS.w_callG, FS.w_nil, FS.w_cons, FS.w_tOfE, FS.w_bNot, FS.w_bAnd, FS.w_bOr, FS.w_if, FS.w_tup, FS.w_lst, FS.w_dict0, FS.w_oNone, FS.w_oSome, FS.w_sl, FS.w_mt, FS.w_iOf, FS.w_iItems, FS.w_iValues, FS.w_lc, FS.w_dc, FS.w_lc2, FS.w_var, FS.okR_ok, FS.okO_some, FS.okR_ite, FS.okO_ite, List.getElem?_cons_zero, List.getElem?_cons_succ, List.set_cons_zero, List.set_cons_succ, FS.i_add, FS.i_sub, FS.i_mul, FS.i_mod, FS.i_fdiv, FS.i_lt, FS.i_le, FS.i_gt, FS.i_ge, FS.i_neg, decide_eq_true_eq, if_true, if_false, Bool.false_eq_true, Int.reduceLT, Int.reduceLE, Int.reduceNeg, Int.reducePow, reduceIte, and_self, true_or, or_true, true_and, and_true, FS.tY, FS.r1x]
      exact hQ _ _ (fun z => absurd z (by rw [hst]; decide)) (fun _ => rfl) f6

/-! ### alike -/
theorem toTs_strs : ∀ (l : List Str), toTs (l.map PV.str) = some (l.map PyData.str)
  | [] => rfl
  | x :: l => by
    show ((toT (PV.str x)).bind fun d => (toTs (l.map PV.str)).map (d :: ·)) = _
    rw [toTs_strs l]; rfl
theorem showable_strs : ∀ (l : List Str), PyData.showableAll (l.map PyData.str) = true
  | [] => by simp [PyData.showableAll]
  | x :: l => by simp [PyData.showableAll, PyData.showable, showable_strs l]
theorem noDict_strs : ∀ (l : List Str), PyData.hasDictAll (l.map PyData.str) = false
  | [] => by simp [PyData.hasDictAll]
  | x :: l => by simp [PyData.hasDictAll, PyData.hasDict, noDict_strs l]
theorem depth_strs : ∀ (l : List Str), PyData.depthAll (l.map PyData.str) = 0
  | [] => by simp [PyData.depthAll]
  | x :: l => by simp [PyData.depthAll, PyData.depth, depth_strs l]
theorem weight_strs {n : Nat} : ∀ {l : List Str}, (∀ x ∈ l, asc n x) → PyData.weightAll (l.map PyData.str) ≤ l.length * (n + 1)
  | [], _ => by simp [PyData.weightAll]
  | x :: l, h => by
    have h1 := (h x List.mem_cons_self).1
    have h2 := weight_strs (l := l) fun y hy => h y (List.mem_cons_of_mem _ hy)
    have e : x.cps.size = x.length := rfl
    simp only [List.map_cons, PyData.weightAll, PyData.weight, List.length_cons, Nat.succ_mul]
    omega
theorem short_strs {n : Nat} : ∀ {l : List Str}, (∀ x ∈ l, asc n x) → PyData.leavesShortAll 8 (l.map PyData.str) = true
  | [], _ => by simp [PyData.leavesShortAll]
  | x :: l, h => by
    have h1 := (h x List.mem_cons_self).2
    have h2 := short_strs (l := l) fun y hy => h y (List.mem_cons_of_mem _ hy)
    simp only [List.map_cons, PyData.leavesShortAll, PyData.leavesShort, h2, Bool.and_true, List.all_eq_true, decide_eq_true_eq]
    intro c hc
    have := h1 c hc
    omega
theorem repr_enc {s : Sto} {l : List Str} {P : PV → Sto → Prop} (hl : l.length ≤ 100) (h : ∀ x ∈ l, asc 16 x) : okO (reprF s [encW l]) P = P (.str (PyData.tuple (l.map .str)).shown) s := by
  have e1 : toD s (encW l) = some (.tuple (l.map .str)) := by
    show (toTs (l.map PV.str)).map PyData.tuple = _
    rw [toTs_strs]; rfl
  have c1 : (PyData.tuple (l.map .str)).showable = true := by simp only [PyData.showable]; exact showable_strs l
  have c2 : (PyData.tuple (l.map .str)).hasDict = false := by simp only [PyData.hasDict]; exact noDict_strs l
  have c3 : (PyData.tuple (l.map .str)).depth + 1 ≤ 64 := by simp only [PyData.depth, depth_strs l]; omega
  have c4 : (PyData.tuple (l.map .str)).shown.length ≤ sizeLine := by
    have h1 := PyData.shown_le 8 (Nat.le_refl _) (PyData.tuple (l.map .str)) (by simp only [PyData.leavesShort]; exact short_strs h)
    have h2 := weight_strs h
    have h3 : (PyData.tuple (l.map .str)).weight = PyData.weightAll (l.map .str) := by simp only [PyData.weight]
    rw [h3] at h1
    rw [sizeLine_eq]
    omega
  show okO (if isRefP (encW l) = true then (toD s (encW l)).bind fun d => if d.showable = true ∧ d.hasDict = false ∧ d.depth + 1 ≤ 64 ∧ d.shown.length ≤ sizeLine then some (PV.str d.shown, s) else none else none) P = _
  rw [if_pos (show isRefP (encW l) = true from rfl), e1, Option.bind_some, if_pos ⟨c1, c2, c3, c4⟩]
  exact FS.okO_some
theorem same_ok {s : Sto} {l : List Str} {Q : PV → Sto → Prop} (hl : l.length ≤ 100) (h : ∀ x ∈ l, asc 16 x) (hQ : Q (.bl true) s) : okR (G_law_same [encW l, encW l] s) Q := by
  refine okR_fnF rfl ?_
  show okS ((_ : SF) [some (encW l), some (encW l)] s) _ _ _ _
  rw [FS.w_ret]
  simp only [FS.w_c, FS.w_bin, FS.w_un, FS.w_call, FS.w_callG, FS.w_nil, FS.w_cons, FS.w_tOfE, FS.w_bNot, FS.w_bAnd, FS.w_bOr, FS.w_if, FS.w_tup, FS.w_lst, FS.w_dict0, FS.w_oNone, FS.w_oSome, FS.w_sl, FS.w_mt, FS.w_iOf, FS.w_iItems, FS.w_iValues, FS.w_lc, FS.w_dc, FS.w_lc2, FS.w_var, FS.okR_ok, FS.okO_some, FS.okR_ite, FS.okO_ite, List.getElem?_cons_zero, List.getElem?_cons_succ, List.set_cons_zero, List.set_cons_succ, FS.i_add, FS.i_sub, FS.i_mul, FS.i_mod, FS.i_fdiv, FS.i_lt, FS.i_le, FS.i_gt, FS.i_ge, FS.i_neg, decide_eq_true_eq, if_true, if_false, Bool.false_eq_true, Int.reduceLT, Int.reduceLE, Int.reduceNeg, Int.reducePow, reduceIte, and_self, true_or, or_true, true_and, and_true, FS.tY, FS.r1x]
  rw [repr_enc hl h, repr_enc hl h, eq_str]
  simpa using hQ
theorem toL_strs (s : Sto) : ∀ (ss : List Str), (ss.map PV.str).mapM (toL s toT) = some (ss.map PyData.str)
  | [] => rfl
  | x :: r => by rw [List.map_cons, List.mapM_cons, toL_strs s r]; rfl
theorem lay_strs {n : Nat} : ∀ {ss : List Str}, (∀ x ∈ ss, asc n x) → PyData.canLayAll0 (ss.map PyData.str) = true
  | [], _ => by simp [PyData.canLayAll0]
  | x :: r, h => by
    simp only [List.map_cons, PyData.canLayAll0, PyData.canLay0, asc_ok (h x List.mem_cons_self), Bool.true_and]
    exact lay_strs fun y hy => h y (List.mem_cons_of_mem _ hy)
theorem eqv_strs : ∀ (ss : List Str), PyData.eqvAll (ss.map PyData.str) (ss.map PyData.str) = true
  | [] => by simp [PyData.eqvAll]
  | x :: r => by simp [PyData.eqvAll, PyData.eqv, eqv_strs r]
theorem eq_lsts {s : Sto} {i j : Nat} {ss : List Str} (h : s[i]? = some (.lst (ss.map .str))) (k : s[j]? = some (.lst (ss.map .str))) (ha : ∀ x ∈ ss, asc 16 x) : eqF s (.obj i) (.obj j) = some true := by
  have e1 : ∀ n, s[n]? = some (.lst (ss.map .str)) → toD s (.obj n) = some (.list (ss.map .str)) := fun n hn => by
    have e : lstOf s (.obj n) = some (ss.map .str) := by simp [lstOf, hn]
    show ((lstOf s (.obj n)).bind fun xs => (xs.mapM (toL s toT)).map PyData.list) = _
    rw [e, Option.bind_some, toL_strs]; rfl
  have c : SeqAt.shaped (PyData.list (ss.map .str)) = true := by
    unfold SeqAt.shaped
    simp only [PyData.canLay0, lay_strs ha, PyData.depth, depth_strs ss, Bool.true_and]
    decide
  show eqG s (.obj i) (.obj j) = some true
  unfold eqG
  rw [e1 i h, e1 j k]
  try dsimp only
  rw [if_pos ⟨c, c⟩]
  simp only [PyData.eqv, eqv_strs]
structure OkM (M : Bk) : Prop where
  nd : (M.map (·.1)).Nodup
  ky : ∀ p ∈ M, asc 16 p.1
  wd : ∀ p ∈ M, p.2.length ≤ 100 ∧ ∀ x ∈ p.2, asc 16 x
  ln : M.length ≤ 8
theorem list_dct {s : Sto} {n : Nat} {M : Bk} {P : PV → Sto → Prop} (h : s[n]? = some (.dct (enc M))) : okO (listF s [.obj n]) P = P (.obj s.length) (s ++ [.lst ((M.map (·.1)).map .str)]) := by
  have e : (enc M).map (·.1) = (M.map (·.1)).map .str := by unfold enc; rw [List.map_map, List.map_map]; rfl
  have e1 : dctOf s (.obj n) = some (enc M) := by simp [dctOf, h]
  show okO (match dctOf s (.obj n) with | some kvs => some (PV.obj s.length, s ++ [SO.lst (kvs.map (·.1))]) | none => _) P = _
  rw [e1]
  try dsimp only
  rw [e]
  exact FS.okO_some
theorem sort_lst {s : Sto} {n : Nat} {ss : List Str} {P : PV → Sto → Prop} (h : s[n]? = some (.lst (ss.map .str))) (hl : ss.length ≤ 8) : okO (sortedF s [.obj n]) P = P (.obj s.length) (s ++ [.lst ((sortT ss).map .str)]) := by
  have e : lstOf s (.obj n) = some (ss.map .str) := by simp [lstOf, h]
  show okO ((lstOf s (.obj n)).bind fun ys => if ys.length < 64 then
      match ys.mapM strOfP with
      | some ss => some (PV.obj s.length, s ++ [SO.lst ((sortT ss).map .str)])
      | none => (ys.mapM intOfP).map fun ns => (PV.obj s.length, s ++ [SO.lst ((sortZ ns).map .int)])
    else none) P = _
  rw [e, Option.bind_some, if_pos (by rw [List.length_map]; omega), mapM_strs]
  exact FS.okO_some
theorem alike_ok {s : Sto} {f d : Nat} {M : Bk} {Q : PV → Sto → Prop} (h1 : s[f]? = some (.dct (enc M))) (h2 : s[d]? = some (.dct (enc M))) (hM : OkM M) (hQ : ∀ s', FS.Fr [] s s' → Q (.bl true) s') : okR (G_law_alike [.obj f, .obj d] s) Q := by
  refine okR_fnF rfl ?_
  show okS ((_ : SF) [some (.obj f), some (.obj d), none] s) _ _ _ _
  rw [FS.w_seq, FS.w_sif]
  simp only [FS.w_c, FS.w_bin, FS.w_un, FS.w_call, FS.w_callG, FS.w_nil, FS.w_cons, FS.w_tOfE, FS.w_bNot, FS.w_bAnd, FS.w_bOr, FS.w_if, FS.w_tup, FS.w_lst, FS.w_dict0, FS.w_oNone, FS.w_oSome, FS.w_sl, FS.w_mt, FS.w_iOf, FS.w_iItems, FS.w_iValues, FS.w_lc, FS.w_dc, FS.w_lc2, FS.w_var, FS.okR_ok, FS.okO_some, FS.okR_ite, FS.okO_ite, List.getElem?_cons_zero, List.getElem?_cons_succ, List.set_cons_zero, List.set_cons_succ, FS.i_add, FS.i_sub, FS.i_mul, FS.i_mod, FS.i_fdiv, FS.i_lt, FS.i_le, FS.i_gt, FS.i_ge, FS.i_neg, decide_eq_true_eq, if_true, if_false, Bool.false_eq_true, Int.reduceLT, Int.reduceLE, Int.reduceNeg, Int.reducePow, reduceIte, and_self, true_or, or_true, true_and, and_true, FS.tY, FS.r1x]
  rw [show ∀ P : PV → Sto → Prop, okO (isiF tabI s [.obj f, .ty "dict"]) P = P (.bl true) s from fun P => by
    have ht : tabI (.bt "dict") (.bt "dict") = some true := by decide
    simp [isiF, tkOf, h1, tkCls, ht, okO]]
  try dsimp only
  rw [if_neg (by decide), list_dct h1, sort_lst get_push (by rw [List.length_map]; exact hM.ln)]
  rw [list_dct (get_pushl (get_pushl h2)), sort_lst get_push (by rw [List.length_map]; exact hM.ln)]
  have hasc : ∀ x ∈ sortT (M.map (·.1)), asc 16 x := fun x hx => by
    have := (List.mergeSort_perm (M.map (·.1)) leT).mem_iff.mp hx
    obtain ⟨p, hp, rfl⟩ := List.mem_map.mp this
    exact hM.ky p hp
  generalize (M.map (·.1)) = ks at hasc ⊢
  have g1 : FS.Fr [] s (s ++ [SO.lst (ks.map .str)] ++ [SO.lst ((sortT ks).map .str)] ++ [SO.lst (ks.map .str)] ++ [SO.lst ((sortT ks).map .str)]) := (((FS.Fr.push _).pushr _).pushr _).pushr _
  have q1 : (s ++ [SO.lst (ks.map .str)] ++ [SO.lst ((sortT ks).map .str)] ++ [SO.lst (ks.map .str)] ++ [SO.lst ((sortT ks).map .str)])[(s ++ [SO.lst (ks.map PV.str)]).length]? = some (.lst ((sortT ks).map .str)) := get_pushl (get_pushl get_push)
  have q2 := get_push (s := (s ++ [SO.lst (ks.map PV.str)] ++ [SO.lst ((sortT ks).map .str)] ++ [SO.lst (ks.map .str)])) (o := SO.lst ((sortT ks).map .str))
  generalize (s ++ [SO.lst (ks.map PV.str)] ++ [SO.lst ((sortT ks).map .str)] ++ [SO.lst (ks.map .str)]).length = j2 at q2 ⊢
  generalize (s ++ [SO.lst (ks.map PV.str)]).length = j1 at q1 ⊢
  generalize (s ++ [SO.lst (ks.map .str)] ++ [SO.lst ((sortT ks).map .str)] ++ [SO.lst (ks.map .str)] ++ [SO.lst ((sortT ks).map .str)]) = s1 at g1 q1 q2 ⊢
  rw [show ∀ P : PV → Sto → Prop, okO (cNe s1 (.obj j1) (.obj j2)) P = P (.bl false) s1 from fun P => by
    unfold cNe
    rw [eq_lsts q1 q2 hasc]
    exact FS.okO_some]
  try dsimp only
  rw [if_neg Bool.false_ne_true, FS.w_next, FS.w_seq, FS.w_ret, FS.w_bin]
  have k1 := g1.get h1 (by simp)
  have k2 := g1.get h2 (by simp)
  refine w_lock (n := d) (s0 := s1) rfl k2 ?_
  rw [FS.w_lc]
  have kl := lock_get (u := SO.frz (.dct (enc M))) k2
  have el : (s1.set d (SO.frz (.dct (enc M)))).length = s1.length := by simp
  have kf : (s1.set d (SO.frz (.dct (enc M))))[f]? = some (.dct (enc M)) ∨ (s1.set d (SO.frz (.dct (enc M))))[f]? = some (.frz (.dct (enc M))) := by
    by_cases e : d = f
    · subst e; exact .inr kl
    · rw [List.getElem?_set_ne e]; exact .inl k1
  generalize hs2 : s1.set d (SO.frz (.dct (enc M))) = s2 at kl kf el ⊢
  rw [FS.w_iOf]
  simp only [FS.w_var, List.getElem?_cons_zero, List.getElem?_cons_succ]
  rw [show okR (R.ofI (valIt s2 (.obj d)) s2) = fun PI => PI ⟨(enc M).map (·.1), fun _ => true⟩ s2 from by
    funext PI
    have : valIt s2 (.obj d) = some ⟨(enc M).map (·.1), fun _ => true⟩ := by simp [valIt, kl]
    rw [this]
    show okR (R.ok _ s2) PI = _
    rw [FS.okR_ok]]
  refine comp_ok (I := fun i acc s3 => acc = [] ∧ s3[s2.length]? = some (.lst []) ∧ FS.Fr [] s2 s3) (i := 0) ⟨rfl, get_push, FS.Fr.push _⟩ (fun _ _ _ _ => rfl) (fun i x acc s3 hx hI => ?_) fun acc s3 ⟨e, h3, f3⟩ => ?_
  · obtain ⟨rfl, h3, f3⟩ := hI
    have hi : i < M.length := by
      have := (List.getElem?_eq_some_iff.mp hx).1
      simpa [enc] using this
    have ex : x = .str M[i].1 := by
      simp [enc, List.getElem?_eq_getElem hi] at hx
      exact hx.symm
    subst ex
    refine ⟨[some (.obj f), some (.obj d), some (.str M[i].1)], run_nm, ?_⟩
    simp only [FS.w_c, FS.w_bin, FS.w_un, FS.w_call, FS.w_callG, FS.w_nil, FS.w_cons, FS.w_tOfE, FS.w_bNot, FS.w_bAnd, FS.w_bOr, FS.w_if, FS.w_tup, FS.w_lst, FS.w_dict0, FS.w_oNone, FS.w_oSome, FS.w_sl, FS.w_mt, FS.w_iOf, FS.w_iItems, FS.w_iValues, FS.w_lc, FS.w_dc, FS.w_lc2, FS.w_var, FS.okR_ok, FS.okO_some, FS.okR_ite, FS.okO_ite, List.getElem?_cons_zero, List.getElem?_cons_succ, List.set_cons_zero, List.set_cons_succ, FS.i_add, FS.i_sub, FS.i_mul, FS.i_mod, FS.i_fdiv, FS.i_lt, FS.i_le, FS.i_gt, FS.i_ge, FS.i_neg, decide_eq_true_eq, if_true, if_false, Bool.false_eq_true, Int.reduceLT, Int.reduceLE, Int.reduceNeg, Int.reducePow, reduceIte, and_self, true_or, or_true, true_and, and_true, FS.tY, FS.r1x]
    have hget := getP_enc (W := M) (i := i) (p := M[i]) hM.nd (List.getElem?_eq_getElem hi)
    have r1 : s3[f]? = some (.dct (enc M)) ∨ s3[f]? = some (.frz (.dct (enc M))) := kf.imp (fun z => f3.get z (by simp)) fun z => f3.get z (by simp)
    have r2 : s3[d]? = some (.dct (enc M)) ∨ s3[d]? = some (.frz (.dct (enc M))) := .inr (f3.get kl (by simp))
    rw [show okO (ixF s3 (.obj f) (.str M[i].1)) = okO (ixF s3 (.obj f) (keyP (.inr M[i].1))) from rfl, ix_dct (k := .inr M[i].1) r1 hget]
    rw [show okO (ixF s3 (.obj d) (.str M[i].1)) = okO (ixF s3 (.obj d) (keyP (.inr M[i].1))) from rfl, ix_dct (k := .inr M[i].1) r2 hget]
    have hw := hM.wd M[i] (List.getElem_mem hi)
    refine same_ok hw.1 hw.2 ?_
    try dsimp only
    rw [if_neg (by decide)]
    first
      | exact ⟨rfl, h3, f3⟩
      | exact ⟨h3, f3⟩
  · subst e
    have hf : FS.Fr [] s1 (s3.set d (.dct (enc M))) := by
      subst hs2
      exact lock_fr k2 f3
    refine ⟨f3.get kl (by simp), ?_⟩
    simp only [FS.w_c, FS.w_bin, FS.w_un, FS.w_call, FS.w_callG, FS.w_nil, FS.w_cons, FS.w_tOfE, FS.w_bNot, FS.w_bAnd, FS.w_bOr, FS.w_if, FS.w_tup, FS.w_lst, FS.w_dict0, FS.w_oNone, FS.w_oSome, FS.w_sl, FS.w_mt, FS.w_iOf, FS.w_iItems, FS.w_iValues, FS.w_lc, FS.w_dc, FS.w_lc2, FS.w_var, FS.okR_ok, FS.okO_some, FS.okR_ite, FS.okO_ite, List.getElem?_cons_zero, List.getElem?_cons_succ, List.set_cons_zero, List.set_cons_succ, FS.i_add, FS.i_sub, FS.i_mul, FS.i_mod, FS.i_fdiv, FS.i_lt, FS.i_le, FS.i_gt, FS.i_ge, FS.i_neg, decide_eq_true_eq, if_true, if_false, Bool.false_eq_true, Int.reduceLT, Int.reduceLE, Int.reduceNeg, Int.reducePow, reduceIte, and_self, true_or, or_true, true_and, and_true, FS.tY, FS.r1x]
    rw [if_pos (by rw [sizeLine_eq]; simp)]
    have hd := get_lt k2
    have w1 : (s3.set d (SO.dct (enc M)))[s2.length]? = some (.lst (([] : List Str).map .str)) := by
      rw [List.getElem?_set_ne (by omega)]; exact h3
    rw [show ∀ P : PV → Sto → Prop, okO (cEq (s3.set d (SO.dct (enc M)) ++ [SO.lst []]) (.obj s2.length) (.obj (s3.set d (SO.dct (enc M))).length)) P = P (.bl true) (s3.set d (SO.dct (enc M)) ++ [SO.lst []]) from fun P => by
      have e : eqF (s3.set d (SO.dct (enc M)) ++ [SO.lst []]) (.obj s2.length) (.obj (s3.set d (SO.dct (enc M))).length) = some true := eq_lsts (ss := []) (get_pushl w1) get_push nofun
      unfold cEq
      rw [e]
      exact FS.okO_some]
    exact hQ _ ((g1.trans hf).pushr _)
end K61

namespace K61
open PySem PySem.Spec PyProof.Rows L2 FS
theorem cutP_strs (xs : List Str) (hi : Int) (h0 : 0 ≤ hi) : cutP (xs.map .str) none (some hi) = (xs.take hi.toNat).map .str := by
  unfold cutP
  have e1 : HT.sIx (xs.map PV.str).length 0 none = 0 := rfl
  have e2 : HT.sIx (xs.map PV.str).length (xs.map PV.str).length (some hi) = min hi.toNat xs.length := by
    show (if hi < 0 then _ else min hi.toNat (xs.map PV.str).length) = _
    rw [if_neg (by omega), List.length_map]
  rw [e1, e2, List.drop_zero, Nat.sub_zero, ← List.map_take]
  congr 1
  rw [List.take_eq_take_iff]
  omega
theorem rev_enc {s : Sto} {l : List Str} {P : PV → Sto → Prop} : okO (revF s (encW l)) P = P (encW l.reverse) s := by simp [revF, encW, okO]
/-- d[k] = v behind the first i keys -/
theorem put_next {W : Bk} {F : List Str → List Str} {i : Nat} (nd : (W.map (·.1)).Nodup) (hi : i < W.length) :
    putP (enc ((W.take i).map fun p => (p.1, F p.2))) (.str W[i].1) (encW (F W[i].2)) = enc ((W.take (i + 1)).map fun p => (p.1, F p.2)) := by
  rw [putP_new]
  · rw [List.take_succ_eq_append_getElem hi, List.map_append]
    rfl
  · rw [List.map_map]
    intro hm
    obtain ⟨p, hp, e4⟩ := List.mem_map.mp hm
    obtain ⟨j, hj, e5⟩ := List.mem_iff_getElem.mp hp
    have hjl : j < i := by rw [List.length_take] at hj; omega
    rw [List.getElem_take] at e5
    have := List.pairwise_iff_getElem.mp nd j i (by rw [List.length_map]; omega) (by rw [List.length_map]; omega) hjl
    refine this ?_
    rw [List.getElem_map, List.getElem_map, e5]
    exact e4
theorem set_next {s : Sto} {n : Nat} {W : Bk} {F : List Str → List Str} {i : Nat} (h : s[n]? = some (.dct (enc ((W.take i).map fun p => (p.1, F p.2))))) (nd : (W.map (·.1)).Nodup) (hi : i < W.length) (hl : W.length ≤ 8) :
    setF s (.obj n) (.str W[i].1) (encW (F W[i].2)) = some (s.set n (.dct (enc ((W.take (i + 1)).map fun p => (p.1, F p.2))))) := by
  have hlen : (enc ((W.take i).map fun p => (p.1, F p.2))).length < sizeLine := by
    unfold enc
    rw [List.length_map, List.length_map, List.length_take]
    exact Nat.lt_of_lt_of_le (show min i W.length < 1000 by omega) (sL _ (by decide))
  rw [show setF s (.obj n) (.str W[i].1) (encW (F W[i].2)) = some _ from set_dct (k := .inr W[i].1) h hlen, show keyP (.inr W[i].1) = PV.str W[i].1 from rfl, put_next nd hi]
theorem keys_lk {s : Sto} {n : Nat} {W : Bk} {PI : ItD → Sto → Prop} (h : s[n]? = some (.frz (.dct (enc W)))) : okR (R.ofI (valIt s (.obj n)) s) PI = PI ⟨(enc W).map (·.1), fun _ => true⟩ s := by
  have : valIt s (.obj n) = some ⟨(enc W).map (·.1), fun _ => true⟩ := by simp [valIt, h]
  rw [this]
  show okR (R.ok _ s) PI = _
  rw [FS.okR_ok]
theorem key_at {W : Bk} {j : Nat} {x : PV} (hx : ((enc W).map (·.1))[j]? = some x) : ∃ hj : j < W.length, x = .str W[j].1 := by
  have hj : j < W.length := by
    have := (List.getElem?_eq_some_iff.mp hx).1
    simpa [enc] using this
  refine ⟨hj, ?_⟩
  simp [enc, List.getElem?_eq_getElem hj] at hx
  exact hx.symm
/-! ### the law's own books -/
section
variable {y0 yp y2 y3 y4 y10 y11 y12 y16 y17 y18 y19 y20 y21 : Option PV} {w h sm A B C : Nat} {a : Str} {f S : List Str} {W : Bk}
theorem own_ok {s : Sto} {N : FS.Env → Sto → Prop} {T : PV → Sto → Prop} {BB CC : FS.Env → Sto → Prop} (hw : s[w]? = some (.dct (enc W))) (hW : OkB W) (hl : W.length ≤ 8) (hf : f.length ≤ 6) (hS : s[sm]? = some (.lst (S.map .str)))
    (hA : s[A]? = some (.dct [])) (hB : s[B]? = some (.dct [])) (hC : s[C]? = some (.dct [])) (nwA : w ≠ A) (nwB : w ≠ B) (nwC : w ≠ C) (nAB : A ≠ B) (nAC : A ≠ C) (nBC : B ≠ C) (nsA : sm ≠ A) (nsB : sm ≠ B) (nsC : sm ≠ C)
    (hN : ∀ y10 y21 s', s'[A]? = some (.dct (enc (W.map fun p => (p.1, p.2.reverse)))) → s'[B]? = some (.dct (enc (W.map fun p => (p.1, swapIn p.2 a f)))) → s'[C]? = some (.dct (enc (W.map fun p => (p.1, p.2.filter (keepB W S))))) → FS.Fr [A, B, C] s s' →
      N [y0, yp, y2, y3, y4, some (.obj w), some (.obj h), some (.str a), some (encW f), some (.obj sm), y10, y11, y12, some (.obj A), some (.obj B), some (.obj C), y16, y17, y18, y19, y20, y21] s') :
    okS (sLock (eVar 5) (sFor (iOf (eVar 5)) (.nm 10) G_law_1) [y0, yp, y2, y3, y4, some (.obj w), some (.obj h), some (.str a), some (encW f), some (.obj sm), y10, y11, y12, some (.obj A), some (.obj B), some (.obj C), y16, y17, y18, y19, y20, y21] s) N T BB CC := by
  refine w_lockS (n := w) (s0 := s) rfl hw ?_
  rw [FS.w_for, FS.w_iOf]
  simp only [FS.w_var, List.getElem?_cons_zero, List.getElem?_cons_succ]
  have hg := lock_get (u := SO.frz (.dct (enc W))) hw
  have hA1 : (s.set w (SO.frz (.dct (enc W))))[A]? = some (.dct []) := by rw [List.getElem?_set_ne nwA]; exact hA
  have hB1 : (s.set w (SO.frz (.dct (enc W))))[B]? = some (.dct []) := by rw [List.getElem?_set_ne nwB]; exact hB
  have hC1 : (s.set w (SO.frz (.dct (enc W))))[C]? = some (.dct []) := by rw [List.getElem?_set_ne nwC]; exact hC
  have hS1 : (s.set w (SO.frz (.dct (enc W))))[sm]? = some (.lst (S.map .str)) := by
    have : w ≠ sm := fun z => by subst z; rw [hw] at hS; cases hS
    rw [List.getElem?_set_ne this]; exact hS
  generalize hs1 : s.set w (SO.frz (.dct (enc W))) = s1 at hg hA1 hB1 hC1 hS1 ⊢
  rw [keys_lk hg]
  refine for_ok (i := 0) (I := fun i ρ s2 => ∃ y10 y21, ρ = [y0, yp, y2, y3, y4, some (.obj w), some (.obj h), some (.str a), some (encW f), some (.obj sm), y10, y11, y12, some (.obj A), some (.obj B), some (.obj C), y16, y17, y18, y19, y20, y21] ∧
      s2[A]? = some (.dct (enc ((W.take i).map fun p => (p.1, p.2.reverse)))) ∧ s2[B]? = some (.dct (enc ((W.take i).map fun p => (p.1, swapIn p.2 a f)))) ∧ s2[C]? = some (.dct (enc ((W.take i).map fun p => (p.1, p.2.filter (keepB W S))))) ∧ FS.Fr [A, B, C] s1 s2)
    ⟨_, _, rfl, hA1, hB1, hC1, FS.Fr.refl _ _⟩ (fun _ _ _ _ => rfl) (fun j x ρ s2 hx ⟨y10, y21, e, h1, h2, h3, f2⟩ => ?_) fun ρ s2 ⟨y10, y21, e, h1, h2, h3, f2⟩ => ?_
  · subst e
    rw [Nat.zero_add] at *
    obtain ⟨hj, rfl⟩ := key_at hx
    refine ⟨[y0, yp, y2, y3, y4, some (.obj w), some (.obj h), some (.str a), some (encW f), some (.obj sm), some (.str W[j].1), y11, y12, some (.obj A), some (.obj B), some (.obj C), y16, y17, y18, y19, y20, y21], rfl, ?_⟩
    have hw2 := f2.get hg (by simp [nwA, nwB, nwC])
    have hget := getP_enc (W := W) (i := j) (p := W[j]) hW.nd (List.getElem?_eq_getElem hj)
    have hw6 := (hW.wd W[j] (List.getElem_mem hj)).1
    have ix : ∀ (s : Sto) (P : PV → Sto → Prop), s[w]? = some (.frz (.dct (enc W))) → okO (ixF s (.obj w) (.str W[j].1)) P = P (encW W[j].2) s := fun s P hs => by
      rw [show okO (ixF s (.obj w) (.str W[j].1)) = okO (ixF s (.obj w) (keyP (.inr W[j].1))) from rfl, ix_dct (k := .inr W[j].1) (.inr hs) hget]
    unfold G_law_1
    rw [FS.w_seq, FS.w_sub]
    simp only [FS.w_c, FS.w_bin, FS.w_un, FS.w_call, FS.w_callG, FS.w_nil, FS.w_cons, FS.w_tOfE, FS.w_bNot, FS.w_bAnd, FS.w_bOr, FS.w_if, FS.w_tup, FS.w_lst, FS.w_dict0, FS.w_oNone, FS.w_oSome, FS.w_sl, FS.w_mt, FS.w_iOf, FS.w_iItems, FS.w_iValues, FS.w_lc, FS.w_dc, FS.w_lc2, FS.w_var, FS.okR_ok, FS.okO_some, FS.okR_ite, FS.okO_ite, List.getElem?_cons_zero, List.getElem?_cons_succ, List.set_cons_zero, List.set_cons_succ, FS.i_add, FS.i_sub, FS.i_mul, FS.i_mod, FS.i_fdiv, FS.i_lt, FS.i_le, FS.i_gt, FS.i_ge, FS.i_neg, decide_eq_true_eq, if_true, if_false, Bool.false_eq_true, Int.reduceLT, Int.reduceLE, Int.reduceNeg, Int.reducePow, reduceIte, and_self, true_or, or_true, true_and, and_true, FS.tY, FS.r1x]
    rw [ix _ _ hw2, rev_enc, set_next (F := List.reverse) h1 hW.nd hj hl]
    try dsimp only
    have l2 := f2.len
    have q1 : ∀ (n : Nat) (o : SO), n ≠ A → s2[n]? = some o → ∀ u, (s2.set A u)[n]? = some o := fun n o hn ho u => by rw [List.getElem?_set_ne (Ne.symm hn)]; exact ho
    rw [FS.w_seq, FS.w_sub]
    simp only [FS.w_c, FS.w_bin, FS.w_un, FS.w_call, FS.w_callG, FS.w_nil, FS.w_cons, FS.w_tOfE, FS.w_bNot, FS.w_bAnd, FS.w_bOr, FS.w_if, FS.w_tup, FS.w_lst, FS.w_dict0, FS.w_oNone, FS.w_oSome, FS.w_sl, FS.w_mt, FS.w_iOf, FS.w_iItems, FS.w_iValues, FS.w_lc, FS.w_dc, FS.w_lc2, FS.w_var, FS.okR_ok, FS.okO_some, FS.okR_ite, FS.okO_ite, List.getElem?_cons_zero, List.getElem?_cons_succ, List.set_cons_zero, List.set_cons_succ, FS.i_add, FS.i_sub, FS.i_mul, FS.i_mod, FS.i_fdiv, FS.i_lt, FS.i_le, FS.i_gt, FS.i_ge, FS.i_neg, decide_eq_true_eq, if_true, if_false, Bool.false_eq_true, Int.reduceLT, Int.reduceLE, Int.reduceNeg, Int.reducePow, reduceIte, and_self, true_or, or_true, true_and, and_true, FS.tY, FS.r1x]
    rw [ix _ _ (q1 _ _ nwA hw2 _)]
    refine swap_ok hw6 hf ?_
    rw [set_next (F := fun l => swapIn l a f) (q1 _ _ (Ne.symm nAB) h2 _) hW.nd hj hl]
    try dsimp only
    have q2 : ∀ (n : Nat) (o : SO) (s : Sto), n ≠ B → s[n]? = some o → ∀ u, (s.set B u)[n]? = some o := fun n o s hn ho u => by rw [List.getElem?_set_ne (Ne.symm hn)]; exact ho
    rw [FS.w_seq, FS.w_sub, FS.w_call, FS.w_cons, FS.w_lc, FS.w_iOf]
    simp only [FS.w_bin, FS.w_var, List.getElem?_cons_zero, List.getElem?_cons_succ]
    have hw3 := q2 _ _ _ nwB (q1 _ _ nwA hw2 (SO.dct (enc ((W.take (j + 1)).map fun p => (p.1, List.reverse p.2))))) (SO.dct (enc ((W.take (j + 1)).map fun p => (p.1, (fun l => swapIn l a f) p.2))))
    have hS3 := q2 _ _ _ nsB (q1 _ _ nsA (f2.get hS1 (by simp [nsA, nsB, nsC])) (SO.dct (enc ((W.take (j + 1)).map fun p => (p.1, List.reverse p.2))))) (SO.dct (enc ((W.take (j + 1)).map fun p => (p.1, (fun l => swapIn l a f) p.2))))
    have hC3 := q2 _ _ _ (Ne.symm nBC) (q1 _ _ (Ne.symm nAC) h3 (SO.dct (enc ((W.take (j + 1)).map fun p => (p.1, List.reverse p.2))))) (SO.dct (enc ((W.take (j + 1)).map fun p => (p.1, (fun l => swapIn l a f) p.2))))
    have hA3 := q2 _ _ _ nAB (show (s2.set A (SO.dct (enc ((W.take (j + 1)).map fun p => (p.1, List.reverse p.2)))))[A]? = some _ from List.getElem?_set_self (get_lt h1)) (SO.dct (enc ((W.take (j + 1)).map fun p => (p.1, (fun l => swapIn l a f) p.2))))
    have hB3 : ((s2.set A (SO.dct (enc ((W.take (j + 1)).map fun p => (p.1, List.reverse p.2))))).set B (SO.dct (enc ((W.take (j + 1)).map fun p => (p.1, (fun l => swapIn l a f) p.2)))))[B]? = some _ := List.getElem?_set_self (by have := get_lt h2; simpa using this)
    have f3 : FS.Fr [A, B, C] s1 ((s2.set A (SO.dct (enc ((W.take (j + 1)).map fun p => (p.1, List.reverse p.2))))).set B (SO.dct (enc ((W.take (j + 1)).map fun p => (p.1, (fun l => swapIn l a f) p.2))))) := (f2.setr _ (.inl (by simp))).setr _ (.inl (by simp))
    generalize ((s2.set A (SO.dct (enc ((W.take (j + 1)).map fun p => (p.1, List.reverse p.2))))).set B (SO.dct (enc ((W.take (j + 1)).map fun p => (p.1, (fun l => swapIn l a f) p.2))))) = s3 at hw3 hS3 hC3 hA3 hB3 f3 ⊢
    rw [ix _ _ hw3, it_enc]
    refine filt_ok (t := keepB W S) (by omega) (fun y s4 f4 => ?_) (fun y s4 => ?_) fun s4 h4 f4 => ?_
    · show okR (bOr _ _ [y0, yp, y2, y3, y4, some (.obj w), some (.obj h), some (.str a), some (encW f), some (.obj sm), some (.str W[j].1), y11, y12, some (.obj A), some (.obj B), some (.obj C), y16, y17, y18, y19, y20, some (.str y)] s4) _
      simp only [FS.w_c, FS.w_bin, FS.w_un, FS.w_call, FS.w_callG, FS.w_nil, FS.w_cons, FS.w_tOfE, FS.w_bNot, FS.w_bAnd, FS.w_bOr, FS.w_if, FS.w_tup, FS.w_lst, FS.w_dict0, FS.w_oNone, FS.w_oSome, FS.w_sl, FS.w_mt, FS.w_iOf, FS.w_iItems, FS.w_iValues, FS.w_lc, FS.w_dc, FS.w_lc2, FS.w_var, FS.okR_ok, FS.okO_some, FS.okR_ite, FS.okO_ite, List.getElem?_cons_zero, List.getElem?_cons_succ, List.set_cons_zero, List.set_cons_succ, FS.i_add, FS.i_sub, FS.i_mul, FS.i_mod, FS.i_fdiv, FS.i_lt, FS.i_le, FS.i_gt, FS.i_ge, FS.i_neg, decide_eq_true_eq, if_true, if_false, Bool.false_eq_true, Int.reduceLT, Int.reduceLE, Int.reduceNeg, Int.reducePow, reduceIte, and_self, true_or, or_true, true_and, and_true, FS.tY, FS.r1x]
      rw [in_lk (.inl (f4.get hw3 (by simp)))]
      try dsimp only
      unfold keepB
      cases (getP (enc W) (.str y)).isSome with
      | true => simp
      | false =>
        rw [if_neg Bool.false_ne_true, in_lst (f4.get hS3 (by simp))]
        simp
    · show okR (eVar 21 [y0, yp, y2, y3, y4, some (.obj w), some (.obj h), some (.str a), some (encW f), some (.obj sm), some (.str W[j].1), y11, y12, some (.obj A), some (.obj B), some (.obj C), y16, y17, y18, y19, y20, some (.str y)] s4) _
      simp only [FS.w_c, FS.w_bin, FS.w_un, FS.w_call, FS.w_callG, FS.w_nil, FS.w_cons, FS.w_tOfE, FS.w_bNot, FS.w_bAnd, FS.w_bOr, FS.w_if, FS.w_tup, FS.w_lst, FS.w_dict0, FS.w_oNone, FS.w_oSome, FS.w_sl, FS.w_mt, FS.w_iOf, FS.w_iItems, FS.w_iValues, FS.w_lc, FS.w_dc, FS.w_lc2, FS.w_var, FS.okR_ok, FS.okO_some, FS.okR_ite, FS.okO_ite, List.getElem?_cons_zero, List.getElem?_cons_succ, List.set_cons_zero, List.set_cons_succ, FS.i_add, FS.i_sub, FS.i_mul, FS.i_mod, FS.i_fdiv, FS.i_lt, FS.i_le, FS.i_gt, FS.i_ge, FS.i_neg, decide_eq_true_eq, if_true, if_false, Bool.false_eq_true, Int.reduceLT, Int.reduceLE, Int.reduceNeg, Int.reducePow, reduceIte, and_self, true_or, or_true, true_and, and_true, FS.tY, FS.r1x]
    · try rw [FS.w_nil]
      rw [tup_lst h4]
      try simp only [FS.w_c, FS.w_bin, FS.w_un, FS.w_call, FS.w_callG, FS.w_nil, FS.w_cons, FS.w_tOfE, FS.w_bNot, FS.w_bAnd, FS.w_bOr, FS.w_if, FS.w_tup, FS.w_lst, FS.w_dict0, FS.w_oNone, FS.w_oSome, FS.w_sl, FS.w_mt, FS.w_iOf, FS.w_iItems, FS.w_iValues, FS.w_lc, FS.w_dc, FS.w_lc2, FS.w_var, FS.okR_ok, FS.okO_some, FS.okR_ite, FS.okO_ite, List.getElem?_cons_zero, List.getElem?_cons_succ, List.set_cons_zero, List.set_cons_succ, FS.i_add, FS.i_sub, FS.i_mul, FS.i_mod, FS.i_fdiv, FS.i_lt, FS.i_le, FS.i_gt, FS.i_ge, FS.i_neg, decide_eq_true_eq, if_true, if_false, Bool.false_eq_true, Int.reduceLT, Int.reduceLE, Int.reduceNeg, Int.reducePow, reduceIte, and_self, true_or, or_true, true_and, and_true, FS.tY, FS.r1x]
      rw [set_next (F := fun l => l.filter (keepB W S)) (f4.get hC3 (by simp)) hW.nd hj hl]
      try dsimp only
      try rw [FS.w_next]
      have c4 := f4.get hC3 (by simp)
      refine ⟨_, _, rfl, ?_, ?_, List.getElem?_set_self (get_lt c4), (f3.trans (f4.mono fun n hn => by simp at hn)).setr _ (.inl (by simp))⟩
      · rw [List.getElem?_set_ne (Ne.symm nAC)]; exact f4.get hA3 (by simp)
      · rw [List.getElem?_set_ne (Ne.symm nBC)]; exact f4.get hB3 (by simp)
  · subst e
    refine ⟨f2.get hg (by simp [nwA, nwB, nwC]), ?_⟩
    have e2 : ((enc W).map (·.1)).length = W.length := by simp [enc]
    rw [e2, Nat.zero_add, List.take_length] at h1 h2 h3
    subst hs1
    refine hN y10 y21 _ ?_ ?_ ?_ (lock_fr hw f2)
    · rw [List.getElem?_set_ne nwA]; exact h1
    · rw [List.getElem?_set_ne nwB]; exact h2
    · rw [List.getElem?_set_ne nwC]; exact h3
end
end K61

namespace K61
open PySem PySem.Spec PyProof.Rows L2 FS
/-! ### does the letter stand? -/
theorem any_filter (W : Bk) (a : Str) : stands W a = (W.any fun p => p.2.any fun x => decide (a = x)) := by
  unfold stands bsOf
  induction W with
  | nil => rfl
  | cons p W ih =>
    rw [List.flatMap_cons, List.any_append, ih, List.any_cons]
    congr 1
    rw [List.any_map]
    rfl
def inW (W : Bk) (a x : Str) : Bool := match W.find? fun p => decide (p.1 = x) with
  | some p => p.2.any fun z => decide (a = z)
  | none => false
theorem eqv_nil (ss : List Str) : PyData.eqvAll (ss.map PyData.str) [] = decide (ss = []) := by
  cases ss with
  | nil => simp [PyData.eqvAll]
  | cons x r => simp [PyData.eqvAll]
theorem ne_nil {s : Sto} {i j : Nat} {ss : List Str} {P : PV → Sto → Prop} (h : s[i]? = some (.lst (ss.map .str))) (k : s[j]? = some (.lst [])) (ha : ∀ x ∈ ss, asc 16 x) : okO (cNe s (.obj i) (.obj j)) P = P (.bl (!decide (ss = []))) s := by
  have e1 : ∀ n (tt : List Str), s[n]? = some (.lst (tt.map .str)) → toD s (.obj n) = some (PyData.list (tt.map .str)) := fun n tt hn => by
    have e : lstOf s (.obj n) = some (tt.map .str) := by simp [lstOf, hn]
    show ((lstOf s (.obj n)).bind fun xs => (xs.mapM (toL s toT)).map PyData.list) = _
    rw [e, Option.bind_some, toL_strs]; rfl
  have c : ∀ tt : List Str, (∀ x ∈ tt, asc 16 x) → SeqAt.shaped (PyData.list (tt.map .str)) = true := fun tt ht => by
    unfold SeqAt.shaped
    simp only [PyData.canLay0, lay_strs ht, PyData.depth, depth_strs tt, Bool.true_and]
    decide
  have e2 : eqF s (.obj i) (.obj j) = some (decide (ss = [])) := by
    show eqG s (.obj i) (.obj j) = _
    unfold eqG
    rw [e1 i ss h, e1 j [] k]
    try dsimp only
    rw [if_pos ⟨c ss ha, c [] nofun⟩]
    simp only [PyData.eqv, List.map_nil, eqv_nil]
  unfold cNe
  rw [e2]
  exact FS.okO_some
theorem in_word {s : Sto} {l : List Str} {a : Str} {P : PV → Sto → Prop} : okO (cIn s (.str a) (encW l)) P = P (.bl (l.any fun x => decide (a = x))) s := by
  rw [in_enc]
  congr 2
  rw [List.any_map]
  congr 1
  funext x
  show decide (x = a) = decide (a = x)
  rw [decide_eq_decide]
  exact eq_comm
section
variable {ρa : FS.Env} {y0 yp y2 y3 y4 y10 y11 y12 y13 y14 y15 y16 y17 y18 y19 y20 y21 : Option PV} {w h sm A B C : Nat} {a : Str} {f S : List Str} {W : Bk}
theorem stands_ok {s : Sto} {y6 y8 y9 : Option PV} {P : PV → Sto → Prop} (hw : s[w]? = some (.dct (enc W))) (hW : OkB W) (hl : W.length ≤ 8) (hP : ∀ s', FS.Fr [] s s' → P (.bl (stands W a)) s') :
    okR (eBin cNe (eLock (eVar 5) (eLc (iOf (eVar 5)) (.nm 10) (tOfE (eBin cIn (eVar 7) (eBin ixF (eVar 5) (eVar 10)))) (eVar 10) [10])) (eLst (aNil)) [y0, yp, y2, y3, y4, some (.obj w), y6, some (.str a), y8, y9, y10, y11, y12, y13, y14, y15, y16, y17, y18, y19, y20, y21] s) P := by
  rw [FS.w_bin]
  refine w_lock (n := w) (s0 := s) rfl hw ?_
  rw [FS.w_lc, FS.w_iOf]
  simp only [FS.w_var, List.getElem?_cons_zero, List.getElem?_cons_succ]
  have hg := lock_get (u := SO.frz (.dct (enc W))) hw
  have el : (s.set w (SO.frz (.dct (enc W)))).length = s.length := by simp
  generalize hs1 : s.set w (SO.frz (.dct (enc W))) = s1 at hg el ⊢
  rw [keys_lk hg]
  let t : Str × List Str → Bool := fun p => p.2.any fun x => decide (a = x)
  refine comp_ok (I := fun i acc s3 => acc = (((W.take i).filter t).map (·.1)).map .str ∧ s3[s1.length]? = some (.lst acc) ∧ FS.Fr [] s1 s3) (i := 0) ⟨rfl, get_push, FS.Fr.push _⟩ (fun _ _ _ _ => rfl) (fun i x acc s3 hx hI => ?_) fun acc s3 ⟨e, h3, f3⟩ => ?_
  · rw [Nat.zero_add] at *
    obtain ⟨e, h3, f3⟩ := hI
    obtain ⟨hi, rfl⟩ := key_at hx
    refine ⟨[y0, yp, y2, y3, y4, some (.obj w), y6, some (.str a), y8, y9, some (.str W[i].1), y11, y12, y13, y14, y15, y16, y17, y18, y19, y20, y21], rfl, ?_⟩
    simp only [FS.w_c, FS.w_bin, FS.w_un, FS.w_call, FS.w_callG, FS.w_nil, FS.w_cons, FS.w_tOfE, FS.w_bNot, FS.w_bAnd, FS.w_bOr, FS.w_if, FS.w_tup, FS.w_lst, FS.w_dict0, FS.w_oNone, FS.w_oSome, FS.w_sl, FS.w_mt, FS.w_iOf, FS.w_iItems, FS.w_iValues, FS.w_lc, FS.w_dc, FS.w_lc2, FS.w_var, FS.okR_ok, FS.okO_some, FS.okR_ite, FS.okO_ite, List.getElem?_cons_zero, List.getElem?_cons_succ, List.set_cons_zero, List.set_cons_succ, FS.i_add, FS.i_sub, FS.i_mul, FS.i_mod, FS.i_fdiv, FS.i_lt, FS.i_le, FS.i_gt, FS.i_ge, FS.i_neg, decide_eq_true_eq, if_true, if_false, Bool.false_eq_true, Int.reduceLT, Int.reduceLE, Int.reduceNeg, Int.reducePow, reduceIte, and_self, true_or, or_true, true_and, and_true, FS.tY, FS.r1x]
    have hget := getP_enc (W := W) (i := i) (p := W[i]) hW.nd (List.getElem?_eq_getElem hi)
    rw [show okO (ixF s3 (.obj w) (.str W[i].1)) = okO (ixF s3 (.obj w) (keyP (.inr W[i].1))) from rfl, ix_dct (k := .inr W[i].1) (.inr (f3.get hg (by simp))) hget, in_word]
    try dsimp only
    have e3 : (W.take (i + 1)).filter t = (W.take i).filter t ++ if t W[i] = true then [W[i]] else [] := by
      rw [List.take_succ_eq_append_getElem hi, List.filter_append]
      congr 1
      by_cases c : t W[i] = true
      · rw [if_pos c, List.filter_cons_of_pos c]; rfl
      · rw [if_neg c, List.filter_cons_of_neg c]; rfl
    by_cases c : (W[i].2.any fun x => decide (a = x)) = true
    · rw [if_pos c]
      refine ⟨h3, ?_, ?_, List.getElem?_set_self (get_lt h3), f3.setr _ (.inr (Nat.le_refl _))⟩
      · rw [e, List.length_map, List.length_map]
        refine Nat.lt_of_le_of_lt (List.length_filter_le _ _) (Nat.lt_of_lt_of_le (show (W.take i).length < 1001 by rw [List.length_take]; omega) (sL _ (by decide)))
      · rw [e, e3, if_pos (show t W[i] = true from c), List.map_append, List.map_append]; rfl
    · rw [if_neg c]
      exact ⟨by rw [e, e3, if_neg (show ¬ t W[i] = true from c), List.append_nil], h3, f3⟩
  · have e2 : ((enc W).map (·.1)).length = W.length := by simp [enc]
    rw [e2, Nat.zero_add, List.take_length] at e
    subst e
    refine ⟨f3.get hg (by simp), ?_⟩
    have hf : FS.Fr [] s (s3.set w (.dct (enc W))) := by
      subst hs1
      exact lock_fr hw f3
    simp only [FS.w_c, FS.w_bin, FS.w_un, FS.w_call, FS.w_callG, FS.w_nil, FS.w_cons, FS.w_tOfE, FS.w_bNot, FS.w_bAnd, FS.w_bOr, FS.w_if, FS.w_tup, FS.w_lst, FS.w_dict0, FS.w_oNone, FS.w_oSome, FS.w_sl, FS.w_mt, FS.w_iOf, FS.w_iItems, FS.w_iValues, FS.w_lc, FS.w_dc, FS.w_lc2, FS.w_var, FS.okR_ok, FS.okO_some, FS.okR_ite, FS.okO_ite, List.getElem?_cons_zero, List.getElem?_cons_succ, List.set_cons_zero, List.set_cons_succ, FS.i_add, FS.i_sub, FS.i_mul, FS.i_mod, FS.i_fdiv, FS.i_lt, FS.i_le, FS.i_gt, FS.i_ge, FS.i_neg, decide_eq_true_eq, if_true, if_false, Bool.false_eq_true, Int.reduceLT, Int.reduceLE, Int.reduceNeg, Int.reducePow, reduceIte, and_self, true_or, or_true, true_and, and_true, FS.tY, FS.r1x]
    rw [if_pos (by rw [sizeLine_eq]; simp)]
    have hd := get_lt hw
    have w1 : (s3.set w (SO.dct (enc W)))[s1.length]? = some (.lst (((W.filter t).map (·.1)).map .str)) := by
      rw [List.getElem?_set_ne (by omega)]; exact h3
    rw [ne_nil (ss := (W.filter t).map (·.1)) (get_pushl w1) get_push (fun x hx => by
      obtain ⟨p, hp, rfl⟩ := List.mem_map.mp hx
      exact hW.ky p (List.mem_filter.mp hp).1)]
    have e4 : (!decide ((W.filter t).map (·.1) = [])) = stands W a := by
      rw [any_filter]
      by_cases c : (W.any fun p => p.2.any fun x => decide (a = x)) = true
      · rw [c]
        obtain ⟨p, hp, hp2⟩ := List.any_eq_true.mp c
        have : p ∈ W.filter t := List.mem_filter.mpr ⟨hp, hp2⟩
        have : (W.filter t).map (·.1) ≠ [] := fun z => by
          rw [List.map_eq_nil_iff] at z
          rw [z] at this
          cases this
        simp [this]
      · have : W.filter t = [] := by
          rw [List.filter_eq_nil_iff]
          intro p hp hp2
          exact c (List.any_eq_true.mpr ⟨p, hp, hp2⟩)
        rw [this]
        simp only [Bool.not_eq_true] at c
        rw [c]
        rfl
    rw [e4]
    exact hP _ (hf.pushr _)
/-! ### both tellings -/
theorem okM_of {F : List Str → List Str} (hW : OkB W) (hl : W.length ≤ 8) (hF : ∀ l : List Str, l.length ≤ 6 → (∀ x ∈ l, asc 16 x) → (F l).length ≤ 100 ∧ ∀ x ∈ F l, asc 16 x) : OkM (W.map fun p => (p.1, F p.2)) where
  nd := by rw [List.map_map]; exact hW.nd
  ky := fun p hp => by obtain ⟨q, hq, rfl⟩ := List.mem_map.mp hp; exact hW.ky q hq
  wd := fun p hp => by obtain ⟨q, hq, rfl⟩ := List.mem_map.mp hp; exact hF q.2 (hW.wd q hq).1 (hW.wd q hq).2
  ln := by rw [List.length_map]; exact hl
theorem clear_dct {s : Sto} {n : Nat} {kvs : List (PV × PV)} {P : PV → Sto → Prop} (h : s[n]? = some (.dct kvs)) : okO (mDClear s (.obj n) []) P = P .non (s.set n (.dct [])) := by
  simp [mDClear, h, okO]
theorem again_ok {s : Sto} {N : FS.Env → Sto → Prop} {T : PV → Sto → Prop} {BB CC : FS.Env → Sto → Prop} (hw : s[w]? = some (.dct (enc W))) (hh : s[h]? = some (.dct (enc W))) (hW : OkB W) (hl : W.length ≤ 8) (hf : f.length ≤ 6) (haf : ∀ x ∈ f, asc 16 x) (hS : s[sm]? = some (.lst (S.map .str)))
    (hA : s[A]? = some (.dct (enc (W.map fun p => (p.1, p.2.reverse))))) (hB : s[B]? = some (.dct (enc (W.map fun p => (p.1, swapIn p.2 a f))))) (hC : s[C]? = some (.dct (enc (W.map fun p => (p.1, p.2.filter (keepB W S))))))
    (hN : ∀ y17 y18 y19 s', FS.Fr [] s s' → N [y0, yp, y2, y3, y4, some (.obj w), some (.obj h), some (.str a), some (encW f), some (.obj sm), y10, some (.bl (stands W a)), y12, some (.obj A), some (.obj B), some (.obj C), y16, y17, y18, y19, y20, y21] s') :
    okS (G_law_2 [y0, yp, y2, y3, y4, some (.obj w), some (.obj h), some (.str a), some (encW f), some (.obj sm), y10, some (.bl (stands W a)), y12, some (.obj A), some (.obj B), some (.obj C), y16, y17, y18, y19, y20, y21] s) N T BB CC := by
  have mA := okM_of (F := List.reverse) hW hl fun l h1 h2 => ⟨by rw [List.length_reverse]; omega, fun x hx => h2 x (List.mem_reverse.mp hx)⟩
  have mB := okM_of (F := fun l => swapIn l a f) hW hl fun l h1 h2 => ⟨by have := swap_len (a := a) (l := l) hf; omega, fun x hx => by
    unfold swapIn at hx
    obtain ⟨z, hz, hx⟩ := List.mem_flatMap.mp hx
    by_cases c : z = a
    · rw [if_pos c] at hx; exact haf x hx
    · rw [if_neg c] at hx; simp at hx; subst hx; exact h2 _ hz⟩
  have mC := okM_of (F := fun l => l.filter (keepB W S)) hW hl fun l h1 h2 => ⟨by have := List.length_filter_le (keepB W S) l; omega, fun x hx => h2 x (List.mem_filter.mp hx).1⟩
  have mW := okM_of (F := fun l => l) hW hl fun l h1 h2 => ⟨by omega, h2⟩
  have eW : (W.map fun p => (p.1, (fun l : List Str => l) p.2)) = W := by simp
  rw [eW] at mW
  unfold G_law_2
  rw [FS.w_seq, FS.w_par3]
  simp only [FS.w_c, FS.w_bin, FS.w_un, FS.w_call, FS.w_callG, FS.w_nil, FS.w_cons, FS.w_tOfE, FS.w_bNot, FS.w_bAnd, FS.w_bOr, FS.w_if, FS.w_tup, FS.w_lst, FS.w_dict0, FS.w_oNone, FS.w_oSome, FS.w_sl, FS.w_mt, FS.w_iOf, FS.w_iItems, FS.w_iValues, FS.w_lc, FS.w_dc, FS.w_lc2, FS.w_var, FS.okR_ok, FS.okO_some, FS.okR_ite, FS.okO_ite, List.getElem?_cons_zero, List.getElem?_cons_succ, List.set_cons_zero, List.set_cons_succ, FS.i_add, FS.i_sub, FS.i_mul, FS.i_mod, FS.i_fdiv, FS.i_lt, FS.i_le, FS.i_gt, FS.i_ge, FS.i_neg, decide_eq_true_eq, if_true, if_false, Bool.false_eq_true, Int.reduceLT, Int.reduceLE, Int.reduceNeg, Int.reducePow, reduceIte, and_self, true_or, or_true, true_and, and_true, FS.tY, FS.r1x]
  refine turned_ok hh hW hl fun n1 s1 h1 g1 f1 => ?_
  refine told_ok (f1.get hh (by simp)) hW hl hf fun v2 s2 h2 h2' f2 => ?_
  rw [show ∀ P : PV → Sto → Prop, okO (tupleF s2 [.obj sm]) P = P (encW S) s2 from fun P => tup_lst (f2.get (f1.get hS (by simp)) (by simp))]
  have f12 := f1.trans f2
  refine only_ok (f12.get hh (by simp)) hW hl fun n3 s3 h3 g3 f3 => ?_
  have f13 := f12.trans f3
  have l1 := get_lt hA
  have k1 := f3.get (f2.get h1 (by simp)) (by simp)
  try dsimp only
  try simp only [List.set_cons_zero, List.set_cons_succ]
  rw [FS.w_seq, FS.w_sif]
  simp only [FS.w_c, FS.w_bin, FS.w_un, FS.w_call, FS.w_callG, FS.w_nil, FS.w_cons, FS.w_tOfE, FS.w_bNot, FS.w_bAnd, FS.w_bOr, FS.w_if, FS.w_tup, FS.w_lst, FS.w_dict0, FS.w_oNone, FS.w_oSome, FS.w_sl, FS.w_mt, FS.w_iOf, FS.w_iItems, FS.w_iValues, FS.w_lc, FS.w_dc, FS.w_lc2, FS.w_var, FS.okR_ok, FS.okO_some, FS.okR_ite, FS.okO_ite, List.getElem?_cons_zero, List.getElem?_cons_succ, List.set_cons_zero, List.set_cons_succ, FS.i_add, FS.i_sub, FS.i_mul, FS.i_mod, FS.i_fdiv, FS.i_lt, FS.i_le, FS.i_gt, FS.i_ge, FS.i_neg, decide_eq_true_eq, if_true, if_false, Bool.false_eq_true, Int.reduceLT, Int.reduceLE, Int.reduceNeg, Int.reducePow, reduceIte, and_self, true_or, or_true, true_and, and_true, FS.tY, FS.r1x]
  refine alike_ok k1 (f13.get hA (by simp)) mA fun s4 f4 => ?_
  try dsimp only
  rw [if_neg (by decide)]
  refine alike_ok (f4.get h3 (by simp)) ((f13.trans f4).get hC (by simp)) mC fun s5 f5 => ?_
  try dsimp only
  rw [if_neg (by decide), FS.w_next, FS.w_seq, FS.w_sif]
  have f15 := (f13.trans f4).trans f5
  have f35 := f4.trans f5
  -- what was told of the letter
  have mid : ∀ (s6 : Sto), FS.Fr [] s5 s6 → okS (sSeq (sIf (bNot (tOfE (eCallG G_law_alike (aCons (eVar 6) (aCons (eVar 5) (aNil)))))) (sRet (eC (.bl false))) (sNext)) (sSeq (sExpr (eMt "dict" mDClear (eVar 17) aNil)) (sSeq (sExpr (eMt "dict" mDClear (eVar 19) aNil)) (sSeq (sIf (tOfE (eVar 11)) (sExpr (eMt "dict" mDClear (eVar 18) aNil)) (sNext)) (sNext))))
      [y0, yp, y2, y3, y4, some (.obj w), some (.obj h), some (.str a), some (encW f), some (.obj sm), y10, some (.bl (stands W a)), y12, some (.obj A), some (.obj B), some (.obj C), y16, some (.obj n1), some v2, some (.obj n3), y20, y21] s6) N T BB CC := fun s6 f6 => by
    have f16 := f15.trans f6
    rw [FS.w_seq, FS.w_sif]
    simp only [FS.w_c, FS.w_bin, FS.w_un, FS.w_call, FS.w_callG, FS.w_nil, FS.w_cons, FS.w_tOfE, FS.w_bNot, FS.w_bAnd, FS.w_bOr, FS.w_if, FS.w_tup, FS.w_lst, FS.w_dict0, FS.w_oNone, FS.w_oSome, FS.w_sl, FS.w_mt, FS.w_iOf, FS.w_iItems, FS.w_iValues, FS.w_lc, FS.w_dc, FS.w_lc2, FS.w_var, FS.okR_ok, FS.okO_some, FS.okR_ite, FS.okO_ite, List.getElem?_cons_zero, List.getElem?_cons_succ, List.set_cons_zero, List.set_cons_succ, FS.i_add, FS.i_sub, FS.i_mul, FS.i_mod, FS.i_fdiv, FS.i_lt, FS.i_le, FS.i_gt, FS.i_ge, FS.i_neg, decide_eq_true_eq, if_true, if_false, Bool.false_eq_true, Int.reduceLT, Int.reduceLE, Int.reduceNeg, Int.reducePow, reduceIte, and_self, true_or, or_true, true_and, and_true, FS.tY, FS.r1x]
    refine alike_ok (f16.get hh (by simp)) (f16.get hw (by simp)) mW fun s7 f7 => ?_
    try dsimp only
    rw [if_neg (by decide), FS.w_next, FS.w_seq, FS.w_expr]
    have f17 := f16.trans f7
    have f37 := (f35.trans f6).trans f7
    have c1 := f37.get k1 (by simp)
    simp only [FS.w_c, FS.w_bin, FS.w_un, FS.w_call, FS.w_callG, FS.w_nil, FS.w_cons, FS.w_tOfE, FS.w_bNot, FS.w_bAnd, FS.w_bOr, FS.w_if, FS.w_tup, FS.w_lst, FS.w_dict0, FS.w_oNone, FS.w_oSome, FS.w_sl, FS.w_mt, FS.w_iOf, FS.w_iItems, FS.w_iValues, FS.w_lc, FS.w_dc, FS.w_lc2, FS.w_var, FS.okR_ok, FS.okO_some, FS.okR_ite, FS.okO_ite, List.getElem?_cons_zero, List.getElem?_cons_succ, List.set_cons_zero, List.set_cons_succ, FS.i_add, FS.i_sub, FS.i_mul, FS.i_mod, FS.i_fdiv, FS.i_lt, FS.i_le, FS.i_gt, FS.i_ge, FS.i_neg, decide_eq_true_eq, if_true, if_false, Bool.false_eq_true, Int.reduceLT, Int.reduceLE, Int.reduceNeg, Int.reducePow, reduceIte, and_self, true_or, or_true, true_and, and_true, FS.tY, FS.r1x]
    rw [mt_dct c1, if_pos rfl, clear_dct c1, FS.w_seq, FS.w_expr]
    simp only [FS.w_c, FS.w_bin, FS.w_un, FS.w_call, FS.w_callG, FS.w_nil, FS.w_cons, FS.w_tOfE, FS.w_bNot, FS.w_bAnd, FS.w_bOr, FS.w_if, FS.w_tup, FS.w_lst, FS.w_dict0, FS.w_oNone, FS.w_oSome, FS.w_sl, FS.w_mt, FS.w_iOf, FS.w_iItems, FS.w_iValues, FS.w_lc, FS.w_dc, FS.w_lc2, FS.w_var, FS.okR_ok, FS.okO_some, FS.okR_ite, FS.okO_ite, List.getElem?_cons_zero, List.getElem?_cons_succ, List.set_cons_zero, List.set_cons_succ, FS.i_add, FS.i_sub, FS.i_mul, FS.i_mod, FS.i_fdiv, FS.i_lt, FS.i_le, FS.i_gt, FS.i_ge, FS.i_neg, decide_eq_true_eq, if_true, if_false, Bool.false_eq_true, Int.reduceLT, Int.reduceLE, Int.reduceNeg, Int.reducePow, reduceIte, and_self, true_or, or_true, true_and, and_true, FS.tY, FS.r1x]
    have c3 : ∃ kvs, (s7.set n1 (SO.dct []))[n3]? = some (.dct kvs) := by
      by_cases e : n1 = n3
      · subst e; exact ⟨[], List.getElem?_set_self (get_lt c1)⟩
      · rw [List.getElem?_set_ne e]; exact ⟨_, f37.get h3 (by simp)⟩
    obtain ⟨kv3, c3⟩ := c3
    rw [mt_dct c3, if_pos rfl, clear_dct c3, FS.w_seq, FS.w_sif]
    simp only [FS.w_c, FS.w_bin, FS.w_un, FS.w_call, FS.w_callG, FS.w_nil, FS.w_cons, FS.w_tOfE, FS.w_bNot, FS.w_bAnd, FS.w_bOr, FS.w_if, FS.w_tup, FS.w_lst, FS.w_dict0, FS.w_oNone, FS.w_oSome, FS.w_sl, FS.w_mt, FS.w_iOf, FS.w_iItems, FS.w_iValues, FS.w_lc, FS.w_dc, FS.w_lc2, FS.w_var, FS.okR_ok, FS.okO_some, FS.okR_ite, FS.okO_ite, List.getElem?_cons_zero, List.getElem?_cons_succ, List.set_cons_zero, List.set_cons_succ, FS.i_add, FS.i_sub, FS.i_mul, FS.i_mod, FS.i_fdiv, FS.i_lt, FS.i_le, FS.i_gt, FS.i_ge, FS.i_neg, decide_eq_true_eq, if_true, if_false, Bool.false_eq_true, Int.reduceLT, Int.reduceLE, Int.reduceNeg, Int.reducePow, reduceIte, and_self, true_or, or_true, true_and, and_true, FS.tY, FS.r1x]
    have f18 : FS.Fr [] s ((s7.set n1 (SO.dct [])).set n3 (SO.dct [])) := (f17.setr _ (.inr g1)).setr _ (.inr (Nat.le_trans (Nat.le_trans f1.len f2.len) g3))
    by_cases c : stands W a = true
    · rw [if_pos c, FS.w_expr]
      simp only [FS.w_c, FS.w_bin, FS.w_un, FS.w_call, FS.w_callG, FS.w_nil, FS.w_cons, FS.w_tOfE, FS.w_bNot, FS.w_bAnd, FS.w_bOr, FS.w_if, FS.w_tup, FS.w_lst, FS.w_dict0, FS.w_oNone, FS.w_oSome, FS.w_sl, FS.w_mt, FS.w_iOf, FS.w_iItems, FS.w_iValues, FS.w_lc, FS.w_dc, FS.w_lc2, FS.w_var, FS.okR_ok, FS.okO_some, FS.okR_ite, FS.okO_ite, List.getElem?_cons_zero, List.getElem?_cons_succ, List.set_cons_zero, List.set_cons_succ, FS.i_add, FS.i_sub, FS.i_mul, FS.i_mod, FS.i_fdiv, FS.i_lt, FS.i_le, FS.i_gt, FS.i_ge, FS.i_neg, decide_eq_true_eq, if_true, if_false, Bool.false_eq_true, Int.reduceLT, Int.reduceLE, Int.reduceNeg, Int.reducePow, reduceIte, and_self, true_or, or_true, true_and, and_true, FS.tY, FS.r1x]
      obtain ⟨n2, rfl, h2b, g2⟩ := h2 c
      have c2 : ∃ kvs, ((s7.set n1 (SO.dct [])).set n3 (SO.dct []))[n2]? = some (.dct kvs) := by
        have base := f37.get (f3.get h2b (by simp)) (by simp)
        by_cases e : n3 = n2
        · subst e; exact ⟨[], List.getElem?_set_self (get_lt c3)⟩
        · rw [List.getElem?_set_ne e]
          by_cases e' : n1 = n2
          · subst e'; exact ⟨[], List.getElem?_set_self (get_lt c1)⟩
          · rw [List.getElem?_set_ne e']; exact ⟨_, base⟩
      obtain ⟨kv2, c2⟩ := c2
      rw [mt_dct c2, if_pos rfl, clear_dct c2, FS.w_next]
      exact hN _ _ _ _ (f18.setr _ (.inr (Nat.le_trans f1.len g2)))
    · rw [if_neg c, FS.w_next, FS.w_next]
      exact hN _ _ _ _ f18
  simp only [FS.w_c, FS.w_bin, FS.w_un, FS.w_call, FS.w_callG, FS.w_nil, FS.w_cons, FS.w_tOfE, FS.w_bNot, FS.w_bAnd, FS.w_bOr, FS.w_if, FS.w_tup, FS.w_lst, FS.w_dict0, FS.w_oNone, FS.w_oSome, FS.w_sl, FS.w_mt, FS.w_iOf, FS.w_iItems, FS.w_iValues, FS.w_lc, FS.w_dc, FS.w_lc2, FS.w_var, FS.okR_ok, FS.okO_some, FS.okR_ite, FS.okO_ite, List.getElem?_cons_zero, List.getElem?_cons_succ, List.set_cons_zero, List.set_cons_succ, FS.i_add, FS.i_sub, FS.i_mul, FS.i_mod, FS.i_fdiv, FS.i_lt, FS.i_le, FS.i_gt, FS.i_ge, FS.i_neg, decide_eq_true_eq, if_true, if_false, Bool.false_eq_true, Int.reduceLT, Int.reduceLE, Int.reduceNeg, Int.reducePow, reduceIte, and_self, true_or, or_true, true_and, and_true, FS.tY, FS.r1x]
  by_cases c : stands W a = true
  · rw [if_pos c]
    obtain ⟨n2, rfl, h2b, g2⟩ := h2 c
    refine alike_ok (f35.get (f3.get h2b (by simp)) (by simp)) (f15.get hB (by simp)) mB fun s6 f6 => ?_
    try dsimp only
    rw [c] at mid ⊢
    simp only [FS.w_c, FS.w_bin, FS.w_un, FS.w_call, FS.w_callG, FS.w_nil, FS.w_cons, FS.w_tOfE, FS.w_bNot, FS.w_bAnd, FS.w_bOr, FS.w_if, FS.w_tup, FS.w_lst, FS.w_dict0, FS.w_oNone, FS.w_oSome, FS.w_sl, FS.w_mt, FS.w_iOf, FS.w_iItems, FS.w_iValues, FS.w_lc, FS.w_dc, FS.w_lc2, FS.w_var, FS.okR_ok, FS.okO_some, FS.okR_ite, FS.okO_ite, List.getElem?_cons_zero, List.getElem?_cons_succ, List.set_cons_zero, List.set_cons_succ, FS.i_add, FS.i_sub, FS.i_mul, FS.i_mod, FS.i_fdiv, FS.i_lt, FS.i_le, FS.i_gt, FS.i_ge, FS.i_neg, decide_eq_true_eq, if_true, if_false, Bool.false_eq_true, Int.reduceLT, Int.reduceLE, Int.reduceNeg, Int.reducePow, reduceIte, and_self, true_or, or_true, true_and, and_true, FS.tY, FS.r1x, Bool.not_true, Bool.not_false]
    try rw [FS.w_next]
    exact mid s6 f6
  · have cf : stands W a = false := by simpa using c
    rw [if_neg c]
    have := h2' cf
    subst this
    rw [cf] at mid ⊢
    simp only [FS.w_c, FS.w_bin, FS.w_un, FS.w_call, FS.w_callG, FS.w_nil, FS.w_cons, FS.w_tOfE, FS.w_bNot, FS.w_bAnd, FS.w_bOr, FS.w_if, FS.w_tup, FS.w_lst, FS.w_dict0, FS.w_oNone, FS.w_oSome, FS.w_sl, FS.w_mt, FS.w_iOf, FS.w_iItems, FS.w_iValues, FS.w_lc, FS.w_dc, FS.w_lc2, FS.w_var, FS.okR_ok, FS.okO_some, FS.okR_ite, FS.okO_ite, List.getElem?_cons_zero, List.getElem?_cons_succ, List.set_cons_zero, List.set_cons_succ, FS.i_add, FS.i_sub, FS.i_mul, FS.i_mod, FS.i_fdiv, FS.i_lt, FS.i_le, FS.i_gt, FS.i_ge, FS.i_neg, decide_eq_true_eq, if_true, if_false, Bool.false_eq_true, Int.reduceLT, Int.reduceLE, Int.reduceNeg, Int.reducePow, reduceIte, and_self, true_or, or_true, true_and, and_true, FS.tY, FS.r1x, Bool.not_true, Bool.not_false]
    rw [ne_str]
    simp only [decide_true, Bool.not_true, Bool.false_eq_true, if_false]
    try rw [FS.w_next]
    exact mid s5 (FS.Fr.refl _ _)
end
end K61

namespace K61
open PySem PySem.Spec PyProof.Rows L2 FS
theorem len_cons {α : Type} {l : List α} {n : Nat} (h : l.length = n + 1) : ∃ x t, l = x :: t ∧ t.length = n := by
  cases l with
  | nil => simp at h
  | cons x t => exact ⟨x, t, rfl, by simpa using h⟩
theorem env22 {ρ : FS.Env} {v : PV} (h : ρ.length = 22) (h1 : ρ[1]? = some (some v)) : ∃ y0 y2 y3 y4 y5 y6 y7 y8 y9 y10 y11 y12 y13 y14 y15 y16 y17 y18 y19 y20 y21, ρ = [y0, some v, y2, y3, y4, y5, y6, y7, y8, y9, y10, y11, y12, y13, y14, y15, y16, y17, y18, y19, y20, y21] := by
  obtain ⟨y0, t0, e0, k0⟩ := len_cons h
  subst e0
  obtain ⟨y1, t1, e1, k1⟩ := len_cons k0
  subst e1
  obtain ⟨y2, t2, e2, k2⟩ := len_cons k1
  subst e2
  obtain ⟨y3, t3, e3, k3⟩ := len_cons k2
  subst e3
  obtain ⟨y4, t4, e4, k4⟩ := len_cons k3
  subst e4
  obtain ⟨y5, t5, e5, k5⟩ := len_cons k4
  subst e5
  obtain ⟨y6, t6, e6, k6⟩ := len_cons k5
  subst e6
  obtain ⟨y7, t7, e7, k7⟩ := len_cons k6
  subst e7
  obtain ⟨y8, t8, e8, k8⟩ := len_cons k7
  subst e8
  obtain ⟨y9, t9, e9, k9⟩ := len_cons k8
  subst e9
  obtain ⟨y10, t10, e10, k10⟩ := len_cons k9
  subst e10
  obtain ⟨y11, t11, e11, k11⟩ := len_cons k10
  subst e11
  obtain ⟨y12, t12, e12, k12⟩ := len_cons k11
  subst e12
  obtain ⟨y13, t13, e13, k13⟩ := len_cons k12
  subst e13
  obtain ⟨y14, t14, e14, k14⟩ := len_cons k13
  subst e14
  obtain ⟨y15, t15, e15, k15⟩ := len_cons k14
  subst e15
  obtain ⟨y16, t16, e16, k16⟩ := len_cons k15
  subst e16
  obtain ⟨y17, t17, e17, k17⟩ := len_cons k16
  subst e17
  obtain ⟨y18, t18, e18, k18⟩ := len_cons k17
  subst e18
  obtain ⟨y19, t19, e19, k19⟩ := len_cons k18
  subst e19
  obtain ⟨y20, t20, e20, k20⟩ := len_cons k19
  subst e20
  obtain ⟨y21, t21, e21, k21⟩ := len_cons k20
  subst e21
  cases t21 with
  | nil =>
    simp at h1
    subst h1
    exact ⟨y0, y2, y3, y4, y5, y6, y7, y8, y9, y10, y11, y12, y13, y14, y15, y16, y17, y18, y19, y20, y21, rfl⟩
  | cons _ _ => simp at h
theorem val_lst {s : Sto} {n : Nat} {xs : List PV} {PI : ItD → Sto → Prop} (h : s[n]? = some (.lst xs)) : okR (R.ofI (valIt s (.obj n)) s) PI = PI ⟨xs, fun s' => decide (lstOf s' (.obj n) = some xs)⟩ s := by
  have : valIt s (.obj n) = some ⟨xs, fun s' => decide (lstOf s' (.obj n) = some xs)⟩ := by simp [valIt, h]
  rw [this]
  show okR (R.ok _ s) PI = _
  rw [FS.okR_ok]
theorem turn_ok {s : Sto} {p c k : Nat} {y0 y2 y3 y4 y5 y6 y7 y8 y9 y10 y11 y12 y13 y14 y15 y16 y17 y18 y19 y20 y21 : Option PV} {N : FS.Env → Sto → Prop} {T : PV → Sto → Prop} {BB CC : FS.Env → Sto → Prop} (h : Pen s p c k) (hk : k ≤ 100000)
    (hN : ∀ ρ s', ρ.length = 22 → ρ[1]? = some (some (.obj p)) → Pen s' p c (k + 1000) → N ρ s') :
    okS (G_law_3 [y0, some (.obj p), y2, y3, y4, y5, y6, y7, y8, y9, y10, y11, y12, y13, y14, y15, y16, y17, y18, y19, y20, y21] s) N T BB CC := by
  unfold G_law_3
  rw [FS.w_seq, FS.w_set]
  simp only [FS.w_c, FS.w_bin, FS.w_un, FS.w_call, FS.w_callG, FS.w_nil, FS.w_cons, FS.w_tOfE, FS.w_bNot, FS.w_bAnd, FS.w_bOr, FS.w_if, FS.w_tup, FS.w_lst, FS.w_dict0, FS.w_oNone, FS.w_oSome, FS.w_sl, FS.w_mt, FS.w_iOf, FS.w_iItems, FS.w_iValues, FS.w_lc, FS.w_dc, FS.w_lc2, FS.w_var, FS.okR_ok, FS.okO_some, FS.okR_ite, FS.okO_ite, List.getElem?_cons_zero, List.getElem?_cons_succ, List.set_cons_zero, List.set_cons_succ, FS.i_add, FS.i_sub, FS.i_mul, FS.i_mod, FS.i_fdiv, FS.i_lt, FS.i_le, FS.i_gt, FS.i_ge, FS.i_neg, decide_eq_true_eq, if_true, if_false, Bool.false_eq_true, Int.reduceLT, Int.reduceLE, Int.reduceNeg, Int.reducePow, reduceIte, and_self, true_or, or_true, true_and, and_true, FS.tY, FS.r1x]
  show okR (G_law_some_letters [.obj p, .int ((8 : Nat) : Int)] s) _
  refine letters_ok h (by omega) (by decide) fun l xs s1 hl xl xa gl f1 h1 => ?_
  have lp := h.lt
  have nlp : l ≠ p := by omega
  rw [FS.w_seq, FS.w_set]
  simp only [FS.w_c, FS.w_bin, FS.w_un, FS.w_call, FS.w_callG, FS.w_nil, FS.w_cons, FS.w_tOfE, FS.w_bNot, FS.w_bAnd, FS.w_bOr, FS.w_if, FS.w_tup, FS.w_lst, FS.w_dict0, FS.w_oNone, FS.w_oSome, FS.w_sl, FS.w_mt, FS.w_iOf, FS.w_iItems, FS.w_iValues, FS.w_lc, FS.w_dc, FS.w_lc2, FS.w_var, FS.okR_ok, FS.okO_some, FS.okR_ite, FS.okO_ite, List.getElem?_cons_zero, List.getElem?_cons_succ, List.set_cons_zero, List.set_cons_succ, FS.i_add, FS.i_sub, FS.i_mul, FS.i_mod, FS.i_fdiv, FS.i_lt, FS.i_le, FS.i_gt, FS.i_ge, FS.i_neg, decide_eq_true_eq, if_true, if_false, Bool.false_eq_true, Int.reduceLT, Int.reduceLE, Int.reduceNeg, Int.reducePow, reduceIte, and_self, true_or, or_true, true_and, and_true, FS.tY, FS.r1x]
  refine take_ok h1 (by omega) (by decide) (by decide) fun r s2 r0 r1 f2 h2 => ?_
  rw [FS.i_add]
  rw [show (1 + r) = (((1 + r).toNat : Nat) : Int) from (Int.toNat_of_nonneg (by omega)).symm]
  refine names_ok h2 (by omega) (by omega) fun nn ns s3 hn nl na gn f3 h3 => ?_
  have f12 := f1.trans f2
  have f13 := f12.trans f3
  have nnp : nn ≠ p := by have := f12.len; omega
  have hl3 := (f2.trans f3).get hl (by simpa using nlp)
  rw [FS.w_seq, FS.w_set]
  simp only [FS.w_c, FS.w_bin, FS.w_un, FS.w_call, FS.w_callG, FS.w_nil, FS.w_cons, FS.w_tOfE, FS.w_bNot, FS.w_bAnd, FS.w_bOr, FS.w_if, FS.w_tup, FS.w_lst, FS.w_dict0, FS.w_oNone, FS.w_oSome, FS.w_sl, FS.w_mt, FS.w_iOf, FS.w_iItems, FS.w_iValues, FS.w_lc, FS.w_dc, FS.w_lc2, FS.w_var, FS.okR_ok, FS.okO_some, FS.okR_ite, FS.okO_ite, List.getElem?_cons_zero, List.getElem?_cons_succ, List.set_cons_zero, List.set_cons_succ, FS.i_add, FS.i_sub, FS.i_mul, FS.i_mod, FS.i_fdiv, FS.i_lt, FS.i_le, FS.i_gt, FS.i_ge, FS.i_neg, decide_eq_true_eq, if_true, if_false, Bool.false_eq_true, Int.reduceLT, Int.reduceLE, Int.reduceNeg, Int.reducePow, reduceIte, and_self, true_or, or_true, true_and, and_true, FS.tY, FS.r1x]
  rw [sl_lstF (.inr hl3), cutP_strs xs 5 (by decide)]
  have f4 : FS.Fr [p] s3 (s3 ++ [SO.lst ((xs.take (5 : Int).toNat).map .str)]) := FS.Fr.push _
  have h4 := h3.fr (ps := []) (FS.Fr.push (SO.lst ((xs.take (5 : Int).toNat).map .str))) (by simp) (by simp)
  have hl5 := get_push (s := s3) (o := SO.lst ((xs.take (5 : Int).toNat).map .str))
  have l3p := h3.lt
  have five : (5 : Int).toNat = 5 := rfl
  refine drawn_ok h4 (by omega) (f4.get hn (by simpa using nnp)) hl5 (by omega) (by omega) (by rw [List.length_take, five]; omega) (by rw [List.length_take, five]; omega) na (fun x hx => xa x (List.mem_of_mem_take hx)) nnp (by omega) fun w W s5 hW hWl hw gw f5 h5 => ?_
  have f15 := (f13.trans f4).trans f5
  have nwp : w ≠ p := by have := f13.len; have := f4.len; omega
  have hl6 := f5.get (f4.get hl3 (by simpa using nlp)) (by simpa using nlp)
  rw [FS.w_seq, FS.w_set]
  simp only [FS.w_c, FS.w_bin, FS.w_un, FS.w_call, FS.w_callG, FS.w_nil, FS.w_cons, FS.w_tOfE, FS.w_bNot, FS.w_bAnd, FS.w_bOr, FS.w_if, FS.w_tup, FS.w_lst, FS.w_dict0, FS.w_oNone, FS.w_oSome, FS.w_sl, FS.w_mt, FS.w_iOf, FS.w_iItems, FS.w_iValues, FS.w_lc, FS.w_dc, FS.w_lc2, FS.w_var, FS.okR_ok, FS.okO_some, FS.okR_ite, FS.okO_ite, List.getElem?_cons_zero, List.getElem?_cons_succ, List.set_cons_zero, List.set_cons_succ, FS.i_add, FS.i_sub, FS.i_mul, FS.i_mod, FS.i_fdiv, FS.i_lt, FS.i_le, FS.i_gt, FS.i_ge, FS.i_neg, decide_eq_true_eq, if_true, if_false, Bool.false_eq_true, Int.reduceLT, Int.reduceLE, Int.reduceNeg, Int.reducePow, reduceIte, and_self, true_or, or_true, true_and, and_true, FS.tY, FS.r1x]
  rw [show ∀ P : PV → Sto → Prop, okO (dictF s5 [.obj w]) P = P (.obj s5.length) (s5 ++ [SO.dct (enc W)]) from fun P => by
    have e : dctOf s5 (.obj w) = some (enc W) := by simp [dctOf, hw]
    show okO ((dctOf s5 (.obj w)).map fun kvs => (PV.obj s5.length, s5 ++ [SO.dct kvs])) P = _
    rw [e]
    exact FS.okO_some]
  rw [FS.w_seq, FS.w_par3]
  simp only [FS.w_c, FS.w_bin, FS.w_un, FS.w_call, FS.w_callG, FS.w_nil, FS.w_cons, FS.w_tOfE, FS.w_bNot, FS.w_bAnd, FS.w_bOr, FS.w_if, FS.w_tup, FS.w_lst, FS.w_dict0, FS.w_oNone, FS.w_oSome, FS.w_sl, FS.w_mt, FS.w_iOf, FS.w_iItems, FS.w_iValues, FS.w_lc, FS.w_dc, FS.w_lc2, FS.w_var, FS.okR_ok, FS.okO_some, FS.okR_ite, FS.okO_ite, List.getElem?_cons_zero, List.getElem?_cons_succ, List.set_cons_zero, List.set_cons_succ, FS.i_add, FS.i_sub, FS.i_mul, FS.i_mod, FS.i_fdiv, FS.i_lt, FS.i_le, FS.i_gt, FS.i_ge, FS.i_neg, decide_eq_true_eq, if_true, if_false, Bool.false_eq_true, Int.reduceLT, Int.reduceLE, Int.reduceNeg, Int.reducePow, reduceIte, and_self, true_or, or_true, true_and, and_true, FS.tY, FS.r1x]
  -- the new books
  have hh := get_push (s := s5) (o := SO.dct (enc W))
  have h6 := h5.fr (ps := []) (FS.Fr.push (SO.dct (enc W))) (by simp) (by simp)
  have hw6 := get_pushl (u := SO.dct (enc W)) hw
  have hl7 := get_pushl (u := SO.dct (enc W)) hl6
  have lw := get_lt hw
  have ll := get_lt hl6
  have lp5 := h5.lt
  have len6 : (s5 ++ [SO.dct (enc W)]).length = s5.length + 1 := by simp
  generalize hhd : s5.length = hd at hh len6 lw ll lp5 ⊢
  generalize (s5 ++ [SO.dct (enc W)]) = s6 at hh h6 hw6 hl7 len6 ⊢
  have hA := get_push (s := s6) (o := SO.dct [])
  have hB := get_push (s := s6 ++ [SO.dct []]) (o := SO.dct [])
  have hC := get_push (s := s6 ++ [SO.dct []] ++ [SO.dct []]) (o := SO.dct [])
  have lenA : (s6 ++ [SO.dct []]).length = s6.length + 1 := by simp
  have lenB : (s6 ++ [SO.dct []] ++ [SO.dct []]).length = s6.length + 2 := by simp
  rw [lenA] at hB ⊢
  rw [lenB] at hC ⊢
  have hA2 := get_pushl (u := SO.dct []) (get_pushl (u := SO.dct []) hA)
  have hB2 := get_pushl (u := SO.dct []) hB
  have f69 : FS.Fr [] s6 (s6 ++ [SO.dct []] ++ [SO.dct []] ++ [SO.dct []]) := ((FS.Fr.push _).pushr _).pushr _
  have h9 := h6.fr f69 (by simp) (by simp)
  have hh9 := f69.get hh (by simp)
  have hw9 := f69.get hw6 (by simp)
  have hl9 := f69.get hl7 (by simp)
  generalize hA' : s6.length = A at hA2 hB2 hC len6 ⊢
  have len9 : (s6 ++ [SO.dct []] ++ [SO.dct []] ++ [SO.dct []]).length = A + 3 := by simp; omega
  generalize (s6 ++ [SO.dct []] ++ [SO.dct []] ++ [SO.dct []]) = s9 at hA2 hB2 hC h9 hh9 hw9 hl9 len9 ⊢
  clear hA hB hA' hhd f69 lenA lenB
  -- the letter
  rw [FS.w_seq, FS.w_set]
  simp only [FS.w_c, FS.w_bin, FS.w_un, FS.w_call, FS.w_callG, FS.w_nil, FS.w_cons, FS.w_tOfE, FS.w_bNot, FS.w_bAnd, FS.w_bOr, FS.w_if, FS.w_tup, FS.w_lst, FS.w_dict0, FS.w_oNone, FS.w_oSome, FS.w_sl, FS.w_mt, FS.w_iOf, FS.w_iItems, FS.w_iValues, FS.w_lc, FS.w_dc, FS.w_lc2, FS.w_var, FS.okR_ok, FS.okO_some, FS.okR_ite, FS.okO_ite, List.getElem?_cons_zero, List.getElem?_cons_succ, List.set_cons_zero, List.set_cons_succ, FS.i_add, FS.i_sub, FS.i_mul, FS.i_mod, FS.i_fdiv, FS.i_lt, FS.i_le, FS.i_gt, FS.i_ge, FS.i_neg, decide_eq_true_eq, if_true, if_false, Bool.false_eq_true, Int.reduceLT, Int.reduceLE, Int.reduceNeg, Int.reducePow, reduceIte, and_self, true_or, or_true, true_and, and_true, FS.tY, FS.r1x]
  rw [sl_lstF (.inr hl9), cutP_strs xs 6 (by decide)]
  have h10 := h9.fr (ps := []) (FS.Fr.push (SO.lst ((xs.take (6 : Int).toNat).map .str))) (by simp) (by simp)
  have hl10 := get_push (s := s9) (o := SO.lst ((xs.take (6 : Int).toNat).map .str))
  have f10 : FS.Fr [p] s9 (s9 ++ [SO.lst ((xs.take (6 : Int).toNat).map .str)]) := FS.Fr.push _
  have six : (6 : Int).toNat = 6 := rfl
  refine pick_ok h10 (by omega) hl10 (by rw [List.length_map, List.length_take, six]; omega) (by rw [List.length_map, List.length_take, six]; omega) (by omega) fun x s11 hx f11 h11 => ?_
  obtain ⟨a, ha, rfl⟩ := List.mem_map.mp hx
  have f911 := f10.trans f11
  -- what it is exchanged for
  rw [FS.w_seq, FS.w_set, FS.w_call, FS.w_cons, FS.w_lc]
  simp only [FS.w_c, FS.w_bin, FS.w_un, FS.w_call, FS.w_callG, FS.w_nil, FS.w_cons, FS.w_tOfE, FS.w_bNot, FS.w_bAnd, FS.w_bOr, FS.w_if, FS.w_tup, FS.w_lst, FS.w_dict0, FS.w_oNone, FS.w_oSome, FS.w_sl, FS.w_mt, FS.w_iOf, FS.w_iItems, FS.w_iValues, FS.w_lc, FS.w_dc, FS.w_lc2, FS.w_var, FS.okR_ok, FS.okO_some, FS.okR_ite, FS.okO_ite, List.getElem?_cons_zero, List.getElem?_cons_succ, List.set_cons_zero, List.set_cons_succ, FS.i_add, FS.i_sub, FS.i_mul, FS.i_mod, FS.i_fdiv, FS.i_lt, FS.i_le, FS.i_gt, FS.i_ge, FS.i_neg, decide_eq_true_eq, if_true, if_false, Bool.false_eq_true, Int.reduceLT, Int.reduceLE, Int.reduceNeg, Int.reducePow, reduceIte, and_self, true_or, or_true, true_and, and_true, FS.tY, FS.r1x]
  refine take_ok h11 (by omega) (by decide) (by decide) fun q s12 q0 q1 f12' h12 => ⟨by omega, ?_⟩
  have f912 := f911.trans f12'
  refine draw (N := q.toNat) (A := fun y => ∃ x, y = PV.str x ∧ asc 16 x) (d := 1) (by omega) h12 (fun i s13 k13 hi f13' h13 hk13 => ?_) fun acc s13 a1 a2 a3 f13' h13 => ?_
  · show okR (eCallG G_law_pick (aCons (eVar 1) (aCons (eVar 3) (aNil))) [y0, some (.obj p), y2, some (.obj l), some (.obj nn), some (.obj w), some (.obj hd), some (.str a), y8, y9, y10, y11, y12, some (.obj A), some (.obj (A + 1)), some (.obj (A + 2)), y16, y17, y18, y19, some (.int (i : Int)), y21] s13) _
    simp only [FS.w_c, FS.w_bin, FS.w_un, FS.w_call, FS.w_callG, FS.w_nil, FS.w_cons, FS.w_tOfE, FS.w_bNot, FS.w_bAnd, FS.w_bOr, FS.w_if, FS.w_tup, FS.w_lst, FS.w_dict0, FS.w_oNone, FS.w_oSome, FS.w_sl, FS.w_mt, FS.w_iOf, FS.w_iItems, FS.w_iValues, FS.w_lc, FS.w_dc, FS.w_lc2, FS.w_var, FS.okR_ok, FS.okO_some, FS.okR_ite, FS.okO_ite, List.getElem?_cons_zero, List.getElem?_cons_succ, List.set_cons_zero, List.set_cons_succ, FS.i_add, FS.i_sub, FS.i_mul, FS.i_mod, FS.i_fdiv, FS.i_lt, FS.i_le, FS.i_gt, FS.i_ge, FS.i_neg, decide_eq_true_eq, if_true, if_false, Bool.false_eq_true, Int.reduceLT, Int.reduceLE, Int.reduceNeg, Int.reducePow, reduceIte, and_self, true_or, or_true, true_and, and_true, FS.tY, FS.r1x]
    refine pick_ok h13 (by omega) (f13'.get (f912.get hl9 (by simpa using nlp)) (by simpa using nlp)) (by rw [List.length_map]; omega) (by rw [List.length_map]; omega) nlp fun x s14 hx f14 h14 => ?_
    obtain ⟨z, hz, rfl⟩ := List.mem_map.mp hx
    exact ⟨⟨z, rfl, xa z hz⟩, f14, h14⟩
  obtain ⟨f, rfl, haf⟩ := strs_of acc a2
  rw [List.length_map] at a1
  rw [tup_lst a3]
  have f913 := f912.trans f13'
  -- some of them
  rw [FS.w_seq, FS.w_set, FS.w_lc, FS.w_iOf]
  simp only [FS.w_var, List.getElem?_cons_zero, List.getElem?_cons_succ, List.set_cons_zero, List.set_cons_succ]
  have hl13 := f913.get hl9 (by simpa using nlp)
  rw [val_lst hl13]
  have lp13 := h13.lt
  have gl13 := f913.len
  refine comp_ok (I := fun i acc s14 => ∃ S : List Str, acc = S.map .str ∧ S.length ≤ i ∧ (∀ x ∈ S, asc 16 x) ∧ s14[s13.length]? = some (.lst acc) ∧ FS.Fr [p] s13 s14 ∧ Pen s14 p c (k + 600 + i)) (i := 0)
    ⟨[], rfl, Nat.le_refl _, nofun, get_push, FS.Fr.push _, (h13.fr (ps := []) (FS.Fr.push _) (by simp) (by simp)).mono (by omega)⟩ (fun j acc s14 ⟨S, _, _, _, _, f14, _⟩ => by simp [lstOf, f14.get hl13 (by simpa using nlp)]) (fun j x acc s14 hx hI => ?_) fun acc s14 ⟨S, e, sl, sa, hS, f14, h14⟩ => ?_
  · obtain ⟨S, rfl, sl, sa, hS, f14, h14⟩ := hI
    rw [Nat.zero_add] at *
    have hj : j < xs.length := by
      have := (List.getElem?_eq_some_iff.mp hx).1
      simpa using this
    rw [List.getElem?_map, List.getElem?_eq_getElem hj] at hx
    cases hx
    refine ⟨_, run_nm, ?_⟩
    show okR (tOfE (eBin cEq (eCallG G_law_take (aCons (eVar 1) (aCons (eC (.int 2)) (aNil)))) (eC (.int 0))) [y0, some (.obj p), y2, some (.obj l), some (.obj nn), some (.obj w), some (.obj hd), some (.str a), some (encW f), y9, y10, y11, y12, some (.obj A), some (.obj (A + 1)), some (.obj (A + 2)), some (.str xs[j]), y17, y18, y19, y20, y21] s14) _
    simp only [FS.w_c, FS.w_bin, FS.w_un, FS.w_call, FS.w_callG, FS.w_nil, FS.w_cons, FS.w_tOfE, FS.w_bNot, FS.w_bAnd, FS.w_bOr, FS.w_if, FS.w_tup, FS.w_lst, FS.w_dict0, FS.w_oNone, FS.w_oSome, FS.w_sl, FS.w_mt, FS.w_iOf, FS.w_iItems, FS.w_iValues, FS.w_lc, FS.w_dc, FS.w_lc2, FS.w_var, FS.okR_ok, FS.okO_some, FS.okR_ite, FS.okO_ite, List.getElem?_cons_zero, List.getElem?_cons_succ, List.set_cons_zero, List.set_cons_succ, FS.i_add, FS.i_sub, FS.i_mul, FS.i_mod, FS.i_fdiv, FS.i_lt, FS.i_le, FS.i_gt, FS.i_ge, FS.i_neg, decide_eq_true_eq, if_true, if_false, Bool.false_eq_true, Int.reduceLT, Int.reduceLE, Int.reduceNeg, Int.reducePow, reduceIte, and_self, true_or, or_true, true_and, and_true, FS.tY, FS.r1x]
    refine take_ok h14 (by omega) (by decide) (by decide) fun t s15 t0 t1 f15' h15 => ?_
    rw [i_eq]
    try dsimp only
    have hnp : s13.length ∉ [p] := by simp; omega
    have hS2 := f15'.get hS hnp
    split
    · show s15[s13.length]? = some (.lst (S.map .str)) ∧ _
      refine ⟨hS2, by rw [List.length_map]; exact Nat.lt_of_lt_of_le (show S.length < 1000 by omega) (sL _ (by decide)), S ++ [xs[j]], by simp, by simp; omega, fun x hx => ?_, List.getElem?_set_self (get_lt hS2), (f14.trans f15').setr _ (.inr (Nat.le_refl _)), ?_⟩
      · rcases List.mem_append.mp hx with hx | hx
        · exact sa x hx
        · simp at hx; subst hx; exact xa _ (List.getElem_mem hj)
      · exact (h15.fr (ps := [s13.length]) (FS.Fr.set _ (.inl (by simp))) (by simp; omega) (by simp; omega)).mono (by omega)
    · exact ⟨S, rfl, by omega, sa, hS2, f14.trans f15', h15.mono (by omega)⟩
  subst e
  rw [List.length_map, Nat.zero_add] at sl h14
  have f914 := f913.trans f14
  have nA : A ≠ p := by omega
  have nB : A + 1 ≠ p := by omega
  have nC : A + 2 ≠ p := by omega
  have nh : hd ≠ p := by omega
  have hw14 := f914.get hw9 (by simpa using nwp)
  have hh14 := f914.get hh9 (by simpa using nh)
  rw [FS.w_seq]
  refine own_ok (S := S) hw14 hW hWl (by omega) hS (f914.get hA2 (by simpa using nA)) (f914.get hB2 (by simpa using nB)) (f914.get hC (by simpa using nC)) (by omega) (by omega) (by omega) (by omega) (by omega) (by omega) (by omega) (by omega) (by omega) fun z10 z21 s16 kA kB kC f16 => ?_
  have nwA : w ≠ A := by omega
  have nwB : w ≠ A + 1 := by omega
  have nwC : w ≠ A + 2 := by omega
  have hw16 := f16.get hw14 (by simp [nwA, nwB, nwC])
  have hh16 := f16.get hh14 (by simp; omega)
  have hS16 := f16.get hS (by simp; omega)
  have h16 := h14.fr f16 (by simp; omega) (by have := h9.lt; have := h6.lt; have := h5.lt; simp; omega)
  rw [FS.w_seq, FS.w_set]
  refine stands_ok hw16 hW hWl fun s17 f17 => ?_
  simp only [List.set_cons_zero, List.set_cons_succ]
  rw [FS.w_seq, FS.w_for]
  simp only [FS.w_c, FS.w_bin, FS.w_un, FS.w_call, FS.w_callG, FS.w_nil, FS.w_cons, FS.w_tOfE, FS.w_bNot, FS.w_bAnd, FS.w_bOr, FS.w_if, FS.w_tup, FS.w_lst, FS.w_dict0, FS.w_oNone, FS.w_oSome, FS.w_sl, FS.w_mt, FS.w_iOf, FS.w_iItems, FS.w_iValues, FS.w_lc, FS.w_dc, FS.w_lc2, FS.w_var, FS.okR_ok, FS.okO_some, FS.okR_ite, FS.okO_ite, List.getElem?_cons_zero, List.getElem?_cons_succ, List.set_cons_zero, List.set_cons_succ, FS.i_add, FS.i_sub, FS.i_mul, FS.i_mod, FS.i_fdiv, FS.i_lt, FS.i_le, FS.i_gt, FS.i_ge, FS.i_neg, decide_eq_true_eq, if_true, if_false, Bool.false_eq_true, Int.reduceLT, Int.reduceLE, Int.reduceNeg, Int.reducePow, reduceIte, and_self, true_or, or_true, true_and, and_true, FS.tY, FS.r1x]
  refine for_ok (i := 0) (I := fun i ρ s18 => ∃ z12 z17 z18 z19, ρ = [y0, some (.obj p), y2, some (.obj l), some (.obj nn), some (.obj w), some (.obj hd), some (.str a), some (encW f), some (.obj s13.length), z10, some (.bl (stands W a)), z12, some (.obj A), some (.obj (A + 1)), some (.obj (A + 2)), y16, z17, z18, z19, y20, z21] ∧ FS.Fr [] s16 s18)
    ⟨_, _, _, _, rfl, f17⟩ (fun _ _ _ _ => rfl) (fun j x ρ s18 hx ⟨z12, z17, z18, z19, e, f18⟩ => ?_) fun ρ s18 ⟨z12, z17, z18, z19, e, f18⟩ => ?_
  · subst e
    refine ⟨_, run_nm, ?_⟩
    show okS (G_law_2 [y0, some (.obj p), y2, some (.obj l), some (.obj nn), some (.obj w), some (.obj hd), some (.str a), some (encW f), some (.obj s13.length), z10, some (.bl (stands W a)), some x, some (.obj A), some (.obj (A + 1)), some (.obj (A + 2)), y16, z17, z18, z19, y20, z21] s18) _ _ _ _
    refine again_ok (S := S) (f18.get hw16 (by simp)) (f18.get hh16 (by simp)) hW hWl (by omega) haf (f18.get hS16 (by simp)) (f18.get kA (by simp)) (f18.get kB (by simp)) (f18.get kC (by simp)) fun w17 w18 w19 s19 f19 => ?_
    exact ⟨_, _, _, _, rfl, f18.trans f19⟩
  · subst e
    try rw [FS.w_next]
    exact hN _ _ rfl rfl ((h16.fr f18 (by simp) (by simp)).mono (by omega))
theorem law_plain (ns : List Int) (hn : ns.length ≤ 63) : ∃ st', G_law [.obj 0] [.frz (.lst (ns.map .int))] = .ok (.bl true) st' := by
  have key : okR (G_law [.obj 0] [.frz (.lst (ns.map .int))]) fun v _ => v = .bl true := by
    refine okR_fnF rfl ?_
    show okS ((_ : SF) [some (.obj 0), none, none, none, none, none, none, none, none, none, none, none, none, none, none, none, none, none, none, none, none, none] [.frz (.lst (ns.map .int))]) _ _ _ _
    rw [FS.w_seq, FS.w_set]
    simp only [FS.w_c, FS.w_bin, FS.w_un, FS.w_call, FS.w_callG, FS.w_nil, FS.w_cons, FS.w_tOfE, FS.w_bNot, FS.w_bAnd, FS.w_bOr, FS.w_if, FS.w_tup, FS.w_lst, FS.w_dict0, FS.w_oNone, FS.w_oSome, FS.w_sl, FS.w_mt, FS.w_iOf, FS.w_iItems, FS.w_iValues, FS.w_lc, FS.w_dc, FS.w_lc2, FS.w_var, FS.okR_ok, FS.okO_some, FS.okR_ite, FS.okO_ite, List.getElem?_cons_zero, List.getElem?_cons_succ, List.set_cons_zero, List.set_cons_succ, FS.i_add, FS.i_sub, FS.i_mul, FS.i_mod, FS.i_fdiv, FS.i_lt, FS.i_le, FS.i_gt, FS.i_ge, FS.i_neg, decide_eq_true_eq, if_true, if_false, Bool.false_eq_true, Int.reduceLT, Int.reduceLE, Int.reduceNeg, Int.reducePow, reduceIte, and_self, true_or, or_true, true_and, and_true, FS.tY, FS.r1x]
    refine open_ok fun p c s1 h1 => ?_
    rw [FS.w_seq, FS.w_for]
    simp only [FS.w_c, FS.w_bin, FS.w_un, FS.w_call, FS.w_callG, FS.w_nil, FS.w_cons, FS.w_tOfE, FS.w_bNot, FS.w_bAnd, FS.w_bOr, FS.w_if, FS.w_tup, FS.w_lst, FS.w_dict0, FS.w_oNone, FS.w_oSome, FS.w_sl, FS.w_mt, FS.w_iOf, FS.w_iItems, FS.w_iValues, FS.w_lc, FS.w_dc, FS.w_lc2, FS.w_var, FS.okR_ok, FS.okO_some, FS.okR_ite, FS.okO_ite, List.getElem?_cons_zero, List.getElem?_cons_succ, List.set_cons_zero, List.set_cons_succ, FS.i_add, FS.i_sub, FS.i_mul, FS.i_mod, FS.i_fdiv, FS.i_lt, FS.i_le, FS.i_gt, FS.i_ge, FS.i_neg, decide_eq_true_eq, if_true, if_false, Bool.false_eq_true, Int.reduceLT, Int.reduceLE, Int.reduceNeg, Int.reducePow, reduceIte, and_self, true_or, or_true, true_and, and_true, FS.tY, FS.r1x]
    refine for_ok (i := 0) (I := fun i ρ s => ρ.length = 22 ∧ ρ[1]? = some (some (.obj p)) ∧ Pen s p c (i * 1000)) ⟨rfl, rfl, h1⟩ (fun _ _ _ _ => rfl) (fun j x ρ s hx ⟨e1, e2, h⟩ => ?_) fun ρ s ⟨e1, e2, h⟩ => ?_
    · rw [Nat.zero_add] at *
      have hj : j < 6 := by
        have := (List.getElem?_eq_some_iff.mp hx).1
        simpa using this
      obtain ⟨y0, y2, y3, y4, y5, y6, y7, y8, y9, y10, y11, y12, y13, y14, y15, y16, y17, y18, y19, y20, y21, rfl⟩ := env22 e1 e2
      refine ⟨_, run_nm, ?_⟩
      simp only [List.set_cons_zero, List.set_cons_succ]
      refine turn_ok h (by omega) fun ρ s' q1 q2 q3 => ⟨q1, q2, ?_⟩
      rw [Nat.succ_mul]
      exact q3
    · rw [FS.w_seq, FS.w_ret]
      simp only [FS.w_c, FS.w_bin, FS.w_un, FS.w_call, FS.w_callG, FS.w_nil, FS.w_cons, FS.w_tOfE, FS.w_bNot, FS.w_bAnd, FS.w_bOr, FS.w_if, FS.w_tup, FS.w_lst, FS.w_dict0, FS.w_oNone, FS.w_oSome, FS.w_sl, FS.w_mt, FS.w_iOf, FS.w_iItems, FS.w_iValues, FS.w_lc, FS.w_dc, FS.w_lc2, FS.w_var, FS.okR_ok, FS.okO_some, FS.okR_ite, FS.okO_ite, List.getElem?_cons_zero, List.getElem?_cons_succ, List.set_cons_zero, List.set_cons_succ, FS.i_add, FS.i_sub, FS.i_mul, FS.i_mod, FS.i_fdiv, FS.i_lt, FS.i_le, FS.i_gt, FS.i_ge, FS.i_neg, decide_eq_true_eq, if_true, if_false, Bool.false_eq_true, Int.reduceLT, Int.reduceLE, Int.reduceNeg, Int.reducePow, reduceIte, and_self, true_or, or_true, true_and, and_true, FS.tY, FS.r1x]
  obtain ⟨v, st', e, hv⟩ := key.get
  exact ⟨st', by rw [e, hv]⟩
end K61

namespace K61
open PySem PySem.Spec PyProof.Rows L2 FS
def top (i : Nat) : Stmt := PySem.Challenge.pw_everbetween_k61_books_turned_and_exchang.main.body.getD i (.Pass ⟨0, 0, 0, 0⟩)
structure Fds where
  f_turned : FuncData
  f_exchanged : FuncData
  f_only : FuncData
  f__law_spread : FuncData
  f__law_open : FuncData
  f__law_take : FuncData
  f__law_pick : FuncData
  f__law_some_letters : FuncData
  f__law_some_names : FuncData
  f__law_drawn_words : FuncData
  f__law_same : FuncData
  f__law_swap_in : FuncData
  f__law_told : FuncData
  f__law_alike : FuncData
  f_law : FuncData
structure Facts (K : PySem.W.Frag) (mg : Str → Option Value) (D : Fds) : Prop where
  g_Full : mg "Full" = some (.ref (He.ga K "Full"))
  g_Held : mg "Held" = some (.ref (He.ga K "Held"))
  g_NoLetter : mg "NoLetter" = some (.ref (He.ga K "NoLetter"))
  g_NoName : mg "NoName" = some (.ref (He.ga K "NoName"))
  g_NoPaper : mg "NoPaper" = some (.ref (He.ga K "NoPaper"))
  g_NoPlace : mg "NoPlace" = some (.ref (He.ga K "NoPlace"))
  g_NoRow : mg "NoRow" = some (.ref (He.ga K "NoRow"))
  g_NoTable : mg "NoTable" = some (.ref (He.ga K "NoTable"))
  g_NoText : mg "NoText" = some (.ref (He.ga K "NoText"))
  g_NoWord : mg "NoWord" = some (.ref (He.ga K "NoWord"))
  g_NotApart : mg "NotApart" = some (.ref (He.ga K "NotApart"))
  g_RowError : mg "RowError" = some (.ref (He.ga K "RowError"))
  g_TooGreat : mg "TooGreat" = some (.ref (He.ga K "TooGreat"))
  g_Unlike : mg "Unlike" = some (.ref (He.ga K "Unlike"))
  g__law_alike : mg "_law_alike" = some (.ref (He.ga K "_law_alike"))
  g__law_drawn_words : mg "_law_drawn_words" = some (.ref (He.ga K "_law_drawn_words"))
  g__law_open : mg "_law_open" = some (.ref (He.ga K "_law_open"))
  g__law_pick : mg "_law_pick" = some (.ref (He.ga K "_law_pick"))
  g__law_same : mg "_law_same" = some (.ref (He.ga K "_law_same"))
  g__law_some_letters : mg "_law_some_letters" = some (.ref (He.ga K "_law_some_letters"))
  g__law_some_names : mg "_law_some_names" = some (.ref (He.ga K "_law_some_names"))
  g__law_spread : mg "_law_spread" = some (.ref (He.ga K "_law_spread"))
  g__law_swap_in : mg "_law_swap_in" = some (.ref (He.ga K "_law_swap_in"))
  g__law_take : mg "_law_take" = some (.ref (He.ga K "_law_take"))
  g__law_told : mg "_law_told" = some (.ref (He.ga K "_law_told"))
  g_exchanged : mg "exchanged" = some (.ref (He.ga K "exchanged"))
  g_law : mg "law" = some (.ref (He.ga K "law"))
  g_only : mg "only" = some (.ref (He.ga K "only"))
  g_turned : mg "turned" = some (.ref (He.ga K "turned"))
  n_ValueError : mg "ValueError" = none
  n_any : mg "any" = none
  n_dict : mg "dict" = none
  n_enumerate : mg "enumerate" = none
  n_isinstance : mg "isinstance" = none
  n_len : mg "len" = none
  n_list : mg "list" = none
  n_range : mg "range" = none
  n_repr : mg "repr" = none
  n_sorted : mg "sorted" = none
  n_tuple : mg "tuple" = none
  d_turned : FunD K "turned" "turned" (defArgs (top 16)) (defBody (top 16)) (defScope (top 16)) [] [] (He.ga K "turned") D.f_turned
  d_exchanged : FunD K "exchanged" "exchanged" (defArgs (top 17)) (defBody (top 17)) (defScope (top 17)) [] [] (He.ga K "exchanged") D.f_exchanged
  d_only : FunD K "only" "only" (defArgs (top 18)) (defBody (top 18)) (defScope (top 18)) [] [] (He.ga K "only") D.f_only
  d__law_spread : FunD K "_law_spread" "_law_spread" (defArgs (top 20)) (defBody (top 20)) (defScope (top 20)) [] [] (He.ga K "_law_spread") D.f__law_spread
  d__law_open : FunD K "_law_open" "_law_open" (defArgs (top 21)) (defBody (top 21)) (defScope (top 21)) [] [] (He.ga K "_law_open") D.f__law_open
  d__law_take : FunD K "_law_take" "_law_take" (defArgs (top 22)) (defBody (top 22)) (defScope (top 22)) [] [] (He.ga K "_law_take") D.f__law_take
  d__law_pick : FunD K "_law_pick" "_law_pick" (defArgs (top 23)) (defBody (top 23)) (defScope (top 23)) [] [] (He.ga K "_law_pick") D.f__law_pick
  d__law_some_letters : FunD K "_law_some_letters" "_law_some_letters" (defArgs (top 24)) (defBody (top 24)) (defScope (top 24)) [] [] (He.ga K "_law_some_letters") D.f__law_some_letters
  d__law_some_names : FunD K "_law_some_names" "_law_some_names" (defArgs (top 25)) (defBody (top 25)) (defScope (top 25)) [] [] (He.ga K "_law_some_names") D.f__law_some_names
  d__law_drawn_words : FunD K "_law_drawn_words" "_law_drawn_words" (defArgs (top 26)) (defBody (top 26)) (defScope (top 26)) [] [] (He.ga K "_law_drawn_words") D.f__law_drawn_words
  d__law_same : FunD K "_law_same" "_law_same" (defArgs (top 27)) (defBody (top 27)) (defScope (top 27)) [] [] (He.ga K "_law_same") D.f__law_same
  d__law_swap_in : FunD K "_law_swap_in" "_law_swap_in" (defArgs (top 28)) (defBody (top 28)) (defScope (top 28)) [] [] (He.ga K "_law_swap_in") D.f__law_swap_in
  d__law_told : FunD K "_law_told" "_law_told" (defArgs (top 29)) (defBody (top 29)) (defScope (top 29)) [] [] (He.ga K "_law_told") D.f__law_told
  d__law_alike : FunD K "_law_alike" "_law_alike" (defArgs (top 30)) (defBody (top 30)) (defScope (top 30)) [] [] (He.ga K "_law_alike") D.f__law_alike
  d_law : FunD K "law" "law" (defArgs (top 31)) (defBody (top 31)) (defScope (top 31)) [] [] (He.ga K "law") D.f_law
  x_NoLetter : ExcG K mg "NoLetter" (He.ga K "NoLetter")
  c_RowError : Catches K mg (.ref (He.ga K "RowError")) (catOf catRowError)
  isi : IsiOk K mg tabI
section
variable {P : Program} {w : World} {K : PySem.W.Frag} {mg : Str → Option Value} {base : Heap} {D : Fds}
theorem sc_turned : FnScope ["book", "name", "word"] ["book"] (defScope (top 16)) := ⟨rfl, rfl, rfl, by decide +kernel, rfl, by decide +kernel, by decide +kernel⟩
theorem bn_turned (F : Facts K mg D) : Binds K D.f_turned ["book"] [] := F.d_turned.bindsN fun _ _ _ _ _ _ us hl => match us, hl with | [_], _ => rfl
theorem ok_turned (F : Facts K mg D) : FnG P w K mg base 1 (He.ga K "turned") D.f_turned ["book"] G_turned := fnG_ofD F.d_turned sc_turned rfl fun cdv A outer s H E hr =>
  (fs_one (fs_ret (fe_lock (eVar 0) (fe_dc [1, 2] rfl sc_turned.nd (fi_items (fe_var 0)) (own := [("name", 1), ("word", 2)]) (blkOk_by (by kernel_rfl)) (fun _ _ _ _ _ => (fp_tp rfl (fps_cons (fp_nm sc_turned.nd) (fps_cons (fp_nm sc_turned.nd) fps_nil)))) (fun _ _ _ _ _ => fts_nil) (fun _ _ _ _ _ => (fe_var 1)) (fun _ _ _ _ _ => (fe_rev (fe_var 2)))))))
theorem sc_exchanged : FnScope ["book", "letter", "letters", "found", "name", "word", "part", "sign"] ["book", "letter", "letters"] (defScope (top 17)) := ⟨rfl, rfl, rfl, by decide +kernel, rfl, by decide +kernel, by decide +kernel⟩
theorem bn_exchanged (F : Facts K mg D) : Binds K D.f_exchanged ["book", "letter", "letters"] [] := F.d_exchanged.bindsN fun _ _ _ _ _ _ us hl => match us, hl with | [_, _, _], _ => rfl
theorem ok_exchanged (F : Facts K mg D) : FnG P w K mg base 1 (He.ga K "exchanged") D.f_exchanged ["book", "letter", "letters"] G_exchanged := fnG_ofD F.d_exchanged sc_exchanged rfl fun cdv A outer s H E hr =>
  (fs_cons (fs_if (ft_not (ft_val (fe_callB (o_any rfl) rfl F.n_any b_any (fa_cons (fe_lock (eVar 0) (fe_lc2 [5, 6] [6] rfl sc_exchanged.nd (fi_values (fe_var 0)) (own := [("word", 5), ("part", 6)]) (blkOk_by (by kernel_rfl)) (fun _ _ _ _ _ => (fp_nm sc_exchanged.nd)) (fun _ _ _ _ _ => fts_nil) (fun _ _ _ _ _ => (fi_val (fe_var 5))) (fun _ _ _ _ _ => (fp_nm sc_exchanged.nd)) (fun _ _ _ _ _ => fts_nil) (fun _ _ _ _ _ => (fe_cmp (o_eq hr.hu64) (fe_var 1) (fe_var 6))))) fa_nil))))
  (fs_one (fs_raiseG F.x_NoLetter rfl (takes_of rfl rfl rfl rfl) rfl))
  fs_nil)
  (fs_cons (fs_set 3 sc_exchanged.nd fe_dict0)
  (fs_cons (fs_lock (eVar 0) (fs_for (passes_of rfl) rfl (fi_items (fe_var 0)) (fp_tp rfl (fps_cons (fp_nm sc_exchanged.nd) (fps_cons (fp_nm sc_exchanged.nd) fps_nil)))
  (b := G_exchanged_1) (fs_one (fs_sub hr.hu (fe_var 3) (fe_var 4) (fe_callTy o_tuple rfl F.n_tuple b_tuple (fa_cons (fe_lc2 [6, 7] [7] rfl sc_exchanged.nd (fi_val (fe_var 5)) (own := [("part", 6), ("sign", 7)]) (blkOk_by (by kernel_rfl)) (fun _ _ _ _ _ => (fp_nm sc_exchanged.nd)) (fun _ _ _ _ _ => fts_nil) (fun _ _ _ _ _ => (fi_val (fe_if (ft_cmp (o_eq hr.hu64) (fe_var 6) (fe_var 1)) (fe_var 2) (fe_tup (fa_cons (fe_var 6) fa_nil))))) (fun _ _ _ _ _ => (fp_nm sc_exchanged.nd)) (fun _ _ _ _ _ => fts_nil) (fun _ _ _ _ _ => (fe_var 7))) fa_nil))))))
  (fs_cons (fs_ret (fe_var 3))
  fs_nil))))
theorem sc_only : FnScope ["book", "letters", "name", "word", "part"] ["book", "letters"] (defScope (top 18)) := ⟨rfl, rfl, rfl, by decide +kernel, rfl, by decide +kernel, by decide +kernel⟩
theorem bn_only (F : Facts K mg D) : Binds K D.f_only ["book", "letters"] [] := F.d_only.bindsN fun _ _ _ _ _ _ us hl => match us, hl with | [_, _], _ => rfl
theorem ok_only (F : Facts K mg D) : FnG P w K mg base 1 (He.ga K "only") D.f_only ["book", "letters"] G_only := fnG_ofD F.d_only sc_only rfl fun cdv A outer s H E hr =>
  (fs_one (fs_ret (fe_lock (eVar 0) (fe_dc [2, 3] rfl sc_only.nd (fi_items (fe_var 0)) (own := [("name", 2), ("word", 3)]) (blkOk_by (by kernel_rfl)) (fun _ _ _ _ _ => (fp_tp rfl (fps_cons (fp_nm sc_only.nd) (fps_cons (fp_nm sc_only.nd) fps_nil)))) (fun _ _ _ _ _ => fts_nil) (fun _ _ _ _ _ => (fe_var 2)) (fun _ _ _ _ _ => (fe_callTy o_tuple rfl F.n_tuple b_tuple (fa_cons (fe_lc [4] rfl sc_only.nd (fi_val (fe_var 3)) (own := [("part", 4)]) (blkOk_by (by kernel_rfl)) (fun _ _ _ _ _ => (fp_nm sc_only.nd)) (fun _ _ _ _ _ => (fts_one (ft_w (fw_or (ft_cmp (o_in hr.hu) (fe_var 4) (fe_var 0)) (fw_or1 (ft_cmp (o_in hr.hu) (fe_var 4) (fe_var 1))))))) (fun _ _ _ _ _ => (fe_var 4))) fa_nil)))))))
theorem sc__law_spread : FnScope ["_law_cell", "_law_at", "_law_primes", "_law_one", "_law_two", "_law_three"] ["_law_cell", "_law_at"] (defScope (top 20)) := ⟨rfl, rfl, rfl, by decide +kernel, rfl, by decide +kernel, by decide +kernel⟩
theorem bn__law_spread (F : Facts K mg D) : Binds K D.f__law_spread ["_law_cell", "_law_at"] [] := F.d__law_spread.bindsN fun _ _ _ _ _ _ us hl => match us, hl with | [_, _], _ => rfl
theorem ok__law_spread (F : Facts K mg D) : FnG P w K mg base 1 (He.ga K "_law_spread") D.f__law_spread ["_law_cell", "_law_at"] G_law_spread := fnG_ofD F.d__law_spread sc__law_spread rfl fun cdv A outer s H E hr =>
  (fs_cons (fs_if (ft_cmp o_ge (fe_var 0) (fe_bin o_pow fe_int fe_int))
  (fs_one (fs_ret (fe_var 0)))
  fs_nil)
  (fs_cons (fs_set 2 sc__law_spread.nd (fe_lst (fa_cons fe_int (fa_cons fe_int (fa_cons fe_int (fa_cons fe_int (fa_cons fe_int (fa_cons fe_int (fa_cons fe_int (fa_cons fe_int fa_nil))))))))))
  (fs_cons (fs_set 3 sc__law_spread.nd (fe_bin o_mod (fe_bin o_pow (fe_bin o_add (fe_bin o_add (fe_bin o_mul (fe_bin o_mod (fe_var 0) fe_int) (fe_bin o_add (fe_bin o_mul fe_int (fe_var 1)) fe_int)) (fe_bin o_mul (fe_var 1) fe_int)) fe_int) fe_int) (fe_ix (o_ix hr.hu) (fe_var 2) (fe_bin o_mod (fe_var 1) fe_int))))
  (fs_cons (fs_set 4 sc__law_spread.nd (fe_bin o_mod (fe_bin o_pow (fe_bin o_add (fe_bin o_add (fe_bin o_mul (fe_var 3) (fe_bin o_add (fe_var 1) fe_int)) (fe_bin o_mod (fe_var 0) fe_int)) fe_int) fe_int) (fe_ix (o_ix hr.hu) (fe_var 2) (fe_bin o_mod (fe_bin o_add (fe_var 1) fe_int) fe_int))))
  (fs_cons (fs_set 5 sc__law_spread.nd (fe_bin o_mod (fe_bin o_pow (fe_bin o_add (fe_bin o_add (fe_var 4) (fe_bin o_mod (fe_var 3) fe_int)) (fe_var 1)) fe_int) (fe_ix (o_ix hr.hu) (fe_var 2) (fe_bin o_mod (fe_bin o_add (fe_var 1) fe_int) fe_int))))
  (fs_cons (fs_ret (fe_bin o_add (fe_bin o_mul (fe_bin o_add (fe_bin o_mul (fe_var 3) fe_int) (fe_var 4)) fe_int) (fe_var 5)))
  fs_nil))))))
theorem sc__law_open : FnScope ["_law_script", "_law_cells", "_law_k", "_law_cell"] ["_law_script"] (defScope (top 21)) := ⟨rfl, rfl, rfl, by decide +kernel, rfl, by decide +kernel, by decide +kernel⟩
theorem bn__law_open (F : Facts K mg D) : Binds K D.f__law_open ["_law_script"] [] := F.d__law_open.bindsN fun _ _ _ _ _ _ us hl => match us, hl with | [_], _ => rfl
theorem ok__law_open (F : Facts K mg D) : FnG P w K mg base 1 (He.ga K "_law_open") D.f__law_open ["_law_script"] G_law_open := fnG_ofD F.d__law_open sc__law_open rfl fun cdv A outer s H E hr =>
  (fs_cons (fs_set 1 sc__law_open.nd (fe_callTy (o_list rfl) rfl F.n_list b_list (fa_cons (fe_slice o_sl (fe_var 0) fo_none (fo_some fe_int)) fa_nil)))
  (fs_cons (fs_for (passes_of rfl) rfl (fi_enum F.n_enumerate (fa_cons (fe_slice o_sl (fe_var 0) (fo_some fe_int) (fo_some fe_int)) fa_nil)) (fp_tp rfl (fps_cons (fp_nm sc__law_open.nd) (fps_cons (fp_nm sc__law_open.nd) fps_nil)))
  (b := G_law_open_1) (fs_one (fs_sub hr.hu (fe_var 1) (fe_bin o_mod (fe_var 2) fe_int) (fe_bin o_add (fe_ix (o_ix hr.hu) (fe_var 1) (fe_bin o_mod (fe_var 2) fe_int)) (fe_var 3)))))
  (fs_cons (fs_ret (fe_lst (fa_cons (fe_var 1) (fa_cons fe_int (fa_cons fe_int fa_nil)))))
  fs_nil)))
theorem sc__law_take : FnScope ["_law_pen", "_law_many", "_law_found", "_law_at", "_law_cell"] ["_law_pen", "_law_many"] (defScope (top 22)) := ⟨rfl, rfl, rfl, by decide +kernel, rfl, by decide +kernel, by decide +kernel⟩
theorem bn__law_take (F : Facts K mg D) : Binds K D.f__law_take ["_law_pen", "_law_many"] [] := F.d__law_take.bindsN fun _ _ _ _ _ _ us hl => match us, hl with | [_, _], _ => rfl
theorem ok__law_take (F : Facts K mg D) : FnG P w K mg base 2 (He.ga K "_law_take") D.f__law_take ["_law_pen", "_law_many"] G_law_take := fnG_ofD F.d__law_take sc__law_take rfl fun cdv A outer s H E hr =>
  (fs_cons (fs_if (ft_cmp o_lt (fe_ix (o_ix hr.hu) (fe_var 0) fe_int) (fe_var 1))
  (fs_cons (fs_set 3 sc__law_take.nd (fe_ix (o_ix hr.hu) (fe_var 0) fe_int))
  (fs_cons (fs_set 4 sc__law_take.nd fe_int)
  (fs_cons (fs_if (ft_cmp o_lt (fe_var 3) (fe_callB o_len rfl F.n_len b_len (fa_cons (fe_ix (o_ix hr.hu) (fe_var 0) fe_int) fa_nil)))
  (fs_one (fs_set 4 sc__law_take.nd (fe_ix (o_ix hr.hu) (fe_ix (o_ix hr.hu) (fe_var 0) fe_int) (fe_var 3))))
  (fs_one (fs_if (ft_cmp o_gt (fe_callB o_len rfl F.n_len b_len (fa_cons (fe_ix (o_ix hr.hu) (fe_var 0) fe_int) fa_nil)) fe_int)
  (fs_one (fs_set 4 sc__law_take.nd (fe_bin o_mod (fe_ix (o_ix hr.hu) (fe_ix (o_ix hr.hu) (fe_var 0) fe_int) (fe_bin o_mod (fe_bin o_add (fe_bin o_mul (fe_var 3) fe_int) fe_int) (fe_callB o_len rfl F.n_len b_len (fa_cons (fe_ix (o_ix hr.hu) (fe_var 0) fe_int) fa_nil)))) (fe_bin o_add (fe_bin o_pow fe_int fe_int) (fe_var 3)))))
  fs_nil)))
  (fs_cons (fs_sub hr.hu (fe_var 0) fe_int (fe_bin o_add (fe_var 3) fe_int))
  (fs_cons (fs_sub hr.hu (fe_var 0) fe_int (fe_call ((ok__law_spread F).mono (by decide)) hr (takes_of rfl rfl rfl rfl) (bn__law_spread F) F.g__law_spread F.d__law_spread.kp (fa_cons (fe_var 4) (fa_cons (fe_var 3) fa_nil))))
  fs_nil)))))
  fs_nil)
  (fs_cons (fs_set 2 sc__law_take.nd (fe_bin o_mod (fe_ix (o_ix hr.hu) (fe_var 0) fe_int) (fe_var 1)))
  (fs_cons (fs_sub hr.hu (fe_var 0) fe_int (fe_bin o_fdiv (fe_ix (o_ix hr.hu) (fe_var 0) fe_int) (fe_var 1)))
  (fs_cons (fs_ret (fe_var 2))
  fs_nil))))
theorem sc__law_pick : FnScope ["_law_pen", "_law_some"] ["_law_pen", "_law_some"] (defScope (top 23)) := ⟨rfl, rfl, rfl, by decide +kernel, rfl, by decide +kernel, by decide +kernel⟩
theorem bn__law_pick (F : Facts K mg D) : Binds K D.f__law_pick ["_law_pen", "_law_some"] [] := F.d__law_pick.bindsN fun _ _ _ _ _ _ us hl => match us, hl with | [_, _], _ => rfl
theorem ok__law_pick (F : Facts K mg D) : FnG P w K mg base 3 (He.ga K "_law_pick") D.f__law_pick ["_law_pen", "_law_some"] G_law_pick := fnG_ofD F.d__law_pick sc__law_pick rfl fun cdv A outer s H E hr =>
  (fs_one (fs_ret (fe_ix (o_ix hr.hu) (fe_var 1) (fe_call ((ok__law_take F).mono (by decide)) hr (takes_of rfl rfl rfl rfl) (bn__law_take F) F.g__law_take F.d__law_take.kp (fa_cons (fe_var 0) (fa_cons (fe_callB o_len rfl F.n_len b_len (fa_cons (fe_var 1) fa_nil)) fa_nil))))))
theorem sc__law_some_letters : FnScope ["_law_pen", "_law_many", "_law_small", "_law_stem", "_law_at", "_law_first", "_law_k"] ["_law_pen", "_law_many"] (defScope (top 24)) := ⟨rfl, rfl, rfl, by decide +kernel, rfl, by decide +kernel, by decide +kernel⟩
theorem bn__law_some_letters (F : Facts K mg D) : Binds K D.f__law_some_letters ["_law_pen", "_law_many"] [] := F.d__law_some_letters.bindsN fun _ _ _ _ _ _ us hl => match us, hl with | [_, _], _ => rfl
theorem ok__law_some_letters (F : Facts K mg D) : FnG P w K mg base 3 (He.ga K "_law_some_letters") D.f__law_some_letters ["_law_pen", "_law_many"] G_law_some_letters := fnG_ofD F.d__law_some_letters sc__law_some_letters rfl fun cdv A outer s H E hr =>
  (fs_cons (fs_set 2 sc__law_some_letters.nd fe_str)
  (fs_cons (fs_set 3 sc__law_some_letters.nd (fe_mt PySem.F.plainAttrs_str PySem.F.slot_str_join PySem.F.type_str_join o_join fe_str (fa_cons (fe_lc [6] rfl sc__law_some_letters.nd (fi_range1 F.n_range (fa_cons (fe_call ((ok__law_take F).mono (by decide)) hr (takes_of rfl rfl rfl rfl) (bn__law_take F) F.g__law_take F.d__law_take.kp (fa_cons (fe_var 0) (fa_cons fe_int fa_nil))) fa_nil)) (own := [("_law_k", 6)]) (blkOk_by (by kernel_rfl)) (fun _ _ _ _ _ => (fp_nm sc__law_some_letters.nd)) (fun _ _ _ _ _ => fts_nil) (fun _ _ _ _ _ => (fe_ix (o_ix hr.hu) (fe_var 2) (fe_call ((ok__law_take F).mono (by decide)) hr takes0 (bn__law_take F) F.g__law_take F.d__law_take.kp (fa_cons (fe_var 0) (fa_cons fe_int fa_nil)))))) fa_nil)))
  (fs_cons (fs_set 4 sc__law_some_letters.nd (fe_call ((ok__law_take F).mono (by decide)) hr (takes_of rfl rfl rfl rfl) (bn__law_take F) F.g__law_take F.d__law_take.kp (fa_cons (fe_var 0) (fa_cons (fe_bin o_add (fe_callB o_len rfl F.n_len b_len (fa_cons (fe_var 3) fa_nil)) fe_int) fa_nil))))
  (fs_cons (fs_set 5 sc__law_some_letters.nd (fe_call ((ok__law_take F).mono (by decide)) hr (takes_of rfl rfl rfl rfl) (bn__law_take F) F.g__law_take F.d__law_take.kp (fa_cons (fe_var 0) (fa_cons fe_int fa_nil))))
  (fs_cons (fs_if (ft_cmp (o_eq hr.hu64) (fe_call ((ok__law_take F).mono (by decide)) hr (takes_of rfl rfl rfl rfl) (bn__law_take F) F.g__law_take F.d__law_take.kp (fa_cons (fe_var 0) (fa_cons fe_int fa_nil))) fe_int)
  (fs_one (fs_ret (fe_lc [6] rfl sc__law_some_letters.nd (fi_range1 F.n_range (fa_cons (fe_var 1) fa_nil)) (own := [("_law_k", 6)]) (blkOk_by (by kernel_rfl)) (fun _ _ _ _ _ => (fp_nm sc__law_some_letters.nd)) (fun _ _ _ _ _ => fts_nil) (fun _ _ _ _ _ => (fe_bin o_mul (fe_ix (o_ix hr.hu) (fe_var 2) (fe_bin o_mod (fe_bin o_add (fe_var 5) (fe_bin o_mul fe_int (fe_var 6))) fe_int)) (fe_bin o_add fe_int (fe_bin o_mod (fe_bin o_add (fe_var 4) (fe_bin o_mul fe_int (fe_var 6))) fe_int)))))))
  fs_nil)
  (fs_cons (fs_ret (fe_lc [6] rfl sc__law_some_letters.nd (fi_range1 F.n_range (fa_cons (fe_var 1) fa_nil)) (own := [("_law_k", 6)]) (blkOk_by (by kernel_rfl)) (fun _ _ _ _ _ => (fp_nm sc__law_some_letters.nd)) (fun _ _ _ _ _ => fts_nil) (fun _ _ _ _ _ => (fe_bin o_add (fe_bin o_add (fe_slice o_sl (fe_var 3) fo_none (fo_some (fe_var 4))) (fe_ix (o_ix hr.hu) (fe_var 2) (fe_bin o_mod (fe_bin o_add (fe_var 5) (fe_bin o_mul fe_int (fe_var 6))) fe_int))) (fe_slice o_sl (fe_var 3) (fo_some (fe_var 4)) fo_none)))))
  fs_nil))))))
theorem sc__law_some_names : FnScope ["_law_pen", "_law_many", "_law_big", "_law_stem", "_law_at", "_law_first", "_law_k"] ["_law_pen", "_law_many"] (defScope (top 25)) := ⟨rfl, rfl, rfl, by decide +kernel, rfl, by decide +kernel, by decide +kernel⟩
theorem bn__law_some_names (F : Facts K mg D) : Binds K D.f__law_some_names ["_law_pen", "_law_many"] [] := F.d__law_some_names.bindsN fun _ _ _ _ _ _ us hl => match us, hl with | [_, _], _ => rfl
theorem ok__law_some_names (F : Facts K mg D) : FnG P w K mg base 3 (He.ga K "_law_some_names") D.f__law_some_names ["_law_pen", "_law_many"] G_law_some_names := fnG_ofD F.d__law_some_names sc__law_some_names rfl fun cdv A outer s H E hr =>
  (fs_cons (fs_set 2 sc__law_some_names.nd fe_str)
  (fs_cons (fs_set 3 sc__law_some_names.nd (fe_mt PySem.F.plainAttrs_str PySem.F.slot_str_join PySem.F.type_str_join o_join fe_str (fa_cons (fe_lc [6] rfl sc__law_some_names.nd (fi_range1 F.n_range (fa_cons (fe_call ((ok__law_take F).mono (by decide)) hr (takes_of rfl rfl rfl rfl) (bn__law_take F) F.g__law_take F.d__law_take.kp (fa_cons (fe_var 0) (fa_cons fe_int fa_nil))) fa_nil)) (own := [("_law_k", 6)]) (blkOk_by (by kernel_rfl)) (fun _ _ _ _ _ => (fp_nm sc__law_some_names.nd)) (fun _ _ _ _ _ => fts_nil) (fun _ _ _ _ _ => (fe_ix (o_ix hr.hu) (fe_var 2) (fe_call ((ok__law_take F).mono (by decide)) hr takes0 (bn__law_take F) F.g__law_take F.d__law_take.kp (fa_cons (fe_var 0) (fa_cons fe_int fa_nil)))))) fa_nil)))
  (fs_cons (fs_set 4 sc__law_some_names.nd (fe_call ((ok__law_take F).mono (by decide)) hr (takes_of rfl rfl rfl rfl) (bn__law_take F) F.g__law_take F.d__law_take.kp (fa_cons (fe_var 0) (fa_cons (fe_bin o_add (fe_callB o_len rfl F.n_len b_len (fa_cons (fe_var 3) fa_nil)) fe_int) fa_nil))))
  (fs_cons (fs_set 5 sc__law_some_names.nd (fe_call ((ok__law_take F).mono (by decide)) hr (takes_of rfl rfl rfl rfl) (bn__law_take F) F.g__law_take F.d__law_take.kp (fa_cons (fe_var 0) (fa_cons fe_int fa_nil))))
  (fs_cons (fs_if (ft_cmp (o_eq hr.hu64) (fe_call ((ok__law_take F).mono (by decide)) hr (takes_of rfl rfl rfl rfl) (bn__law_take F) F.g__law_take F.d__law_take.kp (fa_cons (fe_var 0) (fa_cons fe_int fa_nil))) fe_int)
  (fs_one (fs_ret (fe_lc [6] rfl sc__law_some_names.nd (fi_range1 F.n_range (fa_cons (fe_var 1) fa_nil)) (own := [("_law_k", 6)]) (blkOk_by (by kernel_rfl)) (fun _ _ _ _ _ => (fp_nm sc__law_some_names.nd)) (fun _ _ _ _ _ => fts_nil) (fun _ _ _ _ _ => (fe_bin o_mul (fe_ix (o_ix hr.hu) (fe_var 2) (fe_bin o_mod (fe_bin o_add (fe_var 5) (fe_bin o_mul fe_int (fe_var 6))) fe_int)) (fe_bin o_add fe_int (fe_bin o_mod (fe_bin o_add (fe_var 4) (fe_bin o_mul fe_int (fe_var 6))) fe_int)))))))
  fs_nil)
  (fs_cons (fs_ret (fe_lc [6] rfl sc__law_some_names.nd (fi_range1 F.n_range (fa_cons (fe_var 1) fa_nil)) (own := [("_law_k", 6)]) (blkOk_by (by kernel_rfl)) (fun _ _ _ _ _ => (fp_nm sc__law_some_names.nd)) (fun _ _ _ _ _ => fts_nil) (fun _ _ _ _ _ => (fe_bin o_add (fe_bin o_add (fe_slice o_sl (fe_var 3) fo_none (fo_some (fe_var 4))) (fe_ix (o_ix hr.hu) (fe_var 2) (fe_bin o_mod (fe_bin o_add (fe_var 5) (fe_bin o_mul fe_int (fe_var 6))) fe_int))) (fe_slice o_sl (fe_var 3) (fo_some (fe_var 4)) fo_none)))))
  fs_nil))))))
theorem sc__law_drawn_words : FnScope ["_law_pen", "_law_names", "_law_letters", "_law_most", "_law_words", "_law_name", "_law_often", "_law_parts", "_law_k"] ["_law_pen", "_law_names", "_law_letters", "_law_most"] (defScope (top 26)) := ⟨rfl, rfl, rfl, by decide +kernel, rfl, by decide +kernel, by decide +kernel⟩
theorem bn__law_drawn_words (F : Facts K mg D) : Binds K D.f__law_drawn_words ["_law_pen", "_law_names", "_law_letters", "_law_most"] [] := F.d__law_drawn_words.bindsN fun _ _ _ _ _ _ us hl => match us, hl with | [_, _, _, _], _ => rfl
theorem ok__law_drawn_words (F : Facts K mg D) : FnG P w K mg base 4 (He.ga K "_law_drawn_words") D.f__law_drawn_words ["_law_pen", "_law_names", "_law_letters", "_law_most"] G_law_drawn_words := fnG_ofD F.d__law_drawn_words sc__law_drawn_words rfl fun cdv A outer s H E hr =>
  (fs_cons (fs_set 4 sc__law_drawn_words.nd fe_dict0)
  (fs_cons (fs_for (passes_of rfl) rfl (fi_val (fe_var 1)) (fp_nm sc__law_drawn_words.nd)
  (b := G_law_drawn_words_2) (fs_cons (fs_set 6 sc__law_drawn_words.nd (fe_bin o_add fe_int (fe_call ((ok__law_take F).mono (by decide)) hr (takes_of rfl rfl rfl rfl) (bn__law_take F) F.g__law_take F.d__law_take.kp (fa_cons (fe_var 0) (fa_cons fe_int fa_nil)))))
  (fs_cons (fs_set 7 sc__law_drawn_words.nd (fe_lst fa_nil))
  (fs_cons (fs_for (passes_of rfl) rfl (fi_range1 F.n_range (fa_cons (fe_call ((ok__law_take F).mono (by decide)) hr (takes_of rfl rfl rfl rfl) (bn__law_take F) F.g__law_take F.d__law_take.kp (fa_cons (fe_var 0) (fa_cons (fe_bin o_add (fe_var 3) fe_int) fa_nil))) fa_nil)) (fp_nm sc__law_drawn_words.nd)
  (b := G_law_drawn_words_1) (fs_one (fs_expr (fe_mt PySem.F.plainAttrs_list PySem.F.slot_list_append PySem.F.type_list_append o_append (fe_var 7) (fa_cons (fe_call ((ok__law_pick F).mono (by decide)) hr (takes_of rfl rfl rfl rfl) (bn__law_pick F) F.g__law_pick F.d__law_pick.kp (fa_cons (fe_var 0) (fa_cons (fe_if (ft_cmp o_lt (fe_call ((ok__law_take F).mono (by decide)) hr (takes_of rfl rfl rfl rfl) (bn__law_take F) F.g__law_take F.d__law_take.kp (fa_cons (fe_var 0) (fa_cons fe_int fa_nil))) (fe_var 6)) (fe_var 1) (fe_var 2)) fa_nil))) fa_nil)))))
  (fs_cons (fs_sub hr.hu (fe_var 4) (fe_var 5) (fe_callTy o_tuple rfl F.n_tuple b_tuple (fa_cons (fe_var 7) fa_nil)))
  fs_nil)))))
  (fs_cons (fs_ret (fe_var 4))
  fs_nil)))
theorem sc__law_same : FnScope ["_law_found", "_law_due"] ["_law_found", "_law_due"] (defScope (top 27)) := ⟨rfl, rfl, rfl, by decide +kernel, rfl, by decide +kernel, by decide +kernel⟩
theorem bn__law_same (F : Facts K mg D) : Binds K D.f__law_same ["_law_found", "_law_due"] [] := F.d__law_same.bindsN fun _ _ _ _ _ _ us hl => match us, hl with | [_, _], _ => rfl
theorem ok__law_same (F : Facts K mg D) : FnG P w K mg base 1 (He.ga K "_law_same") D.f__law_same ["_law_found", "_law_due"] G_law_same := fnG_ofD F.d__law_same sc__law_same rfl fun cdv A outer s H E hr =>
  (fs_one (fs_ret (fe_cmp (o_eq hr.hu64) (fe_callB (o_repr hr.gd hr.hu64) rfl F.n_repr b_repr (fa_cons (fe_var 0) fa_nil)) (fe_callB (o_repr hr.gd hr.hu64) rfl F.n_repr b_repr (fa_cons (fe_var 1) fa_nil)))))
theorem sc__law_swap_in : FnScope ["_law_word", "_law_letter", "_law_letters", "_law_found", "_law_part"] ["_law_word", "_law_letter", "_law_letters"] (defScope (top 28)) := ⟨rfl, rfl, rfl, by decide +kernel, rfl, by decide +kernel, by decide +kernel⟩
theorem bn__law_swap_in (F : Facts K mg D) : Binds K D.f__law_swap_in ["_law_word", "_law_letter", "_law_letters"] [] := F.d__law_swap_in.bindsN fun _ _ _ _ _ _ us hl => match us, hl with | [_, _, _], _ => rfl
theorem ok__law_swap_in (F : Facts K mg D) : FnG P w K mg base 1 (He.ga K "_law_swap_in") D.f__law_swap_in ["_law_word", "_law_letter", "_law_letters"] G_law_swap_in := fnG_ofD F.d__law_swap_in sc__law_swap_in rfl fun cdv A outer s H E hr =>
  (fs_cons (fs_set 3 sc__law_swap_in.nd (fe_tup fa_nil))
  (fs_cons (fs_for (passes_of rfl) rfl (fi_val (fe_var 0)) (fp_nm sc__law_swap_in.nd)
  (b := G_law_swap_in_1) (fs_one (fs_set 3 sc__law_swap_in.nd (fe_bin o_add (fe_var 3) (fe_if (ft_cmp (o_eq hr.hu64) (fe_var 4) (fe_var 1)) (fe_var 2) (fe_tup (fa_cons (fe_var 4) fa_nil)))))))
  (fs_cons (fs_ret (fe_var 3))
  fs_nil)))
theorem sc__law_told : FnScope ["_law_words", "_law_letter", "_law_letters", "_law_caught", "_law_found", "e", "_law_some"] ["_law_words", "_law_letter", "_law_letters"] (defScope (top 29)) := ⟨rfl, rfl, rfl, by decide +kernel, rfl, by decide +kernel, by decide +kernel⟩
theorem bn__law_told (F : Facts K mg D) : Binds K D.f__law_told ["_law_words", "_law_letter", "_law_letters"] [] := F.d__law_told.bindsN fun _ _ _ _ _ _ us hl => match us, hl with | [_, _, _], _ => rfl
theorem ok__law_told (F : Facts K mg D) : FnG P w K mg base 2 (He.ga K "_law_told") D.f__law_told ["_law_words", "_law_letter", "_law_letters"] G_law_told := fnG_ofD F.d__law_told sc__law_told rfl fun cdv A outer s H E hr =>
  (fs_cons (fs_set 3 sc__law_told.nd fe_non)
  (fs_cons (fs_set 4 sc__law_told.nd fe_non)
  (fs_cons (fs_keep 5 3 (gb := G_law_told_1) F.c_RowError rfl rfl sc__law_told.nd rfl ⟨rfl, by decide, .inl F.g_RowError⟩ (takes_of rfl rfl rfl rfl) fun W' pn xe tk ps => (fs_one (fs_set 4 sc__law_told.nd (fe_call ((ok_exchanged F).mono (by decide)) hr tk (bn_exchanged F) F.g_exchanged F.d_exchanged.kp (fa_cons (fe_var 0) (fa_cons (fe_var 1) (fa_cons (fe_var 2) fa_nil)))))))
  (fs_cons (fs_if (ft_cmp o_is (fe_var 3) fe_non)
  (fs_one (fs_ret (fe_var 4)))
  fs_nil)
  (fs_cons (fs_set 6 sc__law_told.nd (fe_lst (fa_cons (fe_callB (o_isi F.isi) rfl F.n_isinstance b_isinstance (fa_cons (fe_var 3) (fa_cons (fe_glo rfl F.g_Unlike) fa_nil))) (fa_cons (fe_callB (o_isi F.isi) rfl F.n_isinstance b_isinstance (fa_cons (fe_var 3) (fa_cons (fe_glo rfl F.g_NoPaper) fa_nil))) (fa_cons (fe_callB (o_isi F.isi) rfl F.n_isinstance b_isinstance (fa_cons (fe_var 3) (fa_cons (fe_glo rfl F.g_Full) fa_nil))) fa_nil)))))
  (fs_cons (fs_set 6 sc__law_told.nd (fe_bin o_add (fe_var 6) (fe_lst (fa_cons (fe_callB (o_isi F.isi) rfl F.n_isinstance b_isinstance (fa_cons (fe_var 3) (fa_cons (fe_glo rfl F.g_Held) fa_nil))) (fa_cons (fe_callB (o_isi F.isi) rfl F.n_isinstance b_isinstance (fa_cons (fe_var 3) (fa_cons (fe_glo rfl F.g_NoText) fa_nil))) (fa_cons (fe_callB (o_isi F.isi) rfl F.n_isinstance b_isinstance (fa_cons (fe_var 3) (fa_cons (fe_glo rfl F.g_NoPlace) fa_nil))) fa_nil))))))
  (fs_cons (fs_set 6 sc__law_told.nd (fe_bin o_add (fe_var 6) (fe_lst (fa_cons (fe_callB (o_isi F.isi) rfl F.n_isinstance b_isinstance (fa_cons (fe_var 3) (fa_cons (fe_glo rfl F.g_NotApart) fa_nil))) (fa_cons (fe_callB (o_isi F.isi) rfl F.n_isinstance b_isinstance (fa_cons (fe_var 3) (fa_cons (fe_glo rfl F.g_TooGreat) fa_nil))) (fa_cons (fe_callB (o_isi F.isi) rfl F.n_isinstance b_isinstance (fa_cons (fe_var 3) (fa_cons (fe_glo rfl F.g_NoName) fa_nil))) fa_nil))))))
  (fs_cons (fs_set 6 sc__law_told.nd (fe_bin o_add (fe_var 6) (fe_lst (fa_cons (fe_callB (o_isi F.isi) rfl F.n_isinstance b_isinstance (fa_cons (fe_var 3) (fa_cons (fe_glo rfl F.g_NoWord) fa_nil))) (fa_cons (fe_callB (o_isi F.isi) rfl F.n_isinstance b_isinstance (fa_cons (fe_var 3) (fa_cons (fe_glo rfl F.g_NoTable) fa_nil))) (fa_cons (fe_callB (o_isi F.isi) rfl F.n_isinstance b_isinstance (fa_cons (fe_var 3) (fa_cons (fe_glo rfl F.g_NoRow) fa_nil))) fa_nil))))))
  (fs_cons (fs_if (ft_w (fw_or (ft_cmp (o_in hr.hu) fe_bl (fe_var 6)) (fw_or (ft_not (ft_val (fe_callB (o_isi F.isi) rfl F.n_isinstance b_isinstance (fa_cons (fe_var 3) (fa_cons (fe_glo rfl F.g_NoLetter) fa_nil))))) (fw_or1 (ft_not (ft_val (fe_callB (o_isi F.isi) rfl F.n_isinstance b_isinstance (fa_cons (fe_var 3) (fa_cons (fe_bty rfl F.n_ValueError b_ValueError) fa_nil)))))))))
  (fs_one (fs_ret fe_str))
  fs_nil)
  (fs_cons (fs_ret fe_str)
  fs_nil))))))))))
theorem sc__law_alike : FnScope ["_law_found", "_law_due", "_law_name"] ["_law_found", "_law_due"] (defScope (top 30)) := ⟨rfl, rfl, rfl, by decide +kernel, rfl, by decide +kernel, by decide +kernel⟩
theorem bn__law_alike (F : Facts K mg D) : Binds K D.f__law_alike ["_law_found", "_law_due"] [] := F.d__law_alike.bindsN fun _ _ _ _ _ _ us hl => match us, hl with | [_, _], _ => rfl
theorem ok__law_alike (F : Facts K mg D) : FnG P w K mg base 2 (He.ga K "_law_alike") D.f__law_alike ["_law_found", "_law_due"] G_law_alike := fnG_ofD F.d__law_alike sc__law_alike rfl fun cdv A outer s H E hr =>
  (fs_cons (fs_if (ft_w (fw_or (ft_not (ft_val (fe_callB (o_isi F.isi) rfl F.n_isinstance b_isinstance (fa_cons (fe_var 0) (fa_cons (fe_bty rfl F.n_dict b_dict) fa_nil))))) (fw_or1 (ft_cmp (o_ne hr.hu64) (fe_callB o_sorted rfl F.n_sorted b_sorted (fa_cons (fe_callTy (o_list rfl) rfl F.n_list b_list (fa_cons (fe_var 0) fa_nil)) fa_nil)) (fe_callB o_sorted rfl F.n_sorted b_sorted (fa_cons (fe_callTy (o_list rfl) rfl F.n_list b_list (fa_cons (fe_var 1) fa_nil)) fa_nil))))))
  (fs_one (fs_ret fe_bl))
  fs_nil)
  (fs_cons (fs_ret (fe_cmp (o_eq hr.hu64) (fe_lock (eVar 1) (fe_lc [2] rfl sc__law_alike.nd (fi_val (fe_var 1)) (own := [("_law_name", 2)]) (blkOk_by (by kernel_rfl)) (fun _ _ _ _ _ => (fp_nm sc__law_alike.nd)) (fun _ _ _ _ _ => (fts_one (ft_not (ft_val (fe_call ((ok__law_same F).mono (by decide)) hr takes0 (bn__law_same F) F.g__law_same F.d__law_same.kp (fa_cons (fe_ix (o_ix hr.hu) (fe_var 0) (fe_var 2)) (fa_cons (fe_ix (o_ix hr.hu) (fe_var 1) (fe_var 2)) fa_nil))))))) (fun _ _ _ _ _ => (fe_var 2)))) (fe_lst fa_nil)))
  fs_nil))
theorem sc_law : FnScope ["_law_script", "_law_pen", "_law_turn", "_law_letters", "_law_names", "_law_words", "_law_handed", "_law_letter", "_law_fresh", "_law_some", "_law_name", "_law_stands", "_law_again", "_law_about", "_law_swapped", "_law_left", "_law_one", "_law_first", "_law_second", "_law_third", "_law_k", "_law_part"] ["_law_script"] (defScope (top 31)) := ⟨rfl, rfl, rfl, by decide +kernel, rfl, by decide +kernel, by decide +kernel⟩
theorem bn_law (F : Facts K mg D) : Binds K D.f_law ["_law_script"] [] := F.d_law.bindsN fun _ _ _ _ _ _ us hl => match us, hl with | [_], _ => rfl
theorem ok_law (F : Facts K mg D) : FnG P w K mg base 5 (He.ga K "law") D.f_law ["_law_script"] G_law := fnG_ofD F.d_law sc_law rfl fun cdv A outer s H E hr =>
  (fs_cons (fs_set 1 sc_law.nd (fe_call ((ok__law_open F).mono (by decide)) hr (takes_of rfl rfl rfl rfl) (bn__law_open F) F.g__law_open F.d__law_open.kp (fa_cons (fe_var 0) fa_nil)))
  (fs_cons (fs_for (passes_of rfl) rfl (fi_range1 F.n_range (fa_cons fe_int fa_nil)) (fp_nm sc_law.nd)
  (b := G_law_3) (fs_cons (fs_set 3 sc_law.nd (fe_call ((ok__law_some_letters F).mono (by decide)) hr (takes_of rfl rfl rfl rfl) (bn__law_some_letters F) F.g__law_some_letters F.d__law_some_letters.kp (fa_cons (fe_var 1) (fa_cons fe_int fa_nil))))
  (fs_cons (fs_set 4 sc_law.nd (fe_call ((ok__law_some_names F).mono (by decide)) hr (takes_of rfl rfl rfl rfl) (bn__law_some_names F) F.g__law_some_names F.d__law_some_names.kp (fa_cons (fe_var 1) (fa_cons (fe_bin o_add fe_int (fe_call ((ok__law_take F).mono (by decide)) hr (takes_of rfl rfl rfl rfl) (bn__law_take F) F.g__law_take F.d__law_take.kp (fa_cons (fe_var 1) (fa_cons fe_int fa_nil)))) fa_nil))))
  (fs_cons (fs_set 5 sc_law.nd (fe_call ((ok__law_drawn_words F).mono (by decide)) hr (takes_of rfl rfl rfl rfl) (bn__law_drawn_words F) F.g__law_drawn_words F.d__law_drawn_words.kp (fa_cons (fe_var 1) (fa_cons (fe_var 4) (fa_cons (fe_slice o_sl (fe_var 3) fo_none (fo_some fe_int)) (fa_cons fe_int fa_nil))))))
  (fs_cons (fs_set 6 sc_law.nd (fe_callTy o_dict rfl F.n_dict b_dict (fa_cons (fe_var 5) fa_nil)))
  (fs_cons (fs_par3 13 14 15 rfl sc_law.nd (fa_cons fe_dict0 (fa_cons fe_dict0 (fa_cons fe_dict0 fa_nil))))
  (fs_cons (fs_set 7 sc_law.nd (fe_call ((ok__law_pick F).mono (by decide)) hr (takes_of rfl rfl rfl rfl) (bn__law_pick F) F.g__law_pick F.d__law_pick.kp (fa_cons (fe_var 1) (fa_cons (fe_slice o_sl (fe_var 3) fo_none (fo_some fe_int)) fa_nil))))
  (fs_cons (fs_set 8 sc_law.nd (fe_callTy o_tuple rfl F.n_tuple b_tuple (fa_cons (fe_lc [20] rfl sc_law.nd (fi_range1 F.n_range (fa_cons (fe_call ((ok__law_take F).mono (by decide)) hr (takes_of rfl rfl rfl rfl) (bn__law_take F) F.g__law_take F.d__law_take.kp (fa_cons (fe_var 1) (fa_cons fe_int fa_nil))) fa_nil)) (own := [("_law_k", 20)]) (blkOk_by (by kernel_rfl)) (fun _ _ _ _ _ => (fp_nm sc_law.nd)) (fun _ _ _ _ _ => fts_nil) (fun _ _ _ _ _ => (fe_call ((ok__law_pick F).mono (by decide)) hr takes0 (bn__law_pick F) F.g__law_pick F.d__law_pick.kp (fa_cons (fe_var 1) (fa_cons (fe_var 3) fa_nil))))) fa_nil)))
  (fs_cons (fs_set 9 sc_law.nd (fe_lc [16] rfl sc_law.nd (fi_val (fe_var 3)) (own := [("_law_one", 16)]) (blkOk_by (by kernel_rfl)) (fun _ _ _ _ _ => (fp_nm sc_law.nd)) (fun _ _ _ _ _ => (fts_one (ft_cmp (o_eq hr.hu64) (fe_call ((ok__law_take F).mono (by decide)) hr takes0 (bn__law_take F) F.g__law_take F.d__law_take.kp (fa_cons (fe_var 1) (fa_cons fe_int fa_nil))) fe_int))) (fun _ _ _ _ _ => (fe_var 16))))
  (fs_cons (fs_lock (eVar 5) (fs_for (passes_of rfl) rfl (fi_val (fe_var 5)) (fp_nm sc_law.nd)
  (b := G_law_1) (fs_cons (fs_sub hr.hu (fe_var 13) (fe_var 10) (fe_rev (fe_ix (o_ix hr.hu) (fe_var 5) (fe_var 10))))
  (fs_cons (fs_sub hr.hu (fe_var 14) (fe_var 10) (fe_call ((ok__law_swap_in F).mono (by decide)) hr (takes_of rfl rfl rfl rfl) (bn__law_swap_in F) F.g__law_swap_in F.d__law_swap_in.kp (fa_cons (fe_ix (o_ix hr.hu) (fe_var 5) (fe_var 10)) (fa_cons (fe_var 7) (fa_cons (fe_var 8) fa_nil)))))
  (fs_cons (fs_sub hr.hu (fe_var 15) (fe_var 10) (fe_callTy o_tuple rfl F.n_tuple b_tuple (fa_cons (fe_lc [21] rfl sc_law.nd (fi_val (fe_ix (o_ix hr.hu) (fe_var 5) (fe_var 10))) (own := [("_law_part", 21)]) (blkOk_by (by kernel_rfl)) (fun _ _ _ _ _ => (fp_nm sc_law.nd)) (fun _ _ _ _ _ => (fts_one (ft_w (fw_or (ft_cmp (o_in hr.hu) (fe_var 21) (fe_var 5)) (fw_or1 (ft_cmp (o_in hr.hu) (fe_var 21) (fe_var 9))))))) (fun _ _ _ _ _ => (fe_var 21))) fa_nil)))
  fs_nil)))))
  (fs_cons (fs_set 11 sc_law.nd (fe_cmp (o_ne hr.hu64) (fe_lock (eVar 5) (fe_lc [10] rfl sc_law.nd (fi_val (fe_var 5)) (own := [("_law_name", 10)]) (blkOk_by (by kernel_rfl)) (fun _ _ _ _ _ => (fp_nm sc_law.nd)) (fun _ _ _ _ _ => (fts_one (ft_cmp (o_in hr.hu) (fe_var 7) (fe_ix (o_ix hr.hu) (fe_var 5) (fe_var 10))))) (fun _ _ _ _ _ => (fe_var 10)))) (fe_lst fa_nil)))
  (fs_cons (fs_for (passes_of rfl) rfl (fi_range1 F.n_range (fa_cons fe_int fa_nil)) (fp_nm sc_law.nd)
  (b := G_law_2) (fs_cons (fs_par3 17 18 19 rfl sc_law.nd (fa_cons (fe_call ((ok_turned F).mono (by decide)) hr (takes_of rfl rfl rfl rfl) (bn_turned F) F.g_turned F.d_turned.kp (fa_cons (fe_var 6) fa_nil)) (fa_cons (fe_call ((ok__law_told F).mono (by decide)) hr (takes_of rfl rfl rfl rfl) (bn__law_told F) F.g__law_told F.d__law_told.kp (fa_cons (fe_var 6) (fa_cons (fe_var 7) (fa_cons (fe_var 8) fa_nil)))) (fa_cons (fe_call ((ok_only F).mono (by decide)) hr (takes_of rfl rfl rfl rfl) (bn_only F) F.g_only F.d_only.kp (fa_cons (fe_var 6) (fa_cons (fe_callTy o_tuple rfl F.n_tuple b_tuple (fa_cons (fe_var 9) fa_nil)) fa_nil))) fa_nil))))
  (fs_cons (fs_if (ft_w (fw_or (ft_not (ft_val (fe_call ((ok__law_alike F).mono (by decide)) hr (takes_of rfl rfl rfl rfl) (bn__law_alike F) F.g__law_alike F.d__law_alike.kp (fa_cons (fe_var 17) (fa_cons (fe_var 13) fa_nil))))) (fw_or1 (ft_not (ft_val (fe_call ((ok__law_alike F).mono (by decide)) hr (takes_of rfl rfl rfl rfl) (bn__law_alike F) F.g__law_alike F.d__law_alike.kp (fa_cons (fe_var 19) (fa_cons (fe_var 15) fa_nil))))))))
  (fs_one (fs_ret fe_bl))
  fs_nil)
  (fs_cons (fs_if (ft_w (fw_or (ft_w (fw_and (ft_val (fe_var 11)) (fw_and1 (ft_not (ft_val (fe_call ((ok__law_alike F).mono (by decide)) hr (takes_of rfl rfl rfl rfl) (bn__law_alike F) F.g__law_alike F.d__law_alike.kp (fa_cons (fe_var 18) (fa_cons (fe_var 14) fa_nil)))))))) (fw_or1 (ft_w (fw_and (ft_not (ft_val (fe_var 11))) (fw_and1 (ft_cmp (o_ne hr.hu64) (fe_var 18) fe_str)))))))
  (fs_one (fs_ret fe_bl))
  fs_nil)
  (fs_cons (fs_if (ft_not (ft_val (fe_call ((ok__law_alike F).mono (by decide)) hr (takes_of rfl rfl rfl rfl) (bn__law_alike F) F.g__law_alike F.d__law_alike.kp (fa_cons (fe_var 6) (fa_cons (fe_var 5) fa_nil)))))
  (fs_one (fs_ret fe_bl))
  fs_nil)
  (fs_cons (fs_expr (fe_mt0 PySem.F.plainAttrs_dict PySem.F.slot_dict_clear PySem.F.type_dict_clear o_dclear (fe_var 17)))
  (fs_cons (fs_expr (fe_mt0 PySem.F.plainAttrs_dict PySem.F.slot_dict_clear PySem.F.type_dict_clear o_dclear (fe_var 19)))
  (fs_cons (fs_if (ft_val (fe_var 11))
  (fs_one (fs_expr (fe_mt0 PySem.F.plainAttrs_dict PySem.F.slot_dict_clear PySem.F.type_dict_clear o_dclear (fe_var 18))))
  fs_nil)
  fs_nil))))))))
  fs_nil))))))))))))
  (fs_cons (fs_ret fe_bl)
  fs_nil)))
end
end K61

namespace K61
open PySem PySem.Spec PyProof.Rows L2 FS
def fa : List He.Fa := [.glo "Full", .glo "Held", .glo "NoLetter", .glo "NoName", .glo "NoPaper", .glo "NoPlace", .glo "NoRow", .glo "NoTable", .glo "NoText", .glo "NoWord", .glo "NotApart", .glo "RowError", .glo "TooGreat", .glo "Unlike", .glo "_law_alike", .glo "_law_drawn_words", .glo "_law_open", .glo "_law_pick", .glo "_law_same", .glo "_law_some_letters", .glo "_law_some_names", .glo "_law_spread", .glo "_law_swap_in", .glo "_law_take", .glo "_law_told", .glo "exchanged", .glo "law", .glo "only", .glo "turned", .free "ValueError", .free "any", .free "dict", .free "enumerate", .free "isinstance", .free "len", .free "list", .free "range", .free "repr", .free "sorted", .free "tuple", .exc "NoLetter"]
def d_turned : He.DefD := ⟨("turned", none), "turned", "turned", defArgs (top 16), defBody (top 16), defScope (top 16), [], []⟩
def d_exchanged : He.DefD := ⟨("exchanged", none), "exchanged", "exchanged", defArgs (top 17), defBody (top 17), defScope (top 17), [], []⟩
def d_only : He.DefD := ⟨("only", none), "only", "only", defArgs (top 18), defBody (top 18), defScope (top 18), [], []⟩
def d__law_spread : He.DefD := ⟨("_law_spread", none), "_law_spread", "_law_spread", defArgs (top 20), defBody (top 20), defScope (top 20), [], []⟩
def d__law_open : He.DefD := ⟨("_law_open", none), "_law_open", "_law_open", defArgs (top 21), defBody (top 21), defScope (top 21), [], []⟩
def d__law_take : He.DefD := ⟨("_law_take", none), "_law_take", "_law_take", defArgs (top 22), defBody (top 22), defScope (top 22), [], []⟩
def d__law_pick : He.DefD := ⟨("_law_pick", none), "_law_pick", "_law_pick", defArgs (top 23), defBody (top 23), defScope (top 23), [], []⟩
def d__law_some_letters : He.DefD := ⟨("_law_some_letters", none), "_law_some_letters", "_law_some_letters", defArgs (top 24), defBody (top 24), defScope (top 24), [], []⟩
def d__law_some_names : He.DefD := ⟨("_law_some_names", none), "_law_some_names", "_law_some_names", defArgs (top 25), defBody (top 25), defScope (top 25), [], []⟩
def d__law_drawn_words : He.DefD := ⟨("_law_drawn_words", none), "_law_drawn_words", "_law_drawn_words", defArgs (top 26), defBody (top 26), defScope (top 26), [], []⟩
def d__law_same : He.DefD := ⟨("_law_same", none), "_law_same", "_law_same", defArgs (top 27), defBody (top 27), defScope (top 27), [], []⟩
def d__law_swap_in : He.DefD := ⟨("_law_swap_in", none), "_law_swap_in", "_law_swap_in", defArgs (top 28), defBody (top 28), defScope (top 28), [], []⟩
def d__law_told : He.DefD := ⟨("_law_told", none), "_law_told", "_law_told", defArgs (top 29), defBody (top 29), defScope (top 29), [], []⟩
def d__law_alike : He.DefD := ⟨("_law_alike", none), "_law_alike", "_law_alike", defArgs (top 30), defBody (top 30), defScope (top 30), [], []⟩
def d_law : He.DefD := ⟨("law", none), "law", "law", defArgs (top 31), defBody (top 31), defScope (top 31), [], []⟩
def fn : List He.DefD := [d_turned, d_exchanged, d_only, d__law_spread, d__law_open, d__law_take, d__law_pick, d__law_some_letters, d__law_some_names, d__law_drawn_words, d__law_same, d__law_swap_in, d__law_told, d__law_alike, d_law]
def ask (K : PySem.W.Frag) : Bool := kitB K tabL && (catB K "RowError" catRowError)
abbrev R : PySem.W.OpenRow := PySem.W.OpenLaw.row PySem.Challenge.rw_everbetween_k61_books_turned_and_exchang
abbrev hk : PySem.W.Hook := hookX 5 ask fa fn
def ob (s : PySem.W.SharedT) : AlX := obsX 5 ask fa fn (HandSHeadRun.getT s)
theorem ob_eq (s : PySem.W.SharedT) : ob s = hk.obs s.abs := obsX_eq (HandSHeadRun.getT_eq s)
def loose0 : List PySem.Str := ["RowError", "Unlike", "NoPaper", "Full", "Held", "NoText", "NoPlace", "NotApart", "TooGreat", "NoLetter", "NoName", "NoWord", "NoTable", "NoRow", "turned", "exchanged", "only", "_law_spread", "_law_open", "_law_take", "_law_pick", "_law_some_letters", "_law_some_names", "_law_drawn_words", "_law_same", "_law_swap_in", "_law_told", "_law_alike"]
def loose : List PySem.Str := loose0
theorem run (w : World) : HandSHeadRun.RunEq R (PySem.W.view R.prog [31]) hk ob 6000 loose w := by
  intro os
  kernel_rfl
theorem facts {K : PySem.W.Frag} {h : Heap} {mg : Str → Option Value} (X : K.In h) (G : h.Ns mainGlobals mg) (c0 : (noList K && ask K) = true) (c : He.SaysD fa fn K) : ∃ D : Fds, Facts K mg D := by
  obtain ⟨_, c1⟩ := He.ba c0
  obtain ⟨k0, q0⟩ := He.ba c1
  obtain ⟨f0, F0⟩ := c.def_ 0 (d := d_turned) rfl
  obtain ⟨f1, F1⟩ := c.def_ 1 (d := d_exchanged) rfl
  obtain ⟨f2, F2⟩ := c.def_ 2 (d := d_only) rfl
  obtain ⟨f3, F3⟩ := c.def_ 3 (d := d__law_spread) rfl
  obtain ⟨f4, F4⟩ := c.def_ 4 (d := d__law_open) rfl
  obtain ⟨f5, F5⟩ := c.def_ 5 (d := d__law_take) rfl
  obtain ⟨f6, F6⟩ := c.def_ 6 (d := d__law_pick) rfl
  obtain ⟨f7, F7⟩ := c.def_ 7 (d := d__law_some_letters) rfl
  obtain ⟨f8, F8⟩ := c.def_ 8 (d := d__law_some_names) rfl
  obtain ⟨f9, F9⟩ := c.def_ 9 (d := d__law_drawn_words) rfl
  obtain ⟨f10, F10⟩ := c.def_ 10 (d := d__law_same) rfl
  obtain ⟨f11, F11⟩ := c.def_ 11 (d := d__law_swap_in) rfl
  obtain ⟨f12, F12⟩ := c.def_ 12 (d := d__law_told) rfl
  obtain ⟨f13, F13⟩ := c.def_ 13 (d := d__law_alike) rfl
  obtain ⟨f14, F14⟩ := c.def_ 14 (d := d_law) rfl
  exact ⟨⟨f0, f1, f2, f3, f4, f5, f6, f7, f8, f9, f10, f11, f12, f13, f14⟩, ⟨He.glo_ok X G (c.fact 0 (f := .glo "Full") rfl),
    He.glo_ok X G (c.fact 1 (f := .glo "Held") rfl),
    He.glo_ok X G (c.fact 2 (f := .glo "NoLetter") rfl),
    He.glo_ok X G (c.fact 3 (f := .glo "NoName") rfl),
    He.glo_ok X G (c.fact 4 (f := .glo "NoPaper") rfl),
    He.glo_ok X G (c.fact 5 (f := .glo "NoPlace") rfl),
    He.glo_ok X G (c.fact 6 (f := .glo "NoRow") rfl),
    He.glo_ok X G (c.fact 7 (f := .glo "NoTable") rfl),
    He.glo_ok X G (c.fact 8 (f := .glo "NoText") rfl),
    He.glo_ok X G (c.fact 9 (f := .glo "NoWord") rfl),
    He.glo_ok X G (c.fact 10 (f := .glo "NotApart") rfl),
    He.glo_ok X G (c.fact 11 (f := .glo "RowError") rfl),
    He.glo_ok X G (c.fact 12 (f := .glo "TooGreat") rfl),
    He.glo_ok X G (c.fact 13 (f := .glo "Unlike") rfl),
    He.glo_ok X G (c.fact 14 (f := .glo "_law_alike") rfl),
    He.glo_ok X G (c.fact 15 (f := .glo "_law_drawn_words") rfl),
    He.glo_ok X G (c.fact 16 (f := .glo "_law_open") rfl),
    He.glo_ok X G (c.fact 17 (f := .glo "_law_pick") rfl),
    He.glo_ok X G (c.fact 18 (f := .glo "_law_same") rfl),
    He.glo_ok X G (c.fact 19 (f := .glo "_law_some_letters") rfl),
    He.glo_ok X G (c.fact 20 (f := .glo "_law_some_names") rfl),
    He.glo_ok X G (c.fact 21 (f := .glo "_law_spread") rfl),
    He.glo_ok X G (c.fact 22 (f := .glo "_law_swap_in") rfl),
    He.glo_ok X G (c.fact 23 (f := .glo "_law_take") rfl),
    He.glo_ok X G (c.fact 24 (f := .glo "_law_told") rfl),
    He.glo_ok X G (c.fact 25 (f := .glo "exchanged") rfl),
    He.glo_ok X G (c.fact 26 (f := .glo "law") rfl),
    He.glo_ok X G (c.fact 27 (f := .glo "only") rfl),
    He.glo_ok X G (c.fact 28 (f := .glo "turned") rfl),
    He.free_ok X G (c.fact 29 (f := .free "ValueError") rfl),
    He.free_ok X G (c.fact 30 (f := .free "any") rfl),
    He.free_ok X G (c.fact 31 (f := .free "dict") rfl),
    He.free_ok X G (c.fact 32 (f := .free "enumerate") rfl),
    He.free_ok X G (c.fact 33 (f := .free "isinstance") rfl),
    He.free_ok X G (c.fact 34 (f := .free "len") rfl),
    He.free_ok X G (c.fact 35 (f := .free "list") rfl),
    He.free_ok X G (c.fact 36 (f := .free "range") rfl),
    He.free_ok X G (c.fact 37 (f := .free "repr") rfl),
    He.free_ok X G (c.fact 38 (f := .free "sorted") rfl),
    He.free_ok X G (c.fact 39 (f := .free "tuple") rfl),
    F0,
    F1,
    F2,
    F3,
    F4,
    F5,
    F6,
    F7,
    F8,
    F9,
    F10,
    F11,
    F12,
    F13,
    F14,
    excG_of X G (c.fact 2 (f := .glo "NoLetter") rfl) (c.fact 40 (f := .exc "NoLetter") rfl),
    catches_of X G q0,
    isiOk_of X G k0⟩⟩
end K61

open PySem PySem.W PySem.Calls PyProof.Rows in
theorem PySem.Challenge.cw_everbetween_k61_books_turned_and_exchang_holds : PySem.Challenge.rw_everbetween_k61_books_turned_and_exchang.Holds := by
  w_on; o_law
  refine HandSHeadRun.head_any (r := OpenLaw.row PySem.Challenge.rw_everbetween_k61_books_turned_and_exchang) (q := view (OpenLaw.row PySem.Challenge.rw_everbetween_k61_books_turned_and_exchang).prog [31]) (H := K61.hk) (ob := K61.ob) (M := 6000) (loose := K61.loose) (d := HandSHeadRun.topDef (OpenLaw.row PySem.Challenge.rw_everbetween_k61_books_turned_and_exchang).prog 31) (kwd := []) K61.ob_eq
    (by kernel_rfl) (fun s => by kernel_rfl) K61.run (by kernel_rfl) (by kernel_rfl) (by kernel_rfl) (by rfl) (by first | assumption | decide +kernel) (by decide +kernel) ⟨rfl, rfl, rfl, rfl, rfl, by decide +kernel⟩ ?hw ?hc
  case hw => w_witness2
  case hc =>
    refine FS.walkG (l := PySem.Challenge.rw_everbetween_k61_books_turned_and_exchang) (n := 63) (k := 60) (x := "_law_script") rfl (by decide) (by kernel_rfl) FS.roomG_caller ?F
    intro w mg fa h Y G hmg0
    obtain ⟨K, KX, c0, c⟩ := Y
    have hmg : mg ("law" : PySem.Str) = some (.ref fa) := by
      have e : (HandSHeadRun.topDef (OpenLaw.row PySem.Challenge.rw_everbetween_k61_books_turned_and_exchang).prog 31).name = ("law" : PySem.Str) := by kernel_rfl
      rw [← e]
      exact hmg0
    obtain ⟨D, F⟩ := K61.facts KX G c0 c
    have e := hmg.symm.trans F.g_law
    cases e
    have b := L2.FunD.bindsA (ps := ["_law_script"]) F.d_law fun _ _ _ _ _ _ us hl => match us, hl with | [_], _ => rfl
    exact ⟨K, D.f_law, _, KX, (He.ba c0).1, fun s u => b s [u] rfl, K61.law_plain, fun base _ _ => (K61.ok_law F).mono (by decide)⟩

