import PyProof.Rows.All
import Wide.All
import OpenK.AllK
import Wide.FinOn
import HandS.ForMost
import HandS.ForExc
import HandS.CallSlots
import HandS.HeadHook2
import KE.KeyNested
import HandS.TupAny
import HandS.Deep
import HandS.TupMul
import HandS.IsInst
import HandS.Replace
import HandS.Style
import KE.GoesEnum
import HandS.Zip
import HandS.Property
import HandS.ReplaceLit
import KE.SortData
import HandS.HeadHook3
import KE.KDictKeyed
import HandS.Dict
import HandS.Iter
import KE.KDictDisplayH
import KE.KDictList
import KE.KDictCopyH
import HandS.More
import HandS.CallRecv
import HandS.TupSets
import HandS.DictComp
import HandS.Call
import KE.KDictSum
import HandS.Star
import KE.DataMinMax
import HandS.TupLen
import KE.KStateDown
import HandS.Ends
import HandS.Words
import HandS.WordsExc
import HandS.Defaults
import HandS.Head0
import HandS.Head1
import HandS.Head2
import HandS.HeadEnd
import HandS.HeadHook1
import Lean
import PyProof.Rows.StrStrike
import PySem.Challenge.RW_oldmap_k91_whole_long_walks_of_least_wai
set_option Elab.async false
set_option linter.all false
set_option maxRecDepth 100000
set_option maxHeartbeats 1000000
set_option autoImplicit false
namespace En
open PySem PySem.Spec PyProof.Rows L2

inductive D where
  | non
  | bl (b : Bool)
  | int (i : Int)
  | str (x : Str)
  | tup (xs : List D)
  | lst (xs : List D)
  | ins (c : Str) (fs : List (Str × D))
  | dK (kvs : List (Key × D))
  | dT (kvs : List (NestedKey × D))
  | scr (ns : List Int)
inductive Val where
  | d (x : D)
  | loc (n : Nat)
  | box
inductive Cell where
  | dead
  | lst (xs : List Val)
  | ins (c : Str) (fs : List (Str × Val))
  | dK (kvs : List (Key × Val))
  | dT (kvs : List (NestedKey × Val))
structure Box where
  on : Bool
  v : Bool
  st : Int
  ns : List Int
  ix : Int
structure T where
  st : List Cell
  b : Box
structure Exn where
  own : Bool
  cls : Str
  fs : List (Str × D)
inductive R (α : Type) where
  | ok (a : α) (t : T)
  | exc (x : Exn) (t : T)
  | stuck
abbrev Rho := List (Option Val)
abbrev ME (α : Type) := Rho → T → R α
def R.bind {α β : Type} (r : R α) (f : α → T → R β) : R β := match r with
  | .ok a t => f a t
  | .exc x t => .exc x t
  | .stuck => .stuck

mutual
inductive KeyV (K : PySem.W.Frag) (F : Hp) : V → NestedKey → Prop
  | non : KeyV K F .non .none
  | int (i : Int) : KeyV K F (.int i) (.num i)
  | tup {a : Addr} {xs : List V} {ks : List NestedKey} : SqT K F a xs → KeyVs K F xs ks → KeyV K F (.ref a) (.tup ks)
inductive KeyVs (K : PySem.W.Frag) (F : Hp) : List V → List NestedKey → Prop
  | nil : KeyVs K F [] []
  | cons {v : V} {vs : List V} {k : NestedKey} {ks : List NestedKey} : KeyV K F v k → KeyVs K F vs ks → KeyVs K F (v :: vs) (k :: ks)
end
def dicO (a : Addr) (o : Obj) : HO := .ext fun h => h.get? a = some o
structure DicOk (a : Addr) (o : Obj) (es : Array DictEntry) (ep : Nat) (ks : List NestedKey) : Prop where
  exact_ : o.ExactDict
  data : o.data = .dict es ep
  sys : (a == sysModules) = false
  nodup : ks.Nodup
  size : ks.length ≤ sizeLine
inductive EntsOk (K : PySem.W.Frag) (F : Hp) : List DictEntry → List (NestedKey × V) → Prop
  | nil : EntsOk K F [] []
  | cons {en : DictEntry} {es : List DictEntry} {k : NestedKey} {v : V} {xs : List (NestedKey × V)} {b : Addr} : en.key = .ref b → (∀ w : World, en.hash = k.hash w) → KeyV K F (.ref b) k → k.depth ≤ 8 → RelV v en.val → EntsOk K F es xs → EntsOk K F (en :: es) ((k, v) :: xs)
mutual
inductive Rep (K : PySem.W.Frag) (F : Hp) : V → D → Prop
  | non : Rep K F .non .non
  | bl (b : Bool) : Rep K F (.bl b) (.bl b)
  | int (i : Int) : Rep K F (.int i) (.int i)
  | str (x : Str) : Rep K F (.str x) (.str x)
  | tup {a : Addr} {xs : List V} {ds : List D} : SqT K F a xs → Reps K F xs ds → Rep K F (.ref a) (.tup ds)
  | lst {a : Addr} {xs : List V} {ds : List D} : F a = some (.lst xs) → Reps K F xs ds → Rep K F (.ref a) (.lst ds)
  | ins {a dx : Addr} {c : Str} {xs : List (Str × V)} {fs : List (Str × D)} : F a = some (.ins (He.ga K c) dx xs) → RepF K F xs fs → Rep K F (.ref a) (.ins c fs)
  | dK {a : Addr} {kvs : List (Key × V)} {ds : List (Key × D)} : (∃ o, F a = some (.frz o (.dK kvs))) → RepK K F kvs ds → Rep K F (.ref a) (.dK ds)
  | dT {a : Addr} {o : Obj} {es : Array DictEntry} {ep : Nat} {kvs : List (NestedKey × V)} {ds : List (NestedKey × D)} : F a = some (dicO a o) → DicOk a o es ep (kvs.map (·.1)) → EntsOk K F es.toList kvs → RepT K F kvs ds → Rep K F (.ref a) (.dT ds)
  | scr {a : Addr} {ns : List Int} : SqL K F a (ns.map V.int) → Rep K F (.ref a) (.scr ns)
inductive Reps (K : PySem.W.Frag) (F : Hp) : List V → List D → Prop
  | nil : Reps K F [] []
  | cons {v : V} {vs : List V} {d : D} {ds : List D} : Rep K F v d → Reps K F vs ds → Reps K F (v :: vs) (d :: ds)
inductive RepF (K : PySem.W.Frag) (F : Hp) : List (Str × V) → List (Str × D) → Prop
  | nil : RepF K F [] []
  | cons {x : Str} {v : V} {vs : List (Str × V)} {d : D} {ds : List (Str × D)} : Rep K F v d → RepF K F vs ds → RepF K F ((x, v) :: vs) ((x, d) :: ds)
inductive RepK (K : PySem.W.Frag) (F : Hp) : List (Key × V) → List (Key × D) → Prop
  | nil : RepK K F [] []
  | cons {x : Key} {v : V} {vs : List (Key × V)} {d : D} {ds : List (Key × D)} : Rep K F v d → RepK K F vs ds → RepK K F ((x, v) :: vs) ((x, d) :: ds)
inductive RepT (K : PySem.W.Frag) (F : Hp) : List (NestedKey × V) → List (NestedKey × D) → Prop
  | nil : RepT K F [] []
  | cons {x : NestedKey} {v : V} {vs : List (NestedKey × V)} {d : D} {ds : List (NestedKey × D)} : Rep K F v d → RepT K F vs ds → RepT K F ((x, v) :: vs) ((x, d) :: ds)
end

def Ex (H H' : Hp) : Prop := ∀ a o, H a = some o → H' a = some o
theorem Ex.refl (H : Hp) : Ex H H := fun _ _ h => h
theorem Ex.trans {H H1 H2 : Hp} (a : Ex H H1) (b : Ex H1 H2) : Ex H H2 := fun x o h => b x o (a x o h)
theorem Ex.sqT {K : PySem.W.Frag} {H H' : Hp} {a : Addr} {xs : List V} (e : Ex H H') (h : SqT K H a xs) : SqT K H' a xs := by
  rcases h with (h | ⟨o, h⟩) | h
  · exact .inl (.inl (e _ _ h))
  · exact .inl (.inr ⟨o, e _ _ h⟩)
  · exact .inr h
theorem Ex.sqL {K : PySem.W.Frag} {H H' : Hp} {a : Addr} {xs : List V} (e : Ex H H') (h : SqL K H a xs) : SqL K H' a xs := by
  rcases h with (h | ⟨o, h⟩) | h
  · exact .inl (.inl (e _ _ h))
  · exact .inl (.inr ⟨o, e _ _ h⟩)
  · exact .inr h
mutual
theorem KeyV.mono {K : PySem.W.Frag} {F F' : Hp} (e : Ex F F') {v : V} {k : NestedKey} : KeyV K F v k → KeyV K F' v k
  | .non => .non
  | .int i => .int i
  | .tup h hs => .tup (e.sqT h) (KeyVs.mono e hs)
theorem KeyVs.mono {K : PySem.W.Frag} {F F' : Hp} (e : Ex F F') {v : List V} {k : List NestedKey} : KeyVs K F v k → KeyVs K F' v k
  | .nil => .nil
  | .cons h hs => .cons (KeyV.mono e h) (KeyVs.mono e hs)
end
theorem EntsOk.mono {K : PySem.W.Frag} {F F' : Hp} (e : Ex F F') {es : List DictEntry} {xs : List (NestedKey × V)} (h : EntsOk K F es xs) : EntsOk K F' es xs := by
  induction h with
  | nil => exact .nil
  | cons h1 h2 h3 h4 h5 _ ih => exact .cons h1 h2 (h3.mono e) h4 h5 ih
mutual
theorem Rep.mono {K : PySem.W.Frag} {F F' : Hp} (e : Ex F F') {v : V} {d : D} : Rep K F v d → Rep K F' v d
  | .non => .non
  | .bl b => .bl b
  | .int i => .int i
  | .str x => .str x
  | .tup h hs => .tup (e.sqT h) (Reps.mono e hs)
  | .lst h hs => .lst (e _ _ h) (Reps.mono e hs)
  | .ins h hs => .ins (e _ _ h) (RepF.mono e hs)
  | .dK h hs => .dK (let ⟨o, q⟩ := h; ⟨o, e _ _ q⟩) (RepK.mono e hs)
  | .dT h h2 h3 hs => .dT (e _ _ h) h2 (h3.mono e) (RepT.mono e hs)
  | .scr h => .scr (e.sqL h)
theorem Reps.mono {K : PySem.W.Frag} {F F' : Hp} (e : Ex F F') {v : List V} {d : List D} : Reps K F v d → Reps K F' v d
  | .nil => .nil
  | .cons h hs => .cons (Rep.mono e h) (Reps.mono e hs)
theorem RepF.mono {K : PySem.W.Frag} {F F' : Hp} (e : Ex F F') {v : List (Str × V)} {d : List (Str × D)} : RepF K F v d → RepF K F' v d
  | .nil => .nil
  | .cons h hs => .cons (Rep.mono e h) (RepF.mono e hs)
theorem RepK.mono {K : PySem.W.Frag} {F F' : Hp} (e : Ex F F') {v : List (Key × V)} {d : List (Key × D)} : RepK K F v d → RepK K F' v d
  | .nil => .nil
  | .cons h hs => .cons (Rep.mono e h) (RepK.mono e hs)
theorem RepT.mono {K : PySem.W.Frag} {F F' : Hp} (e : Ex F F') {v : List (NestedKey × V)} {d : List (NestedKey × D)} : RepT K F v d → RepT K F' v d
  | .nil => .nil
  | .cons h hs => .cons (Rep.mono e h) (RepT.mono e hs)
end

structure Wd where
  hid : List Addr
  as : List (Option Addr)
  bx : Option (Addr × Addr)
def Wd.inBx (w : Wd) (a : Addr) : Prop := ∃ b l, w.bx = some (b, l) ∧ (a = b ∨ a = l)
def Wd.wr (w : Wd) (a : Addr) : Prop := w.inBx a ∨ some a ∈ w.as
def Wd.mut (w : Wd) (a : Addr) : Prop := a ∈ w.hid ∨ w.wr a
open Classical in
noncomputable def Fz (w : Wd) (H : Hp) : Hp := fun a => if w.mut a then none else H a
theorem Fz.of {w : Wd} {H : Hp} {a : Addr} {o : HO} (h : Fz w H a = some o) : H a = some o ∧ ¬ w.mut a := by
  unfold Fz at h
  split at h
  · cases h
  · rename_i n
    exact ⟨h, n⟩
theorem Fz.to {w : Wd} {H : Hp} {a : Addr} {o : HO} (h : H a = some o) (n : ¬ w.mut a) : Fz w H a = some o := by
  unfold Fz
  rw [if_neg n]
  exact h
theorem Fz.ex {w : Wd} {H : Hp} : Ex (Fz w H) H := fun _ _ h => (Fz.of h).1

def RepV (K : PySem.W.Frag) (w : Wd) (H : Hp) (x : V) : Val → Prop
  | .d d => Rep K (Fz w H) x d
  | .loc n => w.as[n]? = some none ∨ ∃ a, w.as[n]? = some (some a) ∧ x = .ref a
  | .box => ∃ b l, w.bx = some (b, l) ∧ x = .ref b
inductive RepVs (K : PySem.W.Frag) (w : Wd) (H : Hp) : List V → List Val → Prop
  | nil : RepVs K w H [] []
  | cons {x : V} {xs : List V} {v : Val} {vs : List Val} : RepV K w H x v → RepVs K w H xs vs → RepVs K w H (x :: xs) (v :: vs)

structure Step (w : Wd) (H : Hp) (w' : Wd) (H' : Hp) : Prop where
  hid : w'.hid = w.hid
  fz : Ex (Fz w H) (Fz w' H')
  len : w.as.length ≤ w'.as.length
  old : ∀ (n : Nat) (a : Addr), n < w.as.length → w'.as[n]? = some (some a) → w.as[n]? = some (some a)
  new : ∀ (n : Nat) (a : Addr), w.as.length ≤ n → w'.as[n]? = some (some a) → H a = none
  bx : ∀ p, w.bx = some p → w'.bx = some p
  bnew : w.bx = none → ∀ b l, w'.bx = some (b, l) → H b = none ∧ H l = none
  keep : ∀ a o, H a = some o → ¬ w.wr a → H' a = some o
  there : ∀ a o, H a = some o → ∃ o', H' a = some o'
theorem as_len {as : List (Option Addr)} {n : Nat} {o : Option Addr} (h : as[n]? = some o) : n < as.length := (List.getElem?_eq_some_iff.mp h).1
theorem Step.refl (w : Wd) (H : Hp) : Step w H w H :=
  ⟨rfl, Ex.refl _, Nat.le_refl _, fun _ _ _ h => h, fun n a h e => absurd (as_len e) (Nat.not_lt.mpr h), fun _ h => h, fun h b l e => (by rw [h] at e; cases e), fun _ _ h _ => h, fun _ _ h => ⟨_, h⟩⟩
theorem Step.wr_back {w w' : Wd} {H H' : Hp} (s : Step w H w' H') {a : Addr} {o : HO} (h : H a = some o) (x : w'.wr a) : w.wr a := by
  rcases x with ⟨b, l, e, z⟩ | x
  · cases q : w.bx with
    | none =>
      obtain ⟨n1, n2⟩ := s.bnew q b l e
      rcases z with rfl | rfl
      · rw [n1] at h; cases h
      · rw [n2] at h; cases h
    | some p =>
      have e2 := s.bx p q
      rw [e] at e2
      cases e2
      exact .inl ⟨b, l, q, z⟩
  · obtain ⟨n, hn⟩ := List.getElem?_of_mem x
    by_cases hl : n < w.as.length
    · exact .inr (List.mem_of_getElem? (s.old n a hl hn))
    · rw [s.new n a (Nat.le_of_not_lt hl) hn] at h
      cases h
theorem Step.trans {w w1 w2 : Wd} {H H1 H2 : Hp} (a : Step w H w1 H1) (b : Step w1 H1 w2 H2) : Step w H w2 H2 where
  hid := b.hid.trans a.hid
  fz := a.fz.trans b.fz
  len := Nat.le_trans a.len b.len
  old := fun n x h e => a.old n x h (b.old n x (Nat.lt_of_lt_of_le h a.len) e)
  new := fun n x h e => by
    by_cases hl : n < w1.as.length
    · exact a.new n x h (b.old n x hl e)
    · have q := b.new n x (Nat.le_of_not_lt hl) e
      cases hx : H x with
      | none => rfl
      | some o =>
        obtain ⟨o', e'⟩ := a.there x o hx
        rw [q] at e'; cases e'
  bx := fun p h => b.bx p (a.bx p h)
  bnew := fun h x l e => by
    cases q : w1.bx with
    | none =>
      obtain ⟨n1, n2⟩ := b.bnew q x l e
      refine ⟨?_, ?_⟩
      · cases hx : H x with
        | none => rfl
        | some o =>
          obtain ⟨o', e'⟩ := a.there x o hx
          rw [n1] at e'; cases e'
      · cases hx : H l with
        | none => rfl
        | some o =>
          obtain ⟨o', e'⟩ := a.there l o hx
          rw [n2] at e'; cases e'
    | some p =>
      have e2 := b.bx p q
      rw [e] at e2
      cases e2
      exact a.bnew h x l q
  keep := fun x o h n => b.keep x o (a.keep x o h n) fun z => n (a.wr_back h z)
  there := fun x o h => by
    obtain ⟨o1, e1⟩ := a.there x o h
    exact b.there x o1 e1
theorem Step.dead {w w' : Wd} {H H' : Hp} (s : Step w H w' H') {n : Nat} (h : w.as[n]? = some none) : w'.as[n]? = some none := by
  have hl := as_len h
  have hl' := Nat.lt_of_lt_of_le hl s.len
  cases q : w'.as[n]? with
  | none => exact absurd (List.getElem?_eq_none_iff.mp q) (Nat.not_le.mpr hl')
  | some o =>
    cases o with
    | none => rfl
    | some a =>
      have := s.old n a hl q
      rw [h] at this; cases this
theorem RepV.mono {K : PySem.W.Frag} {w w' : Wd} {H H' : Hp} (s : Step w H w' H') {x : V} {v : Val} (h : RepV K w H x v) : RepV K w' H' x v := by
  cases v with
  | d d => exact Rep.mono s.fz h
  | box =>
    obtain ⟨b, l, e, z⟩ := h
    exact ⟨b, l, s.bx _ e, z⟩
  | loc n =>
    rcases h with h | ⟨a, h, z⟩
    · exact .inl (s.dead h)
    · have hl := as_len h
      have hl' := Nat.lt_of_lt_of_le hl s.len
      cases q : w'.as[n]? with
      | none => exact absurd (List.getElem?_eq_none_iff.mp q) (Nat.not_le.mpr hl')
      | some o =>
        cases o with
        | none => exact .inl q
        | some b =>
          have := s.old n b hl q
          rw [h] at this
          cases this
          exact .inr ⟨a, q, z⟩
theorem RepVs.mono {K : PySem.W.Frag} {w w' : Wd} {H H' : Hp} (s : Step w H w' H') {xs : List V} {vs : List Val} (h : RepVs K w H xs vs) : RepVs K w' H' xs vs := by
  induction h with
  | nil => exact .nil
  | cons h _ ih => exact .cons (h.mono s) ih
theorem RepVs.length {K : PySem.W.Frag} {w : Wd} {H : Hp} {xs : List V} {vs : List Val} (h : RepVs K w H xs vs) : xs.length = vs.length := by
  induction h with
  | nil => rfl
  | cons _ _ ih => simp [ih]

inductive RepVK (K : PySem.W.Frag) (w : Wd) (H : Hp) {κ : Type} : List (κ × V) → List (κ × Val) → Prop
  | nil : RepVK K w H [] []
  | cons {k : κ} {x : V} {xs : List (κ × V)} {v : Val} {vs : List (κ × Val)} : RepV K w H x v → RepVK K w H xs vs → RepVK K w H ((k, x) :: xs) ((k, v) :: vs)
theorem RepVK.mono {K : PySem.W.Frag} {w w' : Wd} {H H' : Hp} {κ : Type} (s : Step w H w' H') {xs : List (κ × V)} {vs : List (κ × Val)} (h : RepVK K w H xs vs) : RepVK K w' H' xs vs := by
  induction h with
  | nil => exact .nil
  | cons h _ ih => exact .cons (h.mono s) ih

def CellOk (K : PySem.W.Frag) (w : Wd) (H : Hp) (a : Addr) : Cell → Prop
  | .dead => False
  | .lst vs => ∃ xs, H a = some (.lst xs) ∧ RepVs K w H xs vs
  | .ins c fs => ∃ dx xs, H a = some (.ins (He.ga K c) dx xs) ∧ RepVK K w H xs fs
  | .dK kvs => ∃ xs, H a = some (.dK xs) ∧ RepVK K w H xs kvs
  | .dT kvs => ∃ o es ep xs, H a = some (dicO a o) ∧ DicOk a o es ep (xs.map (·.1)) ∧ EntsOk K (Fz w H) es.toList xs ∧ RepVK K w H xs kvs
def BoxOk (H : Hp) (b : Box) (x l : Addr) : Prop :=
  H l = some (.lst (b.ns.map V.int)) ∧ H x = some (.lst (if b.v then [.ref l, .int b.st] else [.int b.st, .ref l, .int b.ix]))
structure RelT (K : PySem.W.Frag) (w : Wd) (t : T) (H : Hp) : Prop where
  hidn : ∀ a ∈ w.hid, ∃ o, H a = some o
  len : w.as.length = t.st.length
  inj : ∀ (i j : Nat) (a : Addr), w.as[i]? = some (some a) → w.as[j]? = some (some a) → i = j
  out : ∀ a, some a ∈ w.as → a ∉ w.hid ∧ ¬ w.inBx a
  cell : ∀ (n : Nat) (c : Cell), t.st[n]? = some c → (c = .dead ∧ w.as[n]? = some none) ∨ ∃ a, w.as[n]? = some (some a) ∧ CellOk K w H a c
  bon : t.b.on = w.bx.isSome
  box : ∀ b l, w.bx = some (b, l) → b ≠ l ∧ b ∉ w.hid ∧ l ∉ w.hid ∧ BoxOk H t.b b l
structure RelR (K : PySem.W.Frag) (w : Wd) (ρ : Rho) (σ : L2.St) (H : Hp) : Prop where
  len : ρ.length = σ.length
  at_ : ∀ (i : Nat) (v : Val), ρ[i]? = some (some v) → ∃ x, σ[i]? = some (some x) ∧ RepV K w H x v
theorem RelR.mono {K : PySem.W.Frag} {w w' : Wd} {H H' : Hp} {ρ : Rho} {σ : L2.St} (s : Step w H w' H') (h : RelR K w ρ σ H) : RelR K w' ρ σ H' :=
  ⟨h.len, fun i v e => let ⟨x, e1, r⟩ := h.at_ i v e; ⟨x, e1, r.mono s⟩⟩

def ExcRep (K : PySem.W.Frag) (F : Hp) (cls : Value) (d : Option Addr) (x : Exn) : Prop :=
  (if x.own then cls = .ref (He.ga K x.cls) else cls = .type x.cls.toString) ∧ ((x.fs = [] ∧ d = none) ∨ ∃ dd xs, d = some dd ∧ F dd = some (.xd xs) ∧ RepF K F xs x.fs)

def PostE (K : PySem.W.Frag) (W : WX) (σ : L2.St) {α : Type} (w : Wd) (H : Hp) (Q : Wd → Hp → α → Prop) : R α → Prop
  | .ok a t => ∀ w' H', Step w H w' H' → RelT K w' t H' → Q w' H' a
  | .exc x t => ∀ w' H' cls d, Step w H w' H' → RelT K w' t H' → ExcRep K (Fz w' H') cls d x → W cls d σ H'
  | .stuck => False
theorem PostE.bind {K : PySem.W.Frag} {W : WX} {σ : L2.St} {α β : Type} {w : Wd} {H : Hp} {Q : Wd → Hp → β → Prop} {r : R α} {f : α → T → R β} (h : PostE K W σ w H Q (r.bind f)) :
    PostE K W σ w H (fun w1 H1 a => ∀ t, r = .ok a t → RelT K w1 t H1 → PostE K W σ w1 H1 Q (f a t)) r := by
  cases r with
  | stuck => exact h
  | exc x t => exact h
  | ok a t =>
    intro w1 H1 s1 r1 t' et _
    cases et
    have h' : PostE K W σ w H Q (f a t) := h
    cases q : f a t with
    | stuck => rw [q] at h'; exact h'
    | exc x t2 =>
      rw [q] at h'
      intro w2 H2 cls d s2 r2 e2
      exact h' w2 H2 cls d (s1.trans s2) r2 e2
    | ok b t2 =>
      rw [q] at h'
      intro w2 H2 s2 r2
      exact h' w2 H2 (s1.trans s2) r2
end En
set_option Elab.async false
set_option linter.all false
set_option maxRecDepth 100000
set_option maxHeartbeats 1000000
set_option autoImplicit false
namespace En
open PySem PySem.Spec PyProof.Rows L2

theorem PostE.imp {K : PySem.W.Frag} {W : WX} {σ : L2.St} {α : Type} {w : Wd} {H : Hp} {Q Q' : Wd → Hp → α → Prop} {r : R α} (h : PostE K W σ w H Q r)
    (k : ∀ w' H' a t, r = .ok a t → Step w H w' H' → RelT K w' t H' → Q w' H' a → Q' w' H' a) : PostE K W σ w H Q' r := by
  cases r with
  | stuck => exact h
  | exc x t => exact h
  | ok a t => exact fun w' H' s r' => k w' H' a t rfl s r' (h w' H' s r')
theorem PostE.here {K : PySem.W.Frag} {W : WX} {σ : L2.St} {α : Type} {w : Wd} {H : Hp} {Q : Wd → Hp → α → Prop} {a : α} {t : T} (h : PostE K W σ w H Q (.ok a t)) (r : RelT K w t H) : Q w H a := h w H (Step.refl _ _) r

def tM (K : PySem.W.Frag) (W : WX) (m : ME Val) : TE := fun σ H Q => ∃ w ρ t, RelT K w t H ∧ RelR K w ρ σ H ∧ PostE K W σ w H (fun w' H' v => ∀ x, RepV K w' H' x v → Q x H') (m ρ t)
def tMA (K : PySem.W.Frag) (W : WX) (m : ME (List Val)) : TA := fun σ H Q => ∃ w ρ t, RelT K w t H ∧ RelR K w ρ σ H ∧ PostE K W σ w H (fun w' H' vs => ∀ xs, RepVs K w' H' xs vs → Q xs H') (m ρ t)
def tMT (K : PySem.W.Frag) (W : WX) (m : ME Bool) : TT := fun σ H Q => ∃ w ρ t, RelT K w t H ∧ RelR K w ρ σ H ∧ PostE K W σ w H (fun w' H' b => Q b H') (m ρ t)
def JE (X : Cx) (W : WX) (e : Expr) (m : ME Val) : Prop := PE X e (tM X.K W m)
def JA (X : Cx) (W : WX) (es : List Expr) (m : ME (List Val)) : Prop := PA X es (tMA X.K W m)
def JT (X : Cx) (W : WX) (e : Expr) (m : ME Bool) : Prop := PT X e (tMT X.K W m)
def JW (X : Cx) (W : WX) (e : Expr) (m : ME Bool) : Prop := PW X e (tMT X.K W m)
theorem PE.imp {X : Cx} {e : Expr} {t t' : TE} (h : PE X e t) (k : ∀ σ H Q, t' σ H Q → t σ H Q) : PE X e t' := ⟨fun pins s σ H Q I q => h.run pins s σ H Q I (k σ H Q q)⟩
theorem PA.imp {X : Cx} {e : List Expr} {t t' : TA} (h : PA X e t) (k : ∀ σ H Q, t' σ H Q → t σ H Q) : PA X e t' := ⟨fun pos pins s σ H Q I q => h.run pos pins s σ H Q I (k σ H Q q)⟩
theorem PT.imp {X : Cx} {e : Expr} {t t' : TT} (h : PT X e t) (k : ∀ σ H Q, t' σ H Q → t σ H Q) : PT X e t' := ⟨fun pins s σ H Q I q => h.run pins s σ H Q I (k σ H Q q)⟩
theorem PW.imp {X : Cx} {e : Expr} {t t' : TT} (h : PW X e t) (k : ∀ σ H Q, t' σ H Q → t σ H Q) : PW X e t' := ⟨fun wh pins s σ H Q I q => h.run wh pins s σ H Q I (k σ H Q q)⟩
theorem PS.imp {X : Cx} {e : Stmt} {t t' : TS} (h : PS X e t) (k : ∀ D σ H, t' D σ H → t D σ H) : PS X e t' := ⟨fun pins s σ H D I q => h.run pins s σ H D I (k D σ H q)⟩
theorem PSs.imp {X : Cx} {e : List Stmt} {t t' : TS} (h : PSs X e t) (k : ∀ D σ H, t' D σ H → t D σ H) : PSs X e t' := ⟨fun pins s σ H D I q => h.run pins s σ H D I (k D σ H q)⟩

def mVar (i : Nat) : ME Val := fun ρ t => match ρ[i]? with
  | some (some v) => .ok v t
  | _ => .stuck
def mC (d : D) : ME Val := fun _ t => .ok (.d d) t
def m1 {α : Type} (f : Val → T → R α) (ma : ME Val) : ME α := fun ρ t => (ma ρ t).bind fun x t => f x t
def m2 {α : Type} (f : Val → Val → T → R α) (ma mb : ME Val) : ME α := fun ρ t => (ma ρ t).bind fun x t => (mb ρ t).bind fun y t => f x y t
def mNil : ME (List Val) := fun _ t => .ok [] t
def mCons (ma : ME Val) (mr : ME (List Val)) : ME (List Val) := fun ρ t => (ma ρ t).bind fun x t => (mr ρ t).bind fun xs t => .ok (x :: xs) t
def mL {α : Type} (f : List Val → T → R α) (ma : ME (List Val)) : ME α := fun ρ t => (ma ρ t).bind fun x t => f x t
def mAnd (ma mb : ME Bool) : ME Bool := fun ρ t => (ma ρ t).bind fun x t => if x then mb ρ t else .ok false t
def mOr (ma mb : ME Bool) : ME Bool := fun ρ t => (ma ρ t).bind fun x t => if x then .ok true t else mb ρ t
def mNot (ma : ME Bool) : ME Bool := fun ρ t => (ma ρ t).bind fun x t => .ok (!x) t
def mIf {α : Type} (mc : ME Bool) (ma mb : ME α) : ME α := fun ρ t => (mc ρ t).bind fun x t => if x then ma ρ t else mb ρ t
def mOfB (ma : ME Bool) : ME Val := fun ρ t => (ma ρ t).bind fun x t => .ok (.d (.bl x)) t
def asB (v : Val) (t : T) : R Bool := match v with
  | .d (.bl b) => .ok b t
  | _ => .stuck

section
variable {X : Cx} {W : WX} {a b c : Expr} {ma mb mc : ME Val} {pos : Pos}

theorem je_var {i : Nat} {x : Str} (hN : X.N[i]? = some x) (hv : Vis X.env.scope x) (hd : (x == ("__debug__" : Str)) = false := by decide) (hcd : (x == ("__classdict__" : Str)) = false := by decide) : JE X W (.Name x pos) (mVar i) :=
  PE.imp (pe_var hN hv hd hcd) fun σ H Q ⟨w, ρ, t, rt, rr, p⟩ => by
    unfold mVar at p
    split at p
    · rename_i v e
      obtain ⟨y, e1, r⟩ := rr.at_ i v e
      exact ⟨y, e1, p.here rt y r⟩
    · exact p.elim
theorem je_pv (i : Nat) {x : Str} (hN : X.N[i]? = some x := by rfl) (hv : Vis X.env.scope x := by first | exact Or.inl rfl | exact Or.inr (Or.inl rfl) | exact Or.inr (Or.inr rfl)) (hd : (x == ("__debug__" : Str)) = false := by decide) (hcd : (x == ("__classdict__" : Str)) = false := by decide) : JE X W (.Name x pos) (mVar i) := je_var hN hv hd hcd
theorem tC_of {v : V} {d : D} (hr : ∀ F, Rep X.K F v d) : ∀ σ H Q, tM X.K W (mC d) σ H Q → tC v σ H Q := fun σ H Q ⟨w, ρ, t, rt, rr, p⟩ => p.here rt v (hr _)
theorem je_int {i : Int} {j : Nat} : JE X W (.Constant (.int i) j pos) (mC (.int i)) := PE.imp pe_int (tC_of fun _ => .int i)
theorem je_bl {i : Bool} {j : Nat} : JE X W (.Constant (.bool i) j pos) (mC (.bl i)) := PE.imp pe_bl (tC_of fun _ => .bl i)
theorem je_non {j : Nat} : JE X W (.Constant .none j pos) (mC .non) := PE.imp pe_non (tC_of fun _ => .non)
theorem je_str {i : Str} {j : Nat} : JE X W (.Constant (.str i) j pos) (mC (.str i)) := PE.imp pe_str (tC_of fun _ => .str i)
theorem je_glob {x : Str} {v : V} {u : Value} {d : D} (hr : ∀ F, Rep X.K F v d) (hg : Gl X x) (hm : X.mg x = some u) (r : RelV v u) (hd : (x == ("__debug__" : Str)) = false := by decide) : JE X W (.Name x pos) (mC d) := PE.imp (pe_glob hg hm r hd) (tC_of hr)

def OpS (K : PySem.W.Frag) (W : WX) (r : R2) (f : Val → Val → T → R Val) : Prop :=
  ∀ (w : Wd) (t : T) (σ : L2.St) (H : Hp) (x y : V) (a b : Val) (Q : VK), RelT K w t H → RepV K w H x a → RepV K w H y b → PostE K W σ w H (fun w' H' v => ∀ z, RepV K w' H' z v → Q z H') (f a b t) → r x y H Q
theorem sim2 {r : R2} {f : Val → Val → T → R Val} (hs : OpS X.K W r f) : ∀ σ H Q, tM X.K W (m2 f ma mb) σ H Q → tOp r (tM X.K W ma) (tM X.K W mb) σ H Q := fun σ H Q ⟨w, ρ, t, rt, rr, p⟩ => by
  refine ⟨w, ρ, t, rt, rr, PostE.imp (PostE.bind p) fun w1 H1 v t1 e1 s1 r1 q1 x rx => ?_⟩
  refine ⟨w1, ρ, t1, r1, rr.mono s1, PostE.imp (PostE.bind (q1 t1 e1 r1)) fun w2 H2 u t2 e2 s2 r2 q2 y ry => ?_⟩
  exact hs w2 t2 σ H2 x y v u Q r2 (rx.mono s2) ry (q2 t2 e2 r2)
theorem je_op {op : Operator} {r : R2} {f : Val → Val → T → R Val} (ho : OpR X (binaryOp op) r) (hs : OpS X.K W r f) (ha : JE X W a ma) (hb : JE X W b mb) : JE X W (.BinOp a op b pos) (m2 f ma mb) :=
  PE.imp (pe_op ho ha hb) (sim2 hs)
theorem je_cmp {op : CmpOp} {r : R2} {f : Val → Val → T → R Val} (ho : OpR X (compareOp op) r) (hs : OpS X.K W r f) (hm : behindInMarks op b = false) (ha : JE X W a ma) (hb : JE X W b mb) : JE X W (.Compare a [op] [b] pos) (m2 f ma mb) :=
  PE.imp (pe_cmpR ho ha hb hm) (sim2 hs)
theorem simB {m : ME Val} {te : TE} (h : ∀ σ H Q, tM X.K W m σ H Q → te σ H Q) : ∀ σ H Q, tMT X.K W (m1 asB m) σ H Q → tTest te σ H Q := fun σ H Q ⟨w, ρ, t, rt, rr, p⟩ => by
  refine h σ H _ ⟨w, ρ, t, rt, rr, PostE.imp (PostE.bind p) fun w1 H1 v t1 e1 s1 r1 q1 x rx => ?_⟩
  have q := q1 t1 e1 r1
  unfold asB at q
  split at q
  · rename_i bb
    cases rx
    exact ⟨bb, rfl, q.here r1⟩
  · exact q.elim
theorem jt_cmp {op : CmpOp} {r : R2} {f : Val → Val → T → R Val} (ho : OpR X (compareOp op) r) (hs : OpS X.K W r f) (hm : behindInMarks op b = false) (ha : JE X W a ma) (hb : JE X W b mb) : JT X W (.Compare a [op] [b] pos) (m1 asB (m2 f ma mb)) :=
  PT.imp (pt_cmpR ho ha hb hm) (simB (sim2 hs))
theorem jt_val {e : Expr} {m : ME Val} (h : JE X W e m) (he : ∀ whole, isTrue e X.env whole = (do let v ← whole; standAt e.pos; holding [v] (truthy v)) := by intro _; rfl) : JT X W e (m1 asB m) :=
  PT.imp (pt_val h he) (simB fun _ _ _ q => q)

def m3c (f g : Val → Val → T → R Val) (ma mb mc : ME Val) : ME Val := fun ρ t => (ma ρ t).bind fun x t => (mb ρ t).bind fun y t => (f x y t).bind fun z t => (asB z t).bind fun k t => if k then (mc ρ t).bind fun u t => g y u t else .ok (.d (.bl false)) t
end

section
variable {X : Cx} {W : WX} {a b : Expr} {rest : List Expr} {ma mb : ME Bool} {pos : Pos}
theorem jw_pt {e : Expr} {m : ME Bool} (h : JW X W e m) : JT X W e m := PW.pt h
theorem jw_and1 (ha : JT X W a ma) : JW X W (.BoolOp .And [a] pos) ma := pw_and1 ha
theorem jw_or1 (ha : JT X W a ma) : JW X W (.BoolOp .Or [a] pos) ma := pw_or1 ha
theorem jw_and (ha : JT X W a ma) (hb : JW X W (.BoolOp .And (b :: rest) pos) mb) : JW X W (.BoolOp .And (a :: b :: rest) pos) (mAnd ma mb) :=
  PW.imp (pw_and ha hb) fun σ H Q ⟨w, ρ, t, rt, rr, p⟩ => by
    refine ⟨w, ρ, t, rt, rr, PostE.imp (PostE.bind p) fun w1 H1 v t1 e1 s1 r1 q1 => ?_⟩
    have q := q1 t1 e1 r1
    cases v with
    | true => exact iteT ⟨w1, ρ, t1, r1, rr.mono s1, q⟩
    | false => exact iteF (q.here r1)
theorem jw_or (ha : JT X W a ma) (hb : JW X W (.BoolOp .Or (b :: rest) pos) mb) : JW X W (.BoolOp .Or (a :: b :: rest) pos) (mOr ma mb) :=
  PW.imp (pw_or ha hb) fun σ H Q ⟨w, ρ, t, rt, rr, p⟩ => by
    refine ⟨w, ρ, t, rt, rr, PostE.imp (PostE.bind p) fun w1 H1 v t1 e1 s1 r1 q1 => ?_⟩
    have q := q1 t1 e1 r1
    cases v with
    | true => exact iteT (q.here r1)
    | false => exact iteF ⟨w1, ρ, t1, r1, rr.mono s1, q⟩
theorem jt_not (ha : JT X W a ma) : JT X W (.UnaryOp .Not a pos) (mNot ma) :=
  PT.imp (pt_not ha) fun σ H Q ⟨w, ρ, t, rt, rr, p⟩ => by
    refine ⟨w, ρ, t, rt, rr, PostE.imp (PostE.bind p) fun w1 H1 v t1 e1 s1 r1 q1 => ?_⟩
    exact (q1 t1 e1 r1).here r1
end
section
variable {X : Cx} {W : WX} {a b c : Expr} {rest : List Expr} {ma mb : ME Val} {mc : ME Bool} {pos : Pos}
theorem je_if (hc : JT X W c mc) (ha : JE X W a ma) (hb : JE X W b mb) : JE X W (.IfExp c a b pos) (mIf mc ma mb) :=
  PE.imp (pe_ifExp hc ha hb) fun σ H Q ⟨w, ρ, t, rt, rr, p⟩ => by
    refine ⟨w, ρ, t, rt, rr, PostE.imp (PostE.bind p) fun w1 H1 v t1 e1 s1 r1 q1 => ?_⟩
    have q := q1 t1 e1 r1
    cases v with
    | true => exact iteT ⟨w1, ρ, t1, r1, rr.mono s1, q⟩
    | false => exact iteF ⟨w1, ρ, t1, r1, rr.mono s1, q⟩
def mAndV (ma mb : ME Val) : ME Val := fun ρ t => (ma ρ t).bind fun x t => (asB x t).bind fun k t => if k then mb ρ t else .ok (.d (.bl false)) t
def mOrV (ma mb : ME Val) : ME Val := fun ρ t => (ma ρ t).bind fun x t => (asB x t).bind fun k t => if k then .ok (.d (.bl true)) t else mb ρ t
def mNotV (ma : ME Val) : ME Val := fun ρ t => (ma ρ t).bind fun x t => (asB x t).bind fun k t => .ok (.d (.bl (!k))) t
theorem je_one {op : BoolOp} (ha : JE X W a ma) : JE X W (.BoolOp op [a] pos) ma := pe_one ha
theorem asB_inv {w : Wd} {H : Hp} {α : Type} {σ : L2.St} {Q : Wd → Hp → α → Prop} {v : Val} {t : T} {x : V} {f : Bool → T → R α} (rx : RepV X.K w H x v) (q : PostE X.K W σ w H Q ((asB v t).bind f)) : ∃ k, x = .bl k ∧ PostE X.K W σ w H Q (f k t) := by
  unfold asB at q
  split at q
  · rename_i bb
    cases rx
    exact ⟨bb, rfl, q⟩
  · exact q.elim
theorem je_and (ha : JE X W a ma) (hb : JE X W (.BoolOp .And (b :: rest) pos) mb) : JE X W (.BoolOp .And (a :: b :: rest) pos) (mAndV ma mb) :=
  PE.imp (pe_and ha hb) fun σ H Q ⟨w, ρ, t, rt, rr, p⟩ => by
    refine ⟨w, ρ, t, rt, rr, PostE.imp (PostE.bind p) fun w1 H1 v t1 e1 s1 r1 q1 x rx => ?_⟩
    obtain ⟨k, ek, q⟩ := asB_inv rx (q1 t1 e1 r1)
    refine ⟨k, ek, ?_⟩
    cases k with
    | true => exact iteT ⟨w1, ρ, t1, r1, rr.mono s1, q⟩
    | false => exact iteF (q.here r1 _ (.bl false))
theorem je_or (ha : JE X W a ma) (hb : JE X W (.BoolOp .Or (b :: rest) pos) mb) : JE X W (.BoolOp .Or (a :: b :: rest) pos) (mOrV ma mb) :=
  PE.imp (pe_or ha hb) fun σ H Q ⟨w, ρ, t, rt, rr, p⟩ => by
    refine ⟨w, ρ, t, rt, rr, PostE.imp (PostE.bind p) fun w1 H1 v t1 e1 s1 r1 q1 x rx => ?_⟩
    obtain ⟨k, ek, q⟩ := asB_inv rx (q1 t1 e1 r1)
    refine ⟨k, ek, ?_⟩
    cases k with
    | true => exact iteT (q.here r1 _ (.bl true))
    | false => exact iteF ⟨w1, ρ, t1, r1, rr.mono s1, q⟩
theorem je_not (ha : JE X W a ma) : JE X W (.UnaryOp .Not a pos) (mNotV ma) :=
  PE.imp (pe_not ha) fun σ H Q ⟨w, ρ, t, rt, rr, p⟩ => by
    refine ⟨w, ρ, t, rt, rr, PostE.imp (PostE.bind p) fun w1 H1 v t1 e1 s1 r1 q1 x rx => ?_⟩
    obtain ⟨k, ek, q⟩ := asB_inv rx (q1 t1 e1 r1)
    exact ⟨k, ek, q.here r1 _ (.bl _)⟩
theorem ja_nil : JA X W [] mNil := PA.imp pa_nil fun σ H Q ⟨w, ρ, t, rt, rr, p⟩ => p.here rt [] .nil
theorem ja_cons {e : Expr} {es : List Expr} {me : ME Val} {mr : ME (List Val)} (ha : JE X W e me) (hr : JA X W es mr) (hs : starEach (e :: es) X.env = (false, eval e X.env) :: starEach es X.env := by rfl) : JA X W (e :: es) (mCons me mr) :=
  PA.imp (pa_cons ha hr hs) fun σ H Q ⟨w, ρ, t, rt, rr, p⟩ => by
    refine ⟨w, ρ, t, rt, rr, PostE.imp (PostE.bind p) fun w1 H1 v t1 e1 s1 r1 q1 x rx => ?_⟩
    refine ⟨w1, ρ, t1, r1, rr.mono s1, PostE.imp (PostE.bind (q1 t1 e1 r1)) fun w2 H2 u t2 e2 s2 r2 q2 y ry => ?_⟩
    exact (q2 t2 e2 r2).here r2 _ (.cons (rx.mono s2) ry)
def CallS (K : PySem.W.Frag) (W : WX) (r : List V → Hp → VK → Prop) (f : List Val → T → R Val) : Prop :=
  ∀ (w : Wd) (t : T) (σ : L2.St) (H : Hp) (xs : List V) (vs : List Val) (Q : VK), RelT K w t H → RepVs K w H xs vs → PostE K W σ w H (fun w' H' v => ∀ z, RepV K w' H' z v → Q z H') (f vs t) → r xs H Q
theorem simCB {r : List V → Hp → VK → Prop} {f : List Val → T → R Val} {m : ME (List Val)} (hs : CallS X.K W r f) : ∀ σ H Q, tM X.K W (mL f m) σ H Q → tCB r (tMA X.K W m) σ H Q := fun σ H Q ⟨w, ρ, t, rt, rr, p⟩ => by
  refine ⟨w, ρ, t, rt, rr, PostE.imp (PostE.bind p) fun w1 H1 v t1 e1 s1 r1 q1 x rx => ?_⟩
  exact hs w1 t1 σ H1 x v Q r1 rx (q1 t1 e1 r1)
theorem je_callB {id : String} {x : Str} {r : List V → Hp → VK → Prop} {f : List Val → T → R Val} {e : Expr} {es : List Expr} {p : Pos} {m : ME (List Val)} (hc : CallR X (.builtin id) r) (hs : CallS X.K W r f) (hm : X.mg x = none) (ha : JA X W (e :: es) m)
    (hg : Gl X x := by rfl) (hv : bootBuiltins x = some (.builtin id) := by decide +kernel) (hn : x ≠ "__name__" := by decide) (hdb : (x == ("__debug__" : Str)) = false := by decide)
    (he : starEach (e :: es) X.env = (false, eval e X.env) :: starEach es X.env := by rfl) (hpl : (backTo pos (starEach es X.env)).any (·.1) = false := by rfl) : JE X W (.Call (.Name x p) (e :: es) [] pos) (mL f m) :=
  PE.imp (pe_callB hc hg hm hv ha hn hdb he hpl) (simCB hs)
theorem je_callTy {id : String} {x : Str} {r : List V → Hp → VK → Prop} {f : List Val → T → R Val} {e : Expr} {es : List Expr} {p : Pos} {m : ME (List Val)} (hc : CallR X (.type id) r) (hs : CallS X.K W r f) (hm : X.mg x = none) (ha : JA X W (e :: es) m)
    (hg : Gl X x := by rfl) (hv : bootBuiltins x = some (.type id) := by decide +kernel) (hn : x ≠ "__name__" := by decide) (hdb : (x == ("__debug__" : Str)) = false := by decide)
    (he : starEach (e :: es) X.env = (false, eval e X.env) :: starEach es X.env := by rfl) (hpl : (backTo pos (starEach es X.env)).any (·.1) = false := by rfl) : JE X W (.Call (.Name x p) (e :: es) [] pos) (mL f m) :=
  PE.imp (pe_callTy hc hg hm hv ha hn hdb he hpl) (simCB hs)
end
end En
set_option Elab.async false
set_option linter.all false
set_option maxRecDepth 100000
set_option maxHeartbeats 1000000
set_option autoImplicit false
namespace En
open PySem PySem.Spec PyProof.Rows L2

section
variable {K : PySem.W.Frag} {w : Wd} {t : T} {H : Hp}
theorem RelT.live (r : RelT K w t H) {n : Nat} {a : Addr} (h : w.as[n]? = some (some a)) : ∃ c, t.st[n]? = some c ∧ CellOk K w H a c := by
  have hl : n < t.st.length := by rw [← r.len]; exact as_len h
  refine ⟨t.st[n], List.getElem?_eq_getElem hl, ?_⟩
  rcases r.cell n _ (List.getElem?_eq_getElem hl) with ⟨_, q⟩ | ⟨b, q, ok⟩
  · rw [h] at q; cases q
  · rw [h] at q; cases q; exact ok
theorem CellOk.some {a : Addr} {c : Cell} (h : CellOk K w H a c) : ∃ o, H a = some o := by
  cases c with
  | dead => exact h.elim
  | lst vs => obtain ⟨xs, e, _⟩ := h; exact ⟨_, e⟩
  | ins c fs => obtain ⟨dx, xs, e, _⟩ := h; exact ⟨_, e⟩
  | dK kvs => obtain ⟨xs, e, _⟩ := h; exact ⟨_, e⟩
  | dT kvs => obtain ⟨o, es, ep, xs, e, _⟩ := h; exact ⟨_, e⟩
theorem CellOk.mono {w' : Wd} {H' : Hp} {a : Addr} {c : Cell} (h : CellOk K w H a c) (s : Step w H w' H') (e : H' a = H a) : CellOk K w' H' a c := by
  cases c with
  | dead => exact h.elim
  | lst vs => obtain ⟨xs, q, r⟩ := h; exact ⟨xs, by rw [e]; exact q, r.mono s⟩
  | ins c fs => obtain ⟨dx, xs, q, r⟩ := h; exact ⟨dx, xs, by rw [e]; exact q, r.mono s⟩
  | dK kvs => obtain ⟨xs, q, r⟩ := h; exact ⟨xs, by rw [e]; exact q, r.mono s⟩
  | dT kvs => obtain ⟨o, es, ep, xs, q, q2, q3, r⟩ := h; exact ⟨o, es, ep, xs, by rw [e]; exact q, q2, q3.mono s.fz, r.mono s⟩
theorem RelT.mutn (r : RelT K w t H) {p : Addr} (hp : H p = none) : ¬ w.mut p := by
  rintro (h | ⟨b, l, e, h⟩ | h)
  · obtain ⟨o, e⟩ := r.hidn p h
    rw [hp] at e; cases e
  · obtain ⟨_, _, _, h1, h2⟩ := r.box b l e
    rcases h with rfl | rfl
    · rw [hp] at h2; cases h2
    · rw [hp] at h1; cases h1
  · obtain ⟨n, hn⟩ := List.getElem?_of_mem h
    obtain ⟨c, _, ok⟩ := r.live hn
    obtain ⟨o, e⟩ := ok.some
    rw [hp] at e; cases e
theorem upd_some {p a : Addr} {o u : HO} (hp : H p = none) (h : H a = some u) : upd H p o a = some u := by
  rw [upd_ne (ne_of_none h hp)]
  exact h
theorem step_new (r : RelT K w t H) {p : Addr} {o : HO} (hp : H p = none) : Step w H w (upd H p o) :=
  ⟨rfl, fun a u e => Fz.to (upd_some hp (Fz.of e).1) (Fz.of e).2, Nat.le_refl _, fun _ _ _ h => h, fun n a h e => absurd (as_len e) (Nat.not_lt.mpr h), fun _ h => h, fun h b l e => (by rw [h] at e; cases e), fun a u e _ => upd_some hp e, fun a u e => ⟨_, upd_some hp e⟩⟩
theorem BoxOk.mono {H' : Hp} {b : Box} {x l : Addr} (h : BoxOk H b x l) (e1 : H' l = H l) (e2 : H' x = H x) : BoxOk H' b x l := ⟨by rw [e1]; exact h.1, by rw [e2]; exact h.2⟩
theorem RelT.new (r : RelT K w t H) {p : Addr} {o : HO} (hp : H p = none) : RelT K w t (upd H p o) where
  hidn := fun a ha => let ⟨u, e⟩ := r.hidn a ha; ⟨u, upd_some hp e⟩
  len := r.len
  inj := r.inj
  out := r.out
  cell := fun n c e => by
    rcases r.cell n c e with h | ⟨a, ha, ok⟩
    · exact .inl h
    · obtain ⟨u, eu⟩ := ok.some
      exact .inr ⟨a, ha, ok.mono (step_new r hp) (by rw [upd_ne (ne_of_none eu hp)])⟩
  bon := r.bon
  box := fun b l e => by
    obtain ⟨h1, h2, h3, h4⟩ := r.box b l e
    exact ⟨h1, h2, h3, h4.mono (by rw [upd_ne (ne_of_none h4.1 hp)]) (by rw [upd_ne (ne_of_none h4.2 hp)])⟩
theorem Fz.new (r : RelT K w t H) {p : Addr} {o : HO} (hp : H p = none) : Fz w (upd H p o) p = some o := Fz.to upd_same (r.mutn hp)

def Wd.add (w : Wd) (p : Addr) : Wd := { w with as := w.as ++ [some p] }
theorem add_at (w : Wd) (p : Addr) {n : Nat} {o : Option Addr} (h : w.as[n]? = some o) : (w.add p).as[n]? = some o := by
  show (w.as ++ [some p])[n]? = some o
  rw [List.getElem?_append_left (as_len h)]
  exact h
theorem add_last (w : Wd) (p : Addr) : (w.add p).as[w.as.length]? = some (some p) := by
  show (w.as ++ [some p])[w.as.length]? = _
  rw [List.getElem?_append_right (Nat.le_refl _), Nat.sub_self]
  rfl
theorem add_cases (w : Wd) (p : Addr) {n : Nat} {o : Option Addr} (h : (w.add p).as[n]? = some o) : w.as[n]? = some o ∨ (n = w.as.length ∧ o = some p) := by
  have h' : (w.as ++ [some p])[n]? = some o := h
  by_cases hl : n < w.as.length
  · rw [List.getElem?_append_left hl] at h'
    exact .inl h'
  · have hl2 := as_len h
    have e : (w.add p).as.length = w.as.length + 1 := by show (w.as ++ [some p]).length = _; simp
    have en : n = w.as.length := by omega
    subst en
    rw [add_last] at h
    exact .inr ⟨rfl, (Option.some.inj h).symm⟩
theorem add_wr {w : Wd} {p a : Addr} (h : (w.add p).wr a) : w.wr a ∨ a = p := by
  rcases h with h | h
  · exact .inl (.inl h)
  · have h' : some a ∈ w.as ++ [some p] := h
    rcases List.mem_append.mp h' with q | q
    · exact .inl (.inr q)
    · exact .inr (by simpa using q)
theorem step_add (r : RelT K w t H) {p : Addr} {o : HO} (hp : H p = none) : Step w H (w.add p) (upd H p o) where
  hid := rfl
  fz := fun a u e => by
    obtain ⟨h1, h2⟩ := Fz.of e
    refine Fz.to (upd_some hp h1) fun z => ?_
    rcases z with z | z
    · exact h2 (.inl z)
    · rcases add_wr z with z | z
      · exact h2 (.inr z)
      · rw [z, hp] at h1; cases h1
  len := by show _ ≤ (w.as ++ [some p]).length; simp
  old := fun n a h e => by
    rcases add_cases w p e with q | ⟨q, _⟩
    · exact q
    · omega
  new := fun n a h e => by
    rcases add_cases w p e with q | ⟨_, q⟩
    · exact absurd (as_len q) (Nat.not_lt.mpr h)
    · cases q; exact hp
  bx := fun _ h => h
  bnew := fun h b l e => by
    have e' : w.bx = some (b, l) := e
    rw [h] at e'; cases e'
  keep := fun a u e _ => upd_some hp e
  there := fun a u e => ⟨_, upd_some hp e⟩
theorem RelT.add (r : RelT K w t H) {p : Addr} {o : HO} {c : Cell} (hp : H p = none) (ok : CellOk K (w.add p) (upd H p o) p c) : RelT K (w.add p) { t with st := t.st ++ [c] } (upd H p o) where
  hidn := fun a ha => let ⟨u, e⟩ := r.hidn a ha; ⟨u, upd_some hp e⟩
  len := by show (w.as ++ [some p]).length = (t.st ++ [c]).length; simp [r.len]
  inj := fun i j a h1 h2 => by
    rcases add_cases w p h1 with q1 | ⟨q1, e1⟩ <;> rcases add_cases w p h2 with q2 | ⟨q2, e2⟩
    · exact r.inj i j a q1 q2
    · cases e2
      obtain ⟨c', _, ok'⟩ := r.live q1
      obtain ⟨u, eu⟩ := ok'.some
      rw [hp] at eu; cases eu
    · cases e1
      obtain ⟨c', _, ok'⟩ := r.live q2
      obtain ⟨u, eu⟩ := ok'.some
      rw [hp] at eu; cases eu
    · omega
  out := fun a h => by
    have h' : some a ∈ w.as ++ [some p] := h
    rcases List.mem_append.mp h' with q | q
    · exact r.out a q
    · have e : a = p := by simpa using q
      subst e
      have n := r.mutn hp
      exact ⟨fun z => n (.inl z), fun z => n (.inr (.inl z))⟩
  cell := fun n c' e => by
    have e' : (t.st ++ [c])[n]? = some c' := e
    by_cases hl : n < t.st.length
    · rw [List.getElem?_append_left hl] at e'
      rcases r.cell n c' e' with ⟨h1, h2⟩ | ⟨a, ha, ok'⟩
      · exact .inl ⟨h1, add_at w p h2⟩
      · obtain ⟨u, eu⟩ := ok'.some
        exact .inr ⟨a, add_at w p ha, ok'.mono (step_add r hp) (by rw [upd_ne (ne_of_none eu hp)])⟩
    · have hl2 := (List.getElem?_eq_some_iff.mp e).1
      have hl3 : n < (t.st ++ [c]).length := hl2
      have en : n = t.st.length := by simp at hl3; omega
      subst en
      rw [List.getElem?_append_right (Nat.le_refl _), Nat.sub_self] at e'
      cases e'
      exact .inr ⟨p, by rw [← r.len]; exact add_last w p, ok⟩
  bon := r.bon
  box := fun b l e => by
    obtain ⟨h1, h2, h3, h4⟩ := r.box b l e
    exact ⟨h1, h2, h3, h4.mono (by rw [upd_ne (ne_of_none h4.1 hp)]) (by rw [upd_ne (ne_of_none h4.2 hp)])⟩

theorem live_wr {n : Nat} {a : Addr} (h : w.as[n]? = some (some a)) : w.wr a := .inr (List.mem_of_getElem? h)
theorem step_wr (r : RelT K w t H) {n : Nat} {a : Addr} {o : HO} (h : w.as[n]? = some (some a)) : Step w H w (upd H a o) where
  hid := rfl
  fz := fun b u e => by
    obtain ⟨h1, h2⟩ := Fz.of e
    refine Fz.to ?_ h2
    rw [upd_ne (fun z => h2 (.inr (by rw [z]; exact live_wr h)))]
    exact h1
  len := Nat.le_refl _
  old := fun _ _ _ h => h
  new := fun n a h e => absurd (as_len e) (Nat.not_lt.mpr h)
  bx := fun _ h => h
  bnew := fun h b l e => by rw [h] at e; cases e
  keep := fun b u e nb => by
    rw [upd_ne (fun z => nb (by rw [z]; exact live_wr h))]
    exact e
  there := fun b u e => by
    by_cases hb : b = a
    · subst hb; exact ⟨_, upd_same⟩
    · exact ⟨u, by rw [upd_ne hb]; exact e⟩
theorem RelT.wr (r : RelT K w t H) {n : Nat} {a : Addr} {o : HO} {c : Cell} (h : w.as[n]? = some (some a)) (ok : CellOk K w (upd H a o) a c) : RelT K w { t with st := t.st.set n c } (upd H a o) where
  hidn := fun b hb => (step_wr r h).there b _ (r.hidn b hb).choose_spec
  len := by show _ = (t.st.set n c).length; rw [List.length_set]; exact r.len
  inj := r.inj
  out := r.out
  cell := fun m c' e => by
    have e' : (t.st.set n c)[m]? = some c' := e
    by_cases hm : m = n
    · subst hm
      have hl : m < t.st.length := by rw [← r.len]; exact as_len h
      rw [List.getElem?_set_self hl] at e'
      cases e'
      exact .inr ⟨a, h, ok⟩
    · rw [List.getElem?_set_ne (Ne.symm hm)] at e'
      rcases r.cell m c' e' with q | ⟨b, hb, ok'⟩
      · exact .inl q
      · have nb : b ≠ a := fun z => hm (r.inj m n a (by rw [← z]; exact hb) h)
        exact .inr ⟨b, hb, ok'.mono (step_wr r h) (by rw [upd_ne nb])⟩
  bon := r.bon
  box := fun b l e => by
    obtain ⟨h1, h2, h3, h4⟩ := r.box b l e
    have no := (r.out a (List.mem_of_getElem? h)).2
    exact ⟨h1, h2, h3, h4.mono (by rw [upd_ne (fun z => no ⟨b, l, e, .inr z.symm⟩)]) (by rw [upd_ne (fun z => no ⟨b, l, e, .inl z.symm⟩)])⟩

def Wd.cut (w : Wd) (n : Nat) : Wd := { w with as := w.as.set n none }
theorem cut_wr {w : Wd} {n : Nat} {a : Addr} (h : (w.cut n).wr a) : w.wr a := by
  rcases h with h | h
  · exact .inl h
  · have h' : some a ∈ w.as.set n none := h
    rcases List.mem_or_eq_of_mem_set h' with q | q
    · exact .inr q
    · cases q
theorem cut_at {w : Wd} {n m : Nat} {a : Addr} (h : (w.cut n).as[m]? = some (some a)) : w.as[m]? = some (some a) ∧ m ≠ n := by
  have h' : (w.as.set n none)[m]? = some (some a) := h
  by_cases hm : n = m
  · subst hm
    have hl := as_len h
    have hl' : n < (w.as.set n none).length := hl
    rw [List.length_set] at hl'
    rw [List.getElem?_set_self hl'] at h'
    cases h'
  · rw [List.getElem?_set_ne hm] at h'
    exact ⟨h', Ne.symm hm⟩
theorem step_cut (n : Nat) : Step w H (w.cut n) H where
  hid := rfl
  fz := fun b u e => by
    obtain ⟨h1, h2⟩ := Fz.of e
    refine Fz.to h1 fun z => ?_
    rcases z with z | z
    · exact h2 (.inl z)
    · exact h2 (.inr (cut_wr z))
  len := by show _ ≤ (w.as.set n none).length; rw [List.length_set]; exact Nat.le_refl _
  old := fun m a _ e => (cut_at e).1
  new := fun m a h e => absurd (as_len (cut_at e).1) (Nat.not_lt.mpr h)
  bx := fun _ h => h
  bnew := fun h b l e => by
    have e' : w.bx = some (b, l) := e
    rw [h] at e'; cases e'
  keep := fun _ _ e _ => e
  there := fun _ u e => ⟨u, e⟩
theorem RelT.cut (r : RelT K w t H) {n : Nat} {a : Addr} (h : w.as[n]? = some (some a)) : RelT K (w.cut n) { t with st := t.st.set n .dead } H ∧ ¬ (w.cut n).mut a := by
  refine ⟨⟨r.hidn, ?_, fun i j b h1 h2 => r.inj i j b (cut_at h1).1 (cut_at h2).1, fun b hb => ?_, fun m c' e => ?_, r.bon, r.box⟩, ?_⟩
  · show (w.as.set n none).length = (t.st.set n .dead).length
    rw [List.length_set, List.length_set]; exact r.len
  · obtain ⟨m, hm⟩ := List.getElem?_of_mem hb
    exact r.out b (List.mem_of_getElem? (cut_at hm).1)
  · have e' : (t.st.set n .dead)[m]? = some c' := e
    by_cases hm : n = m
    · subst hm
      have hl : n < t.st.length := by rw [← r.len]; exact as_len h
      rw [List.getElem?_set_self hl] at e'
      cases e'
      refine .inl ⟨rfl, ?_⟩
      show (w.as.set n none)[n]? = _
      rw [List.getElem?_set_self (as_len h)]
    · rw [List.getElem?_set_ne hm] at e'
      have ea : (w.cut n).as[m]? = w.as[m]? := by show (w.as.set n none)[m]? = _; rw [List.getElem?_set_ne hm]
      rcases r.cell m c' e' with ⟨q1, q2⟩ | ⟨b, hb, ok'⟩
      · exact .inl ⟨q1, by rw [ea]; exact q2⟩
      · exact .inr ⟨b, by rw [ea]; exact hb, ok'.mono (step_cut n) rfl⟩
  · have o := r.out a (List.mem_of_getElem? h)
    rintro (z | z | z)
    · exact o.1 z
    · exact o.2 z
    · obtain ⟨m, hm⟩ := List.getElem?_of_mem z
      obtain ⟨q1, q2⟩ := cut_at hm
      exact q2 (r.inj m n a q1 h)
end

def Val.data? : Val → Option D
  | .d x => some x
  | _ => none
def datas : List Val → Option (List D)
  | [] => some []
  | v :: r => match v, datas r with
    | .d x, some xs => some (x :: xs)
    | _, _ => none
theorem datas_rep {K : PySem.W.Frag} {w : Wd} {H : Hp} : ∀ {vs : List Val} {xs : List V} {ds : List D}, datas vs = some ds → RepVs K w H xs vs → Reps K (Fz w H) xs ds
  | [], _, _, e, .nil => by cases e; exact .nil
  | v :: r, _, _, e, .cons h hs => by
    unfold datas at e
    split at e
    · rename_i x ys eq
      cases e
      exact .cons h (datas_rep eq hs)
    · cases e
theorem reps_vals {K : PySem.W.Frag} {w : Wd} {H : Hp} : ∀ {xs : List V} {ds : List D}, Reps K (Fz w H) xs ds → RepVs K w H xs (ds.map Val.d)
  | _, _, .nil => .nil
  | _, _, .cons h hs => .cons h (reps_vals hs)
theorem Reps.length {K : PySem.W.Frag} {F : Hp} : ∀ {xs : List V} {ds : List D}, Reps K F xs ds → xs.length = ds.length
  | _, _, .nil => rfl
  | _, _, .cons _ hs => by simp [Reps.length hs]
theorem Reps.get {K : PySem.W.Frag} {F : Hp} : ∀ {xs : List V} {ds : List D} {i : Nat} {d : D}, Reps K F xs ds → ds[i]? = some d → ∃ x, xs[i]? = some x ∧ Rep K F x d
  | _, _, _, _, .nil, e => by simp at e
  | _, _, 0, _, .cons h _, e => by simp at e; subst e; exact ⟨_, rfl, h⟩
  | _, _, i + 1, _, .cons _ hs, e => by
    obtain ⟨x, e1, r⟩ := Reps.get (i := i) hs (by simpa using e)
    exact ⟨x, by simpa using e1, r⟩
theorem RepVs.get {K : PySem.W.Frag} {w : Wd} {H : Hp} : ∀ {xs : List V} {ds : List Val} {i : Nat} {d : Val}, RepVs K w H xs ds → ds[i]? = some d → ∃ x, xs[i]? = some x ∧ RepV K w H x d
  | _, _, _, _, .nil, e => by simp at e
  | _, _, 0, _, .cons h _, e => by simp at e; subst e; exact ⟨_, rfl, h⟩
  | _, _, i + 1, _, .cons _ hs, e => by
    obtain ⟨x, e1, r⟩ := RepVs.get (i := i) hs (by simpa using e)
    exact ⟨x, by simpa using e1, r⟩
def lim : Nat := 100000
theorem lim_ok {n : Nat} (h : n ≤ lim) : n ≤ sizeLine := Nat.le_trans h (by decide)
theorem lim_lt {n : Nat} (h : n < lim) : n < sizeLine := Nat.lt_of_lt_of_le h (by decide)
end En
set_option Elab.async false
set_option linter.all false
set_option maxRecDepth 100000
set_option maxHeartbeats 1000000
set_option autoImplicit false
namespace En
open PySem PySem.Spec PyProof.Rows L2

def asList (v : Val) (t : T) : Option (List Val) := match v with
  | .d (.lst xs) => some (xs.map Val.d)
  | .loc n => match t.st[n]? with
    | some (.lst vs) => some vs
    | _ => none
  | _ => none
def asTup : Val → Option (List D)
  | .d (.tup xs) => some xs
  | _ => none
def asSeq (v : Val) (t : T) : Option (List Val) := match asTup v with
  | some xs => some (xs.map Val.d)
  | none => asList v t
section
variable {K : PySem.W.Frag} {w : Wd} {t : T} {H : Hp} {x : V} {v : Val}
theorem asList_rep (r : RelT K w t H) (rx : RepV K w H x v) {vs : List Val} (e : asList v t = some vs) : ∃ a xs, x = .ref a ∧ H a = some (.lst xs) ∧ RepVs K w H xs vs := by
  cases v with
  | box => cases e
  | d d =>
    cases d with
    | lst ds =>
      cases e
      have rx' : Rep K (Fz w H) x (.lst ds) := rx
      cases rx' with
      | lst h hs => exact ⟨_, _, rfl, (Fz.of h).1, reps_vals hs⟩
    | _ => cases e
  | loc n =>
    unfold asList at e
    dsimp only at e
    split at e
    · rename_i vs' en
      cases e
      rcases rx with rx | ⟨a, ha, rfl⟩
      · rcases r.cell n _ en with ⟨z, _⟩ | ⟨b, hb, _⟩
        · cases z
        · rw [rx] at hb; cases hb
      · obtain ⟨c, ec, ok⟩ := r.live ha
        rw [en] at ec
        cases ec
        obtain ⟨xs, h1, h2⟩ := ok
        exact ⟨a, xs, rfl, h1, h2⟩
    · cases e
theorem asTup_rep (rx : RepV K w H x v) {ds : List D} (e : asTup v = some ds) : ∃ a xs, x = .ref a ∧ SqT K H a xs ∧ Reps K (Fz w H) xs ds := by
  cases v with
  | d d =>
    cases d with
    | tup ds' =>
      cases e
      have rx' : Rep K (Fz w H) x (.tup ds) := rx
      cases rx' with
      | tup h hs => exact ⟨_, _, rfl, Fz.ex.sqT h, hs⟩
    | _ => cases e
  | _ => cases e
theorem asSeq_rep (r : RelT K w t H) (rx : RepV K w H x v) {vs : List Val} (e : asSeq v t = some vs) : ∃ a xs, x = .ref a ∧ (SqL K H a xs ∨ SqT K H a xs) ∧ RepVs K w H xs vs := by
  unfold asSeq at e
  split at e
  · rename_i ds ed
    cases e
    obtain ⟨a, xs, e1, h, hs⟩ := asTup_rep rx ed
    exact ⟨a, xs, e1, .inr h, reps_vals hs⟩
  · obtain ⟨a, xs, e1, h, hs⟩ := asList_rep r rx e
    exact ⟨a, xs, e1, .inl (SqL.of h), hs⟩
end

section
variable {K : PySem.W.Frag} {W : WX} {w : Wd} {t : T} {H : Hp} {σ : L2.St}
theorem new_tup {Q : VK} {ds : List D} {xs : List V} (r : RelT K w t H) (hs : Reps K (Fz w H) xs ds) (p : PostE K W σ w H (fun w' H' v => ∀ z, RepV K w' H' z v → Q z H') (.ok (.d (.tup ds)) t)) :
    ∀ a, H a = none → Q (.ref a) (upd H a (.tup xs)) := fun a ha => p w _ (step_new r ha) (r.new ha) _ (Rep.tup (SqT.of (Fz.new r ha)) (hs.mono (step_new r ha).fz))
theorem new_lst {Q : VK} {ds : List D} {xs : List V} (r : RelT K w t H) (hs : Reps K (Fz w H) xs ds) (p : PostE K W σ w H (fun w' H' v => ∀ z, RepV K w' H' z v → Q z H') (.ok (.d (.lst ds)) t)) :
    ∀ a, H a = none → Q (.ref a) (upd H a (.lst xs)) := fun a ha => p w _ (step_new r ha) (r.new ha) _ (Rep.lst (Fz.new r ha) (hs.mono (step_new r ha).fz))
end

mutual
def toPy : D → Option PyData
  | .non => some .none
  | .bl b => some (.bool b)
  | .int i => some (.int i)
  | .str x => some (.str x)
  | .tup xs => match toPys xs with
    | some ys => some (.tuple ys)
    | none => none
  | .lst xs => match toPys xs with
    | some ys => some (.list ys)
    | none => none
  | _ => none
def toPys : List D → Option (List PyData)
  | [] => some []
  | x :: xs => match toPy x, toPys xs with
    | some y, some ys => some (y :: ys)
    | _, _ => none
end
mutual
theorem toPy_dp {K : PySem.W.Frag} {F H : Hp} (e : Ex F H) : ∀ {d : D} {x : V} {y : PyData}, toPy d = some y → Rep K F x d → Dp K H x y
  | .non, _, _, h, .non => by simp only [toPy] at h; cases h; exact .non
  | .bl b, _, _, h, .bl _ => by simp only [toPy] at h; cases h; exact .bl b
  | .int b, _, _, h, .int _ => by simp only [toPy] at h; cases h; exact .int b
  | .str b, _, _, h, .str _ => by simp only [toPy] at h; cases h; exact .str b
  | .tup xs, _, _, h, .tup hq hs => by
    simp only [toPy] at h
    split at h
    · rename_i ys ey
      cases h
      exact .tup (e.sqT hq) (toPys_dp e ey hs)
    · cases h
  | .lst xs, _, _, h, .lst hq hs => by
    simp only [toPy] at h
    split at h
    · rename_i ys ey
      cases h
      exact .lst (SqL.of (e _ _ hq)) (toPys_dp e ey hs)
    · cases h
  | .ins _ _, _, _, h, _ => by simp only [toPy] at h; cases h
  | .dK _, _, _, h, _ => by simp only [toPy] at h; cases h
  | .dT _, _, _, h, _ => by simp only [toPy] at h; cases h
  | .scr _, _, _, h, _ => by simp only [toPy] at h; cases h
theorem toPys_dp {K : PySem.W.Frag} {F H : Hp} (e : Ex F H) : ∀ {d : List D} {x : List V} {y : List PyData}, toPys d = some y → Reps K F x d → DpAll K H x y
  | [], _, _, h, .nil => by simp only [toPys] at h; cases h; exact .nil
  | d :: ds, _, _, h, .cons hr hs => by
    simp only [toPys] at h
    split at h
    · rename_i y ys ey eys
      cases h
      exact .cons (toPy_dp e ey hr) (toPys_dp e eys hs)
    · cases h
end
def Val.dat (v : Val) (t : T) : Option D := match v with
  | .d x => some x
  | .loc n => match t.st[n]? with
    | some (.lst vs) => (datas vs).map D.lst
    | _ => none
  | .box => none
def valPy (v : Val) (t : T) : Option PyData := match v.dat t with
  | some d => match toPy d with
    | some y => if SeqAt.shaped y then some y else none
    | none => none
  | none => none
theorem valPy_dp {K : PySem.W.Frag} {w : Wd} {t : T} {H : Hp} {x : V} {v : Val} {y : PyData} (r : RelT K w t H) (rx : RepV K w H x v) (e : valPy v t = some y) : Dp K H x y ∧ SeqAt.shaped y = true := by
  unfold valPy at e
  split at e
  · rename_i d ed
    split at e
    · rename_i z ez
      split at e
      · rename_i hs
        cases e
        refine ⟨?_, hs⟩
        cases v with
        | d d' =>
          cases ed
          exact toPy_dp Fz.ex ez rx
        | box => cases ed
        | loc n =>
          unfold Val.dat at ed
          dsimp only at ed
          split at ed
          · rename_i vs en
            obtain ⟨ds, eds, ed2⟩ := Option.map_eq_some_iff.mp ed
            subst ed2
            obtain ⟨a, xs, e1, h1, h2⟩ := asList_rep (v := .loc n) (vs := vs) r rx (by unfold asList; dsimp only; rw [en])
            subst e1
            simp only [toPy] at ez
            split at ez
            · rename_i ys ey
              cases ez
              exact .lst (SqL.of h1) (toPys_dp Fz.ex ey (datas_rep eds h2))
            · cases ez
          · cases ed
      · cases e
    · cases e
  · cases e

def retB (b : Bool) (t : T) : R Val := .ok (.d (.bl b)) t
def retI (i : Int) (t : T) : R Val := .ok (.d (.int i)) t
def retS (x : Str) (t : T) : R Val := if x.length ≤ lim then .ok (.d (.str x)) t else .stuck
def fAdd (a b : Val) (t : T) : R Val := match a, b with
  | .d (.int i), .d (.int j) => retI (i + j) t
  | .d (.str x), .d (.str y) => if x.length + y.length ≤ lim then .ok (.d (.str (x ++ y))) t else .stuck
  | .d (.tup xs), .d (.tup ys) => if xs.length + ys.length ≤ lim then .ok (.d (.tup (xs ++ ys))) t else .stuck
  | a, b => match asList a t, asList b t with
    | some xs, some ys => if xs.length + ys.length ≤ lim then match datas (xs ++ ys) with
      | some ds => .ok (.d (.lst ds)) t
      | none => .stuck
      else .stuck
    | _, _ => .stuck
theorem Reps.app {K : PySem.W.Frag} {F : Hp} : ∀ {xs ys : List V} {ds es : List D}, Reps K F xs ds → Reps K F ys es → Reps K F (xs ++ ys) (ds ++ es)
  | _, _, _, _, .nil, h => h
  | _, _, _, _, .cons h hs, k => .cons h (Reps.app hs k)
theorem RepVs.app {K : PySem.W.Frag} {w : Wd} {H : Hp} : ∀ {xs ys : List V} {ds es : List Val}, RepVs K w H xs ds → RepVs K w H ys es → RepVs K w H (xs ++ ys) (ds ++ es)
  | _, _, _, _, .nil, h => h
  | _, _, _, _, .cons h hs, k => .cons h (RepVs.app hs k)
def rAddAll (K : PySem.W.Frag) : R2 := fun x y H Q => rI0 (fun i j => .int (i + j)) x y H Q ∨ (∃ i j, x = .str i ∧ y = .str j ∧ i.length + j.length ≤ sizeLine ∧ Q (.str (i ++ j)) H) ∨ rCatA K x y H Q ∨ rCat x y H Q
theorem op_addAll {X : Cx} : OpR X (binaryOp .Add) (rAddAll X.K) := op_add.or (op_add_str.or (op_catA.or op_cat))
theorem s_add {K : PySem.W.Frag} {W : WX} : OpS K W (rAddAll K) fAdd := by
  intro w t σ H x y a b Q r rx ry p
  unfold fAdd at p
  split at p
  · cases rx; cases ry
    exact .inl ⟨_, _, rfl, rfl, p.here r _ (Rep.int _)⟩
  · cases rx; cases ry
    split at p
    · rename_i hl
      exact .inr (.inl ⟨_, _, rfl, rfl, lim_ok hl, p.here r _ (Rep.str _)⟩)
    · exact p.elim
  · rename_i xs ys
    split at p
    · rename_i hl
      obtain ⟨a1, us, rfl, h1, hs1⟩ := asTup_rep (v := .d (.tup xs)) rx rfl
      obtain ⟨a2, us2, rfl, h2, hs2⟩ := asTup_rep (v := .d (.tup ys)) ry rfl
      refine .inr (.inr (.inl ⟨a1, a2, us, us2, rfl, rfl, h1, h2, ?_, fun e => ?_, fun _ e => ?_, fun _ _ => new_tup r (hs1.app hs2) p⟩))
      · rw [hs1.length, hs2.length]; exact lim_ok hl
      · subst e
        cases hs1
        exact p.here r _ ry
      · subst e
        cases hs2
        rw [List.append_nil] at p
        exact p.here r _ rx
    · exact p.elim
  · split at p
    · rename_i xs ys e1 e2
      split at p
      · rename_i hl
        split at p
        · rename_i ds ed
          obtain ⟨a1, us, rfl, h1, hs1⟩ := asList_rep r rx e1
          obtain ⟨a2, us2, rfl, h2, hs2⟩ := asList_rep r ry e2
          exact .inr (.inr (.inr ⟨a1, a2, us, us2, rfl, rfl, h1, h2, by rw [hs1.length, hs2.length]; exact lim_ok hl, new_lst r (datas_rep ed (hs1.app hs2)) p⟩))
        · exact p.elim
      · exact p.elim
    · exact p.elim
def fInt2 (g : Int → Int → Int) (c : Int → Int → Bool) (a b : Val) (t : T) : R Val := match a, b with
  | .d (.int i), .d (.int j) => if c i j then retI (g i j) t else .stuck
  | _, _ => .stuck
theorem s_int2 {K : PySem.W.Frag} {W : WX} {g : Int → Int → Int} {c : Int → Int → Bool} {C : Int → Int → Prop} (hc : ∀ i j, c i j = true → C i j) : OpS K W (rI C fun i j => .int (g i j)) (fInt2 g c) := by
  intro w t σ H x y a b Q r rx ry p
  unfold fInt2 at p
  split at p
  · cases rx; cases ry
    split at p
    · rename_i h
      exact ⟨_, _, rfl, rfl, hc _ _ h, p.here r _ (Rep.int _)⟩
    · exact p.elim
  · exact p.elim
def fSub := fInt2 (fun i j => i - j) fun _ _ => true
theorem op_subC {X : Cx} : OpR X (binaryOp .Sub) (rI (fun _ _ => True) fun i j => .int (i - j)) := fun pins s σ H x y v u Q I rx ry ⟨i, j, a, b, _, q⟩ => op_sub pins s σ H x y v u Q I rx ry ⟨i, j, a, b, q⟩
theorem s_sub {K : PySem.W.Frag} {W : WX} : OpS K W (rI (fun _ _ => True) fun i j => .int (i - j)) fSub := s_int2 fun _ _ _ => trivial
def cDiv (i j : Int) : Bool := decide (0 < j) && decide (j < 1073741824)
def fDiv := fInt2 (fun i j => i / j) cDiv
theorem s_div {K : PySem.W.Frag} {W : WX} : OpS K W (rI CDiv fun i j => .int (i / j)) fDiv := s_int2 fun i j h => by
  unfold cDiv at h
  obtain ⟨h1, h2⟩ := Bool.and_eq_true_iff.mp h
  exact ⟨of_decide_eq_true h1, of_decide_eq_true h2⟩
def fMod := fInt2 (fun i j => i % j) fun _ j => decide (0 < j)
theorem s_mod {K : PySem.W.Frag} {W : WX} : OpS K W (rI (fun _ j => 0 < j) fun i j => .int (i % j)) fMod := s_int2 fun i j h => of_decide_eq_true h
def cMul (i j : Int) : Bool := (decide (-(2 ^ 64) < i) && decide (i < 2 ^ 64)) || (decide (-(2 ^ 64) < j) && decide (j < 2 ^ 64))
def cMulOk {i j : Int} (h : cMul i j = true) : CMul i j := by
  unfold cMul at h
  simp only [Bool.or_eq_true, Bool.and_eq_true, decide_eq_true_eq] at h
  exact h
def strRep (x : Str) (k : Int) : Str := ⟨(List.replicate k.toNat x.cps.toList).flatten.toArray⟩
def fNeg (a : Val) (t : T) : R Val := match a with
  | .d (.int i) => retI (-i) t
  | _ => .stuck
theorem je_neg {X : Cx} {W : WX} {a : Expr} {ma : ME Val} {pos : Pos} (ha : JE X W a ma) : JE X W (.UnaryOp .USub a pos) (m1 fNeg ma) :=
  PE.imp (pe_un un_neg ha) fun σ H Q ⟨w, ρ, t, rt, rr, p⟩ => by
    refine ⟨w, ρ, t, rt, rr, PostE.imp (PostE.bind p) fun w1 H1 v t1 e1 s1 r1 q1 x rx => ?_⟩
    have q := q1 t1 e1 r1
    unfold fNeg at q
    split at q
    · cases rx
      exact ⟨_, rfl, q.here r1 _ (Rep.int _)⟩
    · exact q.elim
def fCmp (g : Int → Int → Bool) (a b : Val) (t : T) : R Val := match a, b with
  | .d (.int i), .d (.int j) => retB (g i j) t
  | _, _ => .stuck
theorem s_cmp {K : PySem.W.Frag} {W : WX} {g : Int → Int → Bool} : OpS K W (rI0 fun i j => .bl (g i j)) (fCmp g) := by
  intro w t σ H x y a b Q r rx ry p
  unfold fCmp at p
  split at p
  · cases rx; cases ry
    exact ⟨_, _, rfl, rfl, p.here r _ (Rep.bl _)⟩
  · exact p.elim
def fLt := fCmp fun i j => decide (i < j)
def fLe := fCmp fun i j => decide (i ≤ j)
def fGt := fCmp fun i j => decide (j < i)
def fGe := fCmp fun i j => decide (j ≤ i)
def fEq (a b : Val) (t : T) : R Val := match valPy a t, valPy b t with
  | some x, some y => retB (PyData.eqv x y) t
  | _, _ => .stuck
def fNe (a b : Val) (t : T) : R Val := match valPy a t, valPy b t with
  | some x, some y => retB (!PyData.eqv x y) t
  | _, _ => .stuck
theorem s_eq {K : PySem.W.Frag} {W : WX} : OpS K W (rEqD K) fEq := by
  intro w t σ H x y a b Q r rx ry p
  unfold fEq at p
  split at p
  · rename_i d e e1 e2
    obtain ⟨h1, h2⟩ := valPy_dp r rx e1
    obtain ⟨h3, h4⟩ := valPy_dp r ry e2
    exact ⟨d, e, h1, h3, h2, h4, p.here r _ (Rep.bl _)⟩
  · exact p.elim
theorem s_ne {K : PySem.W.Frag} {W : WX} : OpS K W (rNeD K) fNe := by
  intro w t σ H x y a b Q r rx ry p
  unfold fNe at p
  split at p
  · rename_i d e e1 e2
    obtain ⟨h1, h2⟩ := valPy_dp r rx e1
    obtain ⟨h3, h4⟩ := valPy_dp r ry e2
    exact ⟨d, e, h1, h3, h2, h4, p.here r _ (Rep.bl _)⟩
  · exact p.elim
def isN : Val → Option Bool
  | .d .non => some true
  | .d (.ins _ _) => some false
  | .d _ => some false
  | _ => none
def fIsN (a b : Val) (t : T) : R Val := match isN a, b with
  | some k, .d .non => retB k t
  | _, _ => .stuck
def fNotN (a b : Val) (t : T) : R Val := match isN a, b with
  | some k, .d .non => retB (!k) t
  | _, _ => .stuck
theorem isN_ok {K : PySem.W.Frag} {w : Wd} {H : Hp} {x : V} {v : Val} {k : Bool} (rx : RepV K w H x v) (e : isN v = some k) : decide (x = V.non) = k := by
  cases v with
  | box => cases e
  | loc n => cases e
  | d d =>
    have rx' : Rep K (Fz w H) x d := rx
    cases rx' <;> (cases e; first | rfl | exact decide_eq_false (fun z => nomatch z))
def rIsN : R2 := fun x y H Q => y = .non ∧ Q (.bl (decide (x = .non))) H
def rNotN : R2 := fun x y H Q => y = .non ∧ Q (.bl (!decide (x = .non))) H
theorem s_isN {K : PySem.W.Frag} {W : WX} : OpS K W rIsN fIsN := by
  intro w t σ H x y a b Q r rx ry p
  unfold fIsN at p
  split at p
  · rename_i k ek
    cases ry
    exact ⟨rfl, by rw [isN_ok rx ek]; exact p.here r _ (Rep.bl _)⟩
  · exact p.elim
theorem s_notN {K : PySem.W.Frag} {W : WX} : OpS K W rNotN fNotN := by
  intro w t σ H x y a b Q r rx ry p
  unfold fNotN at p
  split at p
  · rename_i k ek
    cases ry
    exact ⟨rfl, by rw [isN_ok rx ek]; exact p.here r _ (Rep.bl _)⟩
  · exact p.elim
end En
set_option Elab.async false
set_option linter.all false
set_option maxRecDepth 100000
set_option maxHeartbeats 1000000
set_option autoImplicit false
namespace En
open PySem PySem.Spec PyProof.Rows L2

def strIn (x y : Str) : Bool := match x.cps.toList with
  | [c] => decide (c ∈ y.cps.toList)
  | _ => !(Builtin.Str.occurrences y x 0 y.length 1).isEmpty
def inB (a b : Val) (t : T) : Option Bool := match a, b with
  | .d (.str x), .d (.str y) => some (strIn x y)
  | a, b => match valPy a t, valPy b t with
    | some d, some (.list ds) => some (ds.any fun z => PyData.eqv z d)
    | some d, some (.tuple ds) => some (ds.any fun z => PyData.eqv z d)
    | _, _ => none
def rInT (K : PySem.W.Frag) : R2 := fun x y H Q => ∃ d ds, Dp K H x d ∧ Dp K H y (.tuple ds) ∧ SeqAt.shaped d = true ∧ SeqAt.shaped (.tuple ds) = true ∧ Q (.bl (ds.any fun z => PyData.eqv z d)) H
def rNotInT (K : PySem.W.Frag) : R2 := fun x y H Q => ∃ d ds, Dp K H x d ∧ Dp K H y (.tuple ds) ∧ SeqAt.shaped d = true ∧ SeqAt.shaped (.tuple ds) = true ∧ Q (.bl (!ds.any fun z => PyData.eqv z d)) H
theorem op_inT {X : Cx} (hu : X.A.units + 65 < cLine) : OpR X (compareOp .In) (rInT X.K) := by
  intro pins s σ H x y v u Q I rx ry h
  obtain ⟨d, ds, hd, he, sd, se, q⟩ := h
  obtain ⟨as, r1⟩ := Dp.reads I d x v hd rx
  obtain ⟨bs, r2⟩ := Dp.reads I (.tuple ds) y u he ry
  exact SeqAt.in_tuple_reads r2 r1 (SeqAt.canLay_of_shaped se) (SeqAt.canLay_of_shaped sd) (room_in_shaped sd hu) ⟨.bl _, H, I, rfl, q⟩
theorem op_notInT {X : Cx} (hu : X.A.units + 65 < cLine) : OpR X (compareOp .NotIn) (rNotInT X.K) := by
  intro pins s σ H x y v u Q I rx ry h
  obtain ⟨d, ds, hd, he, sd, se, q⟩ := h
  obtain ⟨as, r1⟩ := Dp.reads I d x v hd rx
  obtain ⟨bs, r2⟩ := Dp.reads I (.tuple ds) y u he ry
  exact SeqAt.notIn_tuple_reads r2 r1 (SeqAt.canLay_of_shaped se) (SeqAt.canLay_of_shaped sd) (room_in_shaped sd hu) ⟨.bl _, H, I, rfl, q⟩
def rInS1 : R2 := fun x y H Q => ∃ (c : Nat) (z : Str), x = .str ⟨#[c]⟩ ∧ y = .str z ∧ Q (.bl (decide (c ∈ z.cps.toList))) H
def rInS2 : R2 := fun x y H Q => ∃ i j, x = .str i ∧ y = .str j ∧ Q (.bl (!(Builtin.Str.occurrences j i 0 j.length 1).isEmpty)) H
def rNotInS1 : R2 := fun x y H Q => ∃ (c : Nat) (z : Str), x = .str ⟨#[c]⟩ ∧ y = .str z ∧ Q (.bl (!decide (c ∈ z.cps.toList))) H
def rNotInS2 : R2 := fun x y H Q => ∃ i j, x = .str i ∧ y = .str j ∧ Q (.bl (!(!(Builtin.Str.occurrences j i 0 j.length 1).isEmpty))) H
def rInAll (K : PySem.W.Frag) : R2 := fun x y H Q => rInS1 x y H Q ∨ rInS2 x y H Q ∨ rInD K x y H Q ∨ rInT K x y H Q
def rNotInAll (K : PySem.W.Frag) : R2 := fun x y H Q => rNotInS1 x y H Q ∨ rNotInS2 x y H Q ∨ rNotInD K x y H Q ∨ rNotInT K x y H Q
theorem op_inAll {X : Cx} (hu : X.A.units + 65 < cLine) : OpR X (compareOp .In) (rInAll X.K) := OpR.or op_in_sign (OpR.or op_in_str ((op_inD hu).or (op_inT hu)))
theorem op_notInAll {X : Cx} (hu : X.A.units + 65 < cLine) : OpR X (compareOp .NotIn) (rNotInAll X.K) := OpR.or op_notIn_sign (OpR.or op_notIn_str ((op_notInD hu).or (op_notInT hu)))
def fIn (a b : Val) (t : T) : R Val := match inB a b t with
  | some k => retB k t
  | none => .stuck
def fNotIn (a b : Val) (t : T) : R Val := match inB a b t with
  | some k => retB (!k) t
  | none => .stuck
theorem str1 {x : Str} {c : Nat} (h : x.cps.toList = [c]) : x = ⟨#[c]⟩ := by
  obtain ⟨⟨l⟩⟩ := x
  have h' : l = [c] := h
  subst h'
  rfl
theorem inB_ok {K : PySem.W.Frag} {w : Wd} {t : T} {H : Hp} {x y : V} {a b : Val} {k : Bool} (r : RelT K w t H) (rx : RepV K w H x a) (ry : RepV K w H y b) (e : inB a b t = some k) :
    (∀ Q : VK, Q (.bl k) H → rInAll K x y H Q) ∧ ∀ Q : VK, Q (.bl (!k)) H → rNotInAll K x y H Q := by
  unfold inB at e
  split at e
  · cases rx; cases ry
    have ek := Option.some.inj e
    unfold strIn at ek
    split at ek
    · rename_i c ec
      rw [str1 ec] at *
      exact ⟨fun Q q => .inl ⟨c, _, rfl, rfl, by rw [ek]; exact q⟩, fun Q q => .inl ⟨c, _, rfl, rfl, by rw [ek]; exact q⟩⟩
    · exact ⟨fun Q q => .inr (.inl ⟨_, _, rfl, rfl, by rw [ek]; exact q⟩), fun Q q => .inr (.inl ⟨_, _, rfl, rfl, by rw [ek]; exact q⟩)⟩
  · split at e
    · rename_i d ds e1 e2
      cases e
      obtain ⟨h1, h2⟩ := valPy_dp r rx e1
      obtain ⟨h3, h4⟩ := valPy_dp r ry e2
      exact ⟨fun Q q => .inr (.inr (.inl ⟨d, ds, h1, h3, h2, h4, q⟩)), fun Q q => .inr (.inr (.inl ⟨d, ds, h1, h3, h2, h4, q⟩))⟩
    · rename_i d ds e1 e2
      cases e
      obtain ⟨h1, h2⟩ := valPy_dp r rx e1
      obtain ⟨h3, h4⟩ := valPy_dp r ry e2
      exact ⟨fun Q q => .inr (.inr (.inr ⟨d, ds, h1, h3, h2, h4, q⟩)), fun Q q => .inr (.inr (.inr ⟨d, ds, h1, h3, h2, h4, q⟩))⟩
    · cases e
theorem s_in {K : PySem.W.Frag} {W : WX} : OpS K W (rInAll K) fIn := by
  intro w t σ H x y a b Q r rx ry p
  unfold fIn at p
  split at p
  · rename_i k ek
    exact (inB_ok r rx ry ek).1 Q (p.here r _ (Rep.bl _))
  · exact p.elim
theorem s_notIn {K : PySem.W.Frag} {W : WX} : OpS K W (rNotInAll K) fNotIn := by
  intro w t σ H x y a b Q r rx ry p
  unfold fNotIn at p
  split at p
  · rename_i k ek
    exact (inB_ok r rx ry ek).2 Q (p.here r _ (Rep.bl _))
  · exact p.elim

def fIx (a b : Val) (t : T) : R Val := match b with
  | .d (.int i) => (match a with
    | .d (.str x) => if x.length ≤ lim then match atI x.cps.toList i with
      | some c => .ok (.d (.str ⟨#[c]⟩)) t
      | none => .stuck
      else .stuck
    | a => match asSeq a t with
      | some vs => match atI vs i with
        | some v => .ok v t
        | none => .stuck
      | none => .stuck)
  | _ => .stuck
theorem atI_rep {K : PySem.W.Frag} {w : Wd} {H : Hp} {xs : List V} {vs : List Val} {i : Int} {v : Val} (h : RepVs K w H xs vs) (e : atI vs i = some v) : ∃ x, atI xs i = some x ∧ RepV K w H x v := by
  unfold atI at e ⊢
  rw [h.length]
  cases q : ixN vs.length i with
  | none => rw [q] at e; cases e
  | some j =>
    rw [q] at e
    exact h.get e
theorem s_ix {K : PySem.W.Frag} {W : WX} : OpS K W (rIx K) fIx := by
  intro w t σ H x y a b Q r rx ry p
  unfold fIx at p
  split at p
  · rename_i i
    cases ry
    split at p
    · rename_i s
      cases rx
      split at p
      · rename_i hl
        split at p
        · rename_i c ec
          exact .inr (.inr ⟨_, _, c, rfl, rfl, lim_ok hl, ec, p.here r _ (Rep.str _)⟩)
        · exact p.elim
      · exact p.elim
    · split at p
      · rename_i vs evs
        split at p
        · rename_i v ev
          obtain ⟨a1, xs, rfl, hq, hs⟩ := asSeq_rep r rx evs
          obtain ⟨z, ez, rz⟩ := atI_rep hs ev
          rcases hq with hq | hq
          · exact .inl ⟨a1, xs, i, z, rfl, rfl, hq, ez, p.here r _ rz⟩
          · exact .inr (.inl ⟨a1, xs, i, z, rfl, rfl, hq, ez, p.here r _ rz⟩)
        · exact p.elim
      · exact p.elim
  · exact p.elim
theorem je_ix {X : Cx} {W : WX} {a b : Expr} {ma mb : ME Val} {pos : Pos} (ha : JE X W a ma) (hb : JE X W b mb) (hs : PlainIx b := by exact fun _ _ => rfl) : JE X W (.Subscript a b pos) (m2 fIx ma mb) := PE.imp (pe_ix ix_seq ha hb hs) (sim2 s_ix)

def tMO (K : PySem.W.Frag) (W : WX) (m : ME (Option Int)) : TO := fun σ H Q => ∃ w ρ t, RelT K w t H ∧ RelR K w ρ σ H ∧ PostE K W σ w H (fun w' H' o => Q o H') (m ρ t)
def JO (X : Cx) (W : WX) (e : Option Expr) (m : ME (Option Int)) : Prop := PO X e (tMO X.K W m)
def mNoPart : ME (Option Int) := fun _ t => .ok none t
def asPart (v : Val) (t : T) : R (Option Int) := match v with
  | .d (.int i) => .ok (some i) t
  | _ => .stuck
theorem PO.imp {X : Cx} {e : Option Expr} {t t' : TO} (h : PO X e t) (k : ∀ σ H Q, t' σ H Q → t σ H Q) : PO X e t' := ⟨fun pins s σ H Q I q => h.run pins s σ H Q I (k σ H Q q)⟩
theorem jo_none {X : Cx} {W : WX} : JO X W none mNoPart := PO.imp po_none fun σ H Q ⟨w, ρ, t, rt, rr, p⟩ => p.here rt
theorem jo_some {X : Cx} {W : WX} {e : Expr} {m : ME Val} (h : JE X W e m) : JO X W (some e) (m1 asPart m) := PO.imp (po_some h) fun σ H Q ⟨w, ρ, t, rt, rr, p⟩ => by
  refine ⟨w, ρ, t, rt, rr, PostE.imp (PostE.bind p) fun w1 H1 v t1 e1 s1 r1 q1 x rx => ?_⟩
  have q := q1 t1 e1 r1
  unfold asPart at q
  split at q
  · cases rx
    exact ⟨_, rfl, q.here r1⟩
  · exact q.elim
def cut {α : Type} (xs : List α) (lo hi : Option Int) : List α := (xs.drop (HT.sIx xs.length 0 lo)).take (HT.sIx xs.length xs.length hi - HT.sIx xs.length 0 lo)
def cutStr (z : Str) (lo hi : Option Int) : Str := cutS z lo hi
def fSl (a : Val) (lo hi : Option Int) (t : T) : R Val := match a with
  | .d (.str x) => if x.length ≤ lim then .ok (.d (.str (cutS x lo hi))) t else .stuck
  | .d (.tup xs) => .ok (.d (.tup (cut xs lo hi))) t
  | a => match asList a t with
    | some vs => match datas (cut vs lo hi) with
      | some ds => .ok (.d (.lst ds)) t
      | none => .stuck
    | none => .stuck
theorem Reps.drop {K : PySem.W.Frag} {F : Hp} : ∀ {xs : List V} {ds : List D} (n : Nat), Reps K F xs ds → Reps K F (xs.drop n) (ds.drop n)
  | _, _, 0, h => h
  | _, _, _ + 1, .nil => .nil
  | _, _, n + 1, .cons _ hs => Reps.drop n hs
theorem Reps.take {K : PySem.W.Frag} {F : Hp} : ∀ {xs : List V} {ds : List D} (n : Nat), Reps K F xs ds → Reps K F (xs.take n) (ds.take n)
  | _, _, 0, _ => .nil
  | _, _, _ + 1, .nil => .nil
  | _, _, n + 1, .cons h hs => .cons h (Reps.take n hs)
theorem RepVs.drop {K : PySem.W.Frag} {w : Wd} {H : Hp} : ∀ {xs : List V} {ds : List Val} (n : Nat), RepVs K w H xs ds → RepVs K w H (xs.drop n) (ds.drop n)
  | _, _, 0, h => h
  | _, _, _ + 1, .nil => .nil
  | _, _, n + 1, .cons _ hs => RepVs.drop n hs
theorem RepVs.take {K : PySem.W.Frag} {w : Wd} {H : Hp} : ∀ {xs : List V} {ds : List Val} (n : Nat), RepVs K w H xs ds → RepVs K w H (xs.take n) (ds.take n)
  | _, _, 0, _ => .nil
  | _, _, _ + 1, .nil => .nil
  | _, _, n + 1, .cons h hs => .cons h (RepVs.take n hs)
theorem Reps.cut {K : PySem.W.Frag} {F : Hp} {xs : List V} {ds : List D} {lo hi : Option Int} (h : Reps K F xs ds) : Reps K F (cutV xs lo hi) (En.cut ds lo hi) := by
  unfold cutV En.cut
  rw [h.length]
  exact (h.drop _).take _
theorem RepVs.cut {K : PySem.W.Frag} {w : Wd} {H : Hp} {xs : List V} {ds : List Val} {lo hi : Option Int} (h : RepVs K w H xs ds) : RepVs K w H (cutV xs lo hi) (En.cut ds lo hi) := by
  unfold cutV En.cut
  rw [h.length]
  exact (h.drop _).take _
def rSlAll (K : PySem.W.Frag) : V → Option Int → Option Int → Hp → VK → Prop := fun x lo hi H Q => rSlS x lo hi H Q ∨ rSlA K x lo hi H Q ∨ rSlL K x lo hi H Q
theorem sl_all {X : Cx} : SlR X (rSlAll X.K) := sl_str.or (sl_tupA.or sl_list)
theorem s_sl {K : PySem.W.Frag} {W : WX} {w : Wd} {t : T} {σ : L2.St} {H : Hp} {x : V} {a : Val} {lo hi : Option Int} {Q : VK} (r : RelT K w t H) (rx : RepV K w H x a) (p : PostE K W σ w H (fun w' H' v => ∀ z, RepV K w' H' z v → Q z H') (fSl a lo hi t)) : rSlAll K x lo hi H Q := by
  unfold fSl at p
  split at p
  · cases rx
    split at p
    · rename_i hl
      exact .inl ⟨_, rfl, lim_ok hl, p.here r _ (Rep.str _)⟩
    · exact p.elim
  · rename_i xs
    obtain ⟨a1, us, rfl, h1, hs1⟩ := asTup_rep (v := .d (.tup xs)) rx rfl
    refine .inr (.inl ⟨a1, us, rfl, h1, fun ⟨e1, e2⟩ => ?_, fun _ => new_tup r hs1.cut p⟩)
    have ec : En.cut xs lo hi = xs := by
      unfold En.cut
      rw [hs1.length] at e1 e2
      rw [e1, e2]
      simp
    rw [ec] at p
    exact p.here r _ rx
  · split at p
    · rename_i vs e1
      split at p
      · rename_i ds ed
        obtain ⟨a1, us, rfl, h1, hs1⟩ := asList_rep r rx e1
        exact .inr (.inr ⟨a1, us, rfl, SqL.of h1, new_lst r (datas_rep ed hs1.cut) p⟩)
      · exact p.elim
    · exact p.elim
def mSl (ma : ME Val) (ml mh : ME (Option Int)) : ME Val := fun ρ t => (ma ρ t).bind fun x t => (ml ρ t).bind fun l t => (mh ρ t).bind fun h t => fSl x l h t
theorem je_sl {X : Cx} {W : WX} {e : Expr} {lo hi : Option Expr} {ma : ME Val} {ml mh : ME (Option Int)} {p2 pos : Pos} (he : JE X W e ma) (hl : JO X W lo ml) (hu : JO X W hi mh) : JE X W (.Subscript e (.Slice lo hi none p2) pos) (mSl ma ml mh) :=
  PE.imp (pe_slice sl_all he hl hu) fun σ H Q ⟨w, ρ, t, rt, rr, p⟩ => by
    refine ⟨w, ρ, t, rt, rr, PostE.imp (PostE.bind p) fun w1 H1 v t1 e1 s1 r1 q1 x rx => ?_⟩
    refine ⟨w1, ρ, t1, r1, rr.mono s1, PostE.imp (PostE.bind (q1 t1 e1 r1)) fun w2 H2 l t2 e2 s2 r2 q2 => ?_⟩
    refine ⟨w2, ρ, t2, r2, (rr.mono s1).mono s2, PostE.imp (PostE.bind (q2 t2 e2 r2)) fun w3 H3 h t3 e3 s3 r3 q3 => ?_⟩
    exact s_sl r3 ((rx.mono s2).mono s3) (q3 t3 e3 r3)

def fTup (vs : List Val) (t : T) : R Val := match datas vs with
  | some ds => if ds.length ≤ lim then .ok (.d (.tup ds)) t else .stuck
  | none => .stuck
theorem je_tup {X : Cx} {W : WX} {es : List Expr} {m : ME (List Val)} {pos : Pos} {x1 : Nat} (h : JA X W es m) : JE X W (.Tuple es x1 pos) (mL fTup m) :=
  PE.imp (pe_tup h) fun σ H Q ⟨w, ρ, t, rt, rr, p⟩ => by
    refine ⟨w, ρ, t, rt, rr, PostE.imp (PostE.bind p) fun w1 H1 v t1 e1 s1 r1 q1 x rx => ?_⟩
    have q := q1 t1 e1 r1
    unfold fTup at q
    split at q
    · rename_i ds ed
      split at q
      · rename_i hl
        have hr := datas_rep ed rx
        exact ⟨by rw [hr.length]; exact lim_ok hl, new_tup r1 hr q⟩
      · exact q.elim
    · exact q.elim
def PostL (K : PySem.W.Frag) (W : WX) (σ : L2.St) (w : Wd) (H : Hp) (Q : VK) (r : R (List Val)) : Prop := PostE K W σ w H (fun w' H' vs => ∀ p xs, H' p = none → RepVs K w' H' xs vs → Q (.ref p) (upd H' p (.lst xs))) r
def tML (K : PySem.W.Frag) (W : WX) (m : ME (List Val)) : TE := fun σ H Q => ∃ w ρ t, RelT K w t H ∧ RelR K w ρ σ H ∧ PostL K W σ w H Q (m ρ t)
def JL (X : Cx) (W : WX) (e : Expr) (m : ME (List Val)) : Prop := PE X e (tML X.K W m)
def fFz (vs : List Val) (t : T) : R Val := match datas vs with
  | some ds => .ok (.d (.lst ds)) t
  | none => .stuck
theorem je_ofL {X : Cx} {W : WX} {e : Expr} {m : ME (List Val)} (h : JL X W e m) : JE X W e (mL fFz m) :=
  PE.imp h fun σ H Q ⟨w, ρ, t, rt, rr, p⟩ => by
    refine ⟨w, ρ, t, rt, rr, PostE.imp (PostE.bind p) fun w1 H1 v t1 e1 s1 r1 q1 a xs ha rx => ?_⟩
    have q := q1 t1 e1 r1
    unfold fFz at q
    split at q
    · rename_i ds ed
      exact new_lst r1 (datas_rep ed rx) q a ha
    · exact q.elim
def fLen (vs : List Val) (t : T) : R (List Val) := if vs.length ≤ lim then .ok vs t else .stuck
theorem jl_lst {X : Cx} {W : WX} {es : List Expr} {m : ME (List Val)} {pos : Pos} (h : JA X W es m) : JL X W (.List es pos) (mL fLen m) :=
  PE.imp (pe_lst h) fun σ H Q ⟨w, ρ, t, rt, rr, p⟩ => by
    refine ⟨w, ρ, t, rt, rr, PostE.imp (PostE.bind p) fun w1 H1 v t1 e1 s1 r1 q1 x rx => ?_⟩
    have q := q1 t1 e1 r1
    unfold fLen at q
    split at q
    · rename_i hl
      exact ⟨by rw [rx.length]; exact lim_ok hl, fun p hp => q.here r1 p x hp rx⟩
    · exact q.elim
end En
set_option Elab.async false
set_option linter.all false
set_option maxRecDepth 100000
set_option maxHeartbeats 1000000
set_option autoImplicit false
namespace En
open PySem PySem.Spec PyProof.Rows L2

def fNew (vs : List Val) (t : T) : R Val := .ok (.loc t.st.length) { t with st := t.st ++ [.lst vs] }
theorem je_new {X : Cx} {W : WX} {e : Expr} {m : ME (List Val)} (h : JL X W e m) : JE X W e (mL fNew m) :=
  PE.imp h fun σ H Q ⟨w, ρ, t, rt, rr, p⟩ => by
    refine ⟨w, ρ, t, rt, rr, PostE.imp (PostE.bind p) fun w1 H1 v t1 e1 s1 r1 q1 a xs ha rx => ?_⟩
    have q := q1 t1 e1 r1
    have ok : CellOk X.K (w1.add a) (upd H1 a (.lst xs)) a (.lst v) := ⟨xs, upd_same, rx.mono (step_add r1 ha)⟩
    exact q (w1.add a) _ (step_add r1 ha) (r1.add ha ok) _ (.inr ⟨a, by rw [← r1.len]; exact add_last w1 a, rfl⟩)
def fFreeze (v : Val) (t : T) : R Val := match v with
  | .d x => .ok (.d x) t
  | .loc n => (match t.st[n]? with
    | some (.lst vs) => (match datas vs with
      | some ds => .ok (.d (.lst ds)) { t with st := t.st.set n .dead }
      | none => .stuck)
    | some (.dT kvs) => (match datas (kvs.map (·.2)) with
      | some ds => .ok (.d (.dT ((kvs.map (·.1)).zip ds))) { t with st := t.st.set n .dead }
      | none => .stuck)
    | some (.ins c fs) => (match datas (fs.map (·.2)) with
      | some ds => .ok (.d (.ins c ((fs.map (·.1)).zip ds))) { t with st := t.st.set n .dead }
      | none => .stuck)
    | _ => .stuck)
  | .box => .stuck
theorem repVK_K {K : PySem.W.Frag} {w : Wd} {H : Hp} : ∀ {kvs : List (Key × Val)} {xs : List (Key × V)} {ds : List D}, datas (kvs.map (·.2)) = some ds → RepVK K w H xs kvs → RepK K (Fz w H) xs ((kvs.map (·.1)).zip ds)
  | [], _, _, e, .nil => by cases e; exact .nil
  | (k, v) :: r, _, _, e, .cons h hs => by
    simp only [List.map_cons, datas] at e
    split at e
    · rename_i x ys ev
      cases e
      exact .cons h (repVK_K ev hs)
    · cases e
theorem repVK_T {K : PySem.W.Frag} {w : Wd} {H : Hp} : ∀ {kvs : List (NestedKey × Val)} {xs : List (NestedKey × V)} {ds : List D}, datas (kvs.map (·.2)) = some ds → RepVK K w H xs kvs → RepT K (Fz w H) xs ((kvs.map (·.1)).zip ds)
  | [], _, _, e, .nil => by cases e; exact .nil
  | (k, v) :: r, _, _, e, .cons h hs => by
    simp only [List.map_cons, datas] at e
    split at e
    · rename_i x ys ev
      cases e
      exact .cons h (repVK_T ev hs)
    · cases e
theorem repVK_F {K : PySem.W.Frag} {w : Wd} {H : Hp} : ∀ {kvs : List (Str × Val)} {xs : List (Str × V)} {ds : List D}, datas (kvs.map (·.2)) = some ds → RepVK K w H xs kvs → RepF K (Fz w H) xs ((kvs.map (·.1)).zip ds)
  | [], _, _, e, .nil => by cases e; exact .nil
  | (k, v) :: r, _, _, e, .cons h hs => by
    simp only [List.map_cons, datas] at e
    split at e
    · rename_i x ys ev
      cases e
      exact .cons h (repVK_F ev hs)
    · cases e
theorem loc_live {K : PySem.W.Frag} {w : Wd} {t : T} {H : Hp} {x : V} {n : Nat} {c : Cell} (r : RelT K w t H) (rx : RepV K w H x (.loc n)) (e : t.st[n]? = some c) (hc : c ≠ .dead) : ∃ a, x = .ref a ∧ w.as[n]? = some (some a) ∧ CellOk K w H a c := by
  rcases rx with rx | ⟨a, ha, rfl⟩
  · rcases r.cell n _ e with ⟨z, _⟩ | ⟨b, hb, _⟩
    · exact absurd z hc
    · rw [rx] at hb; cases hb
  · obtain ⟨c', ec, ok⟩ := r.live ha
    rw [e] at ec
    cases ec
    exact ⟨a, rfl, ha, ok⟩
theorem fFreeze_ok {K : PySem.W.Frag} {W : WX} {w : Wd} {t : T} {H : Hp} {x : V} {v : Val} {σ : L2.St} {α : Type} {Q : Wd → Hp → α → Prop} {f : Val → T → R α} (r : RelT K w t H) (rx : RepV K w H x v) (p : PostE K W σ w H Q ((fFreeze v t).bind f)) :
    ∃ d w' t', Step w H w' H ∧ RelT K w' t' H ∧ Rep K (Fz w' H) x d ∧ PostE K W σ w' H Q (f (.d d) t') := by
  unfold fFreeze at p
  have go : ∀ (n : Nat) (a : Addr) (d : D), w.as[n]? = some (some a) → PostE K W σ w H Q (f (.d d) { t with st := t.st.set n .dead }) → PostE K W σ (w.cut n) H Q (f (.d d) { t with st := t.st.set n .dead }) := fun n a d ha p => by
    have s := step_cut (w := w) (H := H) n
    revert p
    cases f (.d d) { t with st := t.st.set n .dead } with
    | stuck => exact fun p => p
    | ok b tb => exact fun p w2 H2 s2 r2 => p w2 H2 (s.trans s2) r2
    | exc b tb => exact fun p w2 H2 cls d s2 r2 => p w2 H2 cls d (s.trans s2) r2
  split at p
  · exact ⟨_, w, t, Step.refl _ _, r, rx, p⟩
  · rename_i n
    split at p
    · rename_i vs en
      split at p
      · rename_i ds eds
        obtain ⟨a, rfl, ha, xs, h1, h2⟩ := loc_live r rx en (by intro z; cases z)
        obtain ⟨rc, nm⟩ := r.cut ha
        exact ⟨_, w.cut n, _, step_cut n, rc, Rep.lst (Fz.to h1 nm) ((datas_rep eds h2).mono (step_cut n).fz), go n a _ ha p⟩
      · exact p.elim
    · rename_i vs en
      split at p
      · rename_i ds eds
        obtain ⟨a, rfl, ha, o, es, ep, xs, h1, h3, h4, h2⟩ := loc_live r rx en (by intro z; cases z)
        obtain ⟨rc, nm⟩ := r.cut ha
        exact ⟨_, w.cut n, _, step_cut n, rc, Rep.dT (Fz.to h1 nm) h3 (h4.mono (step_cut n).fz) ((repVK_T eds h2).mono (step_cut n).fz), go n a _ ha p⟩
      · exact p.elim
    · rename_i vs en
      split at p
      · rename_i ds eds
        obtain ⟨a, rfl, ha, dx, xs, h1, h2⟩ := loc_live r rx en (by intro z; cases z)
        obtain ⟨rc, nm⟩ := r.cut ha
        exact ⟨_, w.cut n, _, step_cut n, rc, Rep.ins (Fz.to h1 nm) ((repVK_F eds h2).mono (step_cut n).fz), go n a _ ha p⟩
      · exact p.elim
    · exact p.elim
  · exact p.elim
theorem je_fz {X : Cx} {W : WX} {e : Expr} {m : ME Val} (h : JE X W e m) : JE X W e (m1 fFreeze m) :=
  PE.imp h fun σ H Q ⟨w, ρ, t, rt, rr, p⟩ => by
    refine ⟨w, ρ, t, rt, rr, PostE.imp (PostE.bind p) fun w1 H1 v t1 e1 s1 r1 q1 x rx => ?_⟩
    have q := q1 t1 e1 r1
    obtain ⟨d, w2, t2, s2, r2, rd, q2⟩ := fFreeze_ok (f := fun v t => .ok v t) r1 rx (show PostE X.K W σ w1 H1 _ ((fFreeze v t1).bind _) from by
      cases hq : fFreeze v t1 with
      | ok a b => rw [hq] at q; exact q
      | exc a b => rw [hq] at q; exact q
      | stuck => rw [hq] at q; exact q)
    exact q2.here r2 x rd

inductive RS where
  | nx (ρ : Rho) (t : T)
  | rt (v : Val) (t : T)
  | bk (ρ : Rho) (t : T)
  | ct (ρ : Rho) (t : T)
  | exc (x : Exn) (ρ : Rho) (t : T)
  | stuck
abbrev MS := Rho → T → RS
def PostS (K : PySem.W.Frag) (W : WX) (w : Wd) (H : Hp) (D : Ends) : RS → Prop
  | .nx ρ t => ∀ w' H' σ', Step w H w' H' → RelT K w' t H' → RelR K w' ρ σ' H' → D.nx σ' H'
  | .rt v t => ∀ w' H' x, Step w H w' H' → RelT K w' t H' → RepV K w' H' x v → D.rt x H'
  | .bk ρ t => ∀ w' H' σ', Step w H w' H' → RelT K w' t H' → RelR K w' ρ σ' H' → D.bk σ' H'
  | .ct ρ t => ∀ w' H' σ', Step w H w' H' → RelT K w' t H' → RelR K w' ρ σ' H' → D.ct σ' H'
  | .exc x ρ t => ∀ w' H' σ' cls d, Step w H w' H' → RelT K w' t H' → RelR K w' ρ σ' H' → ExcRep K (Fz w' H') cls d x → W cls d σ' H'
  | .stuck => False
def R.toS {α : Type} (r : R α) (ρ : Rho) (f : α → T → RS) : RS := match r with
  | .ok a t => f a t
  | .exc x t => .exc x ρ t
  | .stuck => .stuck
theorem PostS.from {K : PySem.W.Frag} {W : WX} {w w1 : Wd} {H H1 : Hp} {D : Ends} {r : RS} (s : Step w H w1 H1) (h : PostS K W w H D r) : PostS K W w1 H1 D r := by
  cases r with
  | nx ρ t => exact fun w' H' σ' s' => h w' H' σ' (s.trans s')
  | rt v t => exact fun w' H' x s' => h w' H' x (s.trans s')
  | bk ρ t => exact fun w' H' σ' s' => h w' H' σ' (s.trans s')
  | ct ρ t => exact fun w' H' σ' s' => h w' H' σ' (s.trans s')
  | exc x ρ t => exact fun w' H' σ' cls d s' => h w' H' σ' cls d (s.trans s')
  | stuck => exact h
theorem PostS.expr {K : PySem.W.Frag} {W : WX} {σ : L2.St} {α : Type} {w : Wd} {H : Hp} {D : Ends} {ρ : Rho} {r : R α} {f : α → T → RS} (rr : RelR K w ρ σ H) (h : PostS K W w H D (r.toS ρ f)) :
    PostE K W σ w H (fun w1 H1 a => ∀ t, r = .ok a t → PostS K W w1 H1 D (f a t)) r := by
  cases r with
  | stuck => exact h
  | exc x t => exact fun w' H' cls d s r e => h w' H' σ cls d s r (rr.mono s) e
  | ok a t =>
    intro w1 H1 s1 r1 t' et
    cases et
    exact PostS.from s1 h
def tMS (K : PySem.W.Frag) (W : WX) (m : MS) : TS := fun D σ H => ∃ w ρ t, RelT K w t H ∧ RelR K w ρ σ H ∧ PostS K W w H D (m ρ t)
def JS (X : Cx) (W : WX) (st : Stmt) (m : MS) : Prop := PS X st (tMS X.K W m)
def JSs (X : Cx) (W : WX) (st : List Stmt) (m : MS) : Prop := PSs X st (tMS X.K W m)

def sNil : MS := fun ρ t => .nx ρ t
def sSeq (a b : MS) : MS := fun ρ t => match a ρ t with
  | .nx ρ t => b ρ t
  | r => r
def sDrop (m : ME Val) : MS := fun ρ t => (m ρ t).toS ρ fun _ t => .nx ρ t
def sRet (m : ME Val) : MS := fun ρ t => (m ρ t).toS ρ fun v t => .rt v t
def sRetN : MS := fun _ t => .rt (.d .non) t
def sIf (c : ME Bool) (a b : MS) : MS := fun ρ t => (c ρ t).toS ρ fun k t => if k then a ρ t else b ρ t
def sBreak : MS := fun ρ t => .bk ρ t
def sCont : MS := fun ρ t => .ct ρ t
def sSet (i : Nat) (m : ME Val) : MS := fun ρ t => (m ρ t).toS ρ fun v t => .nx (ρ.set i (some v)) t
theorem RelR.set {K : PySem.W.Frag} {w : Wd} {H : Hp} {ρ : Rho} {σ : L2.St} (h : RelR K w ρ σ H) {x : V} {v : Val} (i : Nat) (r : RepV K w H x v) : RelR K w (ρ.set i (some v)) (σ.set i (some x)) H := by
  refine ⟨by simp [h.len], fun j u e => ?_⟩
  by_cases hj : i = j
  · subst hj
    have hl := (List.getElem?_eq_some_iff.mp e).1
    rw [List.length_set] at hl
    rw [List.getElem?_set_self hl] at e
    cases e
    exact ⟨x, by rw [List.getElem?_set_self (by rw [← h.len]; exact hl)], r⟩
  · rw [List.getElem?_set_ne hj] at e
    obtain ⟨y, e1, r1⟩ := h.at_ j u e
    exact ⟨y, by rw [List.getElem?_set_ne hj]; exact e1, r1⟩
section
variable {X : Cx} {W : WX} {pos : Pos}
theorem jss_nil : JSs X W [] sNil := PSs.imp pss_nil fun D σ H ⟨w, ρ, t, rt, rr, p⟩ => p w H σ (Step.refl _ _) rt rr
theorem PostS.next {K : PySem.W.Frag} {w : Wd} {H : Hp} {D : Ends} {N : L2.St → Hp → Prop} {r : RS} (h : ∀ ρ t, r = .nx ρ t → ∀ w' H' σ', Step w H w' H' → RelT K w' t H' → RelR K w' ρ σ' H' → N σ' H') (k : (∀ ρ t, r ≠ .nx ρ t) → PostS K W w H D r) : PostS K W w H { D with nx := N } r := by
  cases r with
  | nx ρ t => exact h ρ t rfl
  | rt v t => exact k (fun _ _ z => by cases z)
  | bk ρ t => exact k (fun _ _ z => by cases z)
  | ct ρ t => exact k (fun _ _ z => by cases z)
  | exc x ρ t => exact k (fun _ _ z => by cases z)
  | stuck => exact k (fun _ _ z => by cases z)
theorem jss_cons {st : Stmt} {rest : List Stmt} {a b : MS} (h1 : JS X W st a) (h2 : JSs X W rest b) : JSs X W (st :: rest) (sSeq a b) :=
  PSs.imp (pss_cons h1 h2) fun D σ H ⟨w, ρ, t, rt, rr, p⟩ => by
    refine ⟨w, ρ, t, rt, rr, PostS.next (fun ρ1 t1 e w1 H1 σ1 s1 r1 rr1 => ?_) fun hn => ?_⟩
    · refine ⟨w1, ρ1, t1, r1, rr1, PostS.from s1 ?_⟩
      unfold sSeq at p
      rw [e] at p
      exact p
    · unfold sSeq at p
      split at p
      · rename_i ρ1 t1 e
        exact absurd e (hn ρ1 t1)
      · exact p
theorem jss_one {st : Stmt} {a : MS} (h1 : JS X W st a) : JSs X W [st] a := pss_one h1
theorem js_pass : JS X W (.Pass pos) sNil := PS.imp ps_pass fun D σ H ⟨w, ρ, t, rt, rr, p⟩ => p w H σ (Step.refl _ _) rt rr
theorem js_break : JS X W (.Break pos) sBreak := PS.imp ps_break fun D σ H ⟨w, ρ, t, rt, rr, p⟩ => p w H σ (Step.refl _ _) rt rr
theorem js_continue : JS X W (.Continue pos) sCont := PS.imp ps_continue fun D σ H ⟨w, ρ, t, rt, rr, p⟩ => p w H σ (Step.refl _ _) rt rr
theorem js_expr {e : Expr} {m : ME Val} (h : JE X W e m) (hs : swapsWith e none pos.line X.env = pure false := by rfl) : JS X W (.Expr e pos) (sDrop m) :=
  PS.imp (ps_expr h hs) fun D σ H ⟨w, ρ, t, rt, rr, p⟩ => ⟨w, ρ, t, rt, rr, PostE.imp (PostS.expr rr p) fun w1 H1 v t1 e1 s1 r1 q x rx => q t1 e1 w1 H1 σ (Step.refl _ _) r1 (rr.mono s1)⟩
theorem js_ret {e : Expr} {m : ME Val} (h : JE X W e m) : JS X W (.Return (some e) pos) (sRet m) :=
  PS.imp (ps_ret h) fun D σ H ⟨w, ρ, t, rt, rr, p⟩ => ⟨w, ρ, t, rt, rr, PostE.imp (PostS.expr rr p) fun w1 H1 v t1 e1 s1 r1 q x rx => q t1 e1 w1 H1 x (Step.refl _ _) r1 rx⟩
theorem js_retN : JS X W (.Return none pos) sRetN := PS.imp ps_retN fun D σ H ⟨w, ρ, t, rt, rr, p⟩ => p w H .non (Step.refl _ _) rt Rep.non
theorem js_if {c : Expr} {a b : List Stmt} {mc : ME Bool} {ma mb : MS} (hc : JT X W c mc) (ha : JSs X W a ma) (hb : JSs X W b mb) : JS X W (.If c a b pos) (sIf mc ma mb) :=
  PS.imp (ps_if hc ha hb) fun D σ H ⟨w, ρ, t, rt, rr, p⟩ => by
    refine ⟨w, ρ, t, rt, rr, PostE.imp (PostS.expr rr p) fun w1 H1 v t1 e1 s1 r1 q => ?_⟩
    have q1 := q t1 e1
    cases v with
    | true => exact iteT ⟨w1, ρ, t1, r1, rr.mono s1, q1⟩
    | false => exact iteF ⟨w1, ρ, t1, r1, rr.mono s1, q1⟩
theorem js_set {i : Nat} {x : Str} {e : Expr} {m : ME Val} {pos' : Pos} (hN : X.N.Nodup) (hi : X.N[i]? = some x) (hx : Loc X.env.scope x) (he : JE X W e m) (hs : swapsWith e (some (.Name x pos')) pos.line X.env = pure false := by rfl) (hf : X.fn x = true ∨ X.env.scope.names.lookup x = some .local := by first | exact .inl rfl | exact .inr rfl | assumption) : JS X W (.Assign [.Name x pos'] e pos) (sSet i m) :=
  PS.imp (ps_set hN hi hx he hs hf) fun D σ H ⟨w, ρ, t, rt, rr, p⟩ => ⟨w, ρ, t, rt, rr, PostE.imp (PostS.expr rr p) fun w1 H1 v t1 e1 s1 r1 q x rx => q t1 e1 w1 H1 _ (Step.refl _ _) r1 ((rr.mono s1).set i rx)⟩
end
end En
set_option Elab.async false
set_option linter.all false
set_option maxRecDepth 100000
set_option maxHeartbeats 1000000
set_option autoImplicit false
namespace En
open PySem PySem.Spec PyProof.Rows L2

def NT (K : PySem.W.Frag) (g : TG) (is : List Nat) (f : Val → Rho → Option Rho) : Prop :=
  ∀ (w : Wd) (ρ ρ' : Rho) (σ : L2.St) (H : Hp) (x : V) (v : Val) (Q : L2.St → Hp → Prop), RelR K w ρ σ H → RepV K w H x v → f v ρ = some ρ' →
    (∀ σ', σ'.length = σ.length → (∀ i : Nat, i ∉ is → σ'[i]? = σ[i]?) → RelR K w ρ' σ' H → Q σ' H) → g x σ H Q
def NTs (K : PySem.W.Frag) (g : TGs) (is : List Nat) (f : List Val → Rho → Option Rho) : Prop :=
  ∀ (w : Wd) (ρ ρ' : Rho) (σ : L2.St) (H : Hp) (xs : List V) (vs : List Val) (Q : L2.St → Hp → Prop), RelR K w ρ σ H → RepVs K w H xs vs → f vs ρ = some ρ' →
    (∀ σ', σ'.length = σ.length → (∀ i : Nat, i ∉ is → σ'[i]? = σ[i]?) → RelR K w ρ' σ' H → Q σ' H) → g xs σ H Q
structure JG (X : Cx) (tg : Expr) (is : List Nat) (f : Val → Rho → Option Rho) : Prop where
  ex : ∃ g, PG X tg g ∧ NT X.K g is f
structure JGs (X : Cx) (tg : List Expr) (is : List Nat) (f : List Val → Rho → Option Rho) : Prop where
  ex : ∃ g, PGs X tg g ∧ NTs X.K g is f
def gN (i : Nat) (v : Val) (ρ : Rho) : Option Rho := some (ρ.set i (some v))
def gT (n : Nat) (f : List Val → Rho → Option Rho) (v : Val) (ρ : Rho) : Option Rho := match asTup v with
  | some ds => if ds.length = n then f (ds.map Val.d) ρ else none
  | none => none
def gsNil (vs : List Val) (ρ : Rho) : Option Rho := match vs with
  | [] => some ρ
  | _ => none
def gsCons (f : Val → Rho → Option Rho) (fs : List Val → Rho → Option Rho) (vs : List Val) (ρ : Rho) : Option Rho := match vs with
  | v :: r => (f v ρ).bind fun ρ => fs r ρ
  | [] => none
theorem nt_name {K : PySem.W.Frag} (i : Nat) : NT K (gName i) [i] (gN i) := fun w ρ ρ' σ H x v Q rr rx e k => by
  cases e
  refine k _ (by simp) (fun j hj => ?_) (rr.set i rx)
  rw [List.getElem?_set_ne (fun z => hj (by simp [z]))]
theorem nts_nil {K : PySem.W.Frag} : NTs K gNil [] gsNil := fun w ρ ρ' σ H xs vs Q rr rx e k => by
  cases rx with
  | nil =>
    cases e
    exact ⟨rfl, k σ rfl (fun _ _ => rfl) rr⟩
  | cons _ _ => cases e
theorem nts_cons {K : PySem.W.Frag} {g : TG} {gs : TGs} {is js : List Nat} {f : Val → Rho → Option Rho} {fs : List Val → Rho → Option Rho} (h : NT K g is f) (hs : NTs K gs js fs) : NTs K (gCons g gs) (is ++ js) (gsCons f fs) := fun w ρ ρ' σ H xs vs Q rr rx e k => by
  cases rx with
  | nil => cases e
  | cons r1 r2 =>
    rename_i x xs v vs
    have e' : (f v ρ).bind (fun ρ => fs vs ρ) = some ρ' := e
    obtain ⟨ρ1, e1, e2⟩ := Option.bind_eq_some_iff.mp e'
    refine ⟨x, xs, rfl, h w ρ ρ1 σ H x v _ rr r1 e1 fun σ1 l1 o1 rr1 => ?_⟩
    refine hs w ρ1 ρ' σ1 H xs vs Q rr1 r2 e2 fun σ2 l2 o2 rr2 => k σ2 (l2.trans l1) (fun i hi => ?_) rr2
    rw [o2 i (fun z => hi (List.mem_append_right _ z)), o1 i (fun z => hi (List.mem_append_left _ z))]
theorem nt_tup {K : PySem.W.Frag} {gs : TGs} {is : List Nat} {n : Nat} {fs : List Val → Rho → Option Rho} (hs : NTs K gs is fs) : NT K (gTup K n gs) is (gT n fs) := fun w ρ ρ' σ H x v Q rr rx e k => by
  unfold gT at e
  split at e
  · rename_i ds ed
    split at e
    · rename_i hl
      obtain ⟨a, xs, rfl, h1, h2⟩ := asTup_rep rx ed
      exact ⟨a, xs, rfl, h1, by rw [h2.length]; exact hl, hs w ρ ρ' σ H xs _ Q rr (reps_vals h2) e k⟩
    · cases e
  · cases e
section
variable {X : Cx} {pos : Pos}
theorem jg_name {i : Nat} {x : Str} (hN : X.N.Nodup) (hi : X.N[i]? = some x) (hx : Loc X.env.scope x) (hf : X.fn x = true ∨ X.env.scope.names.lookup x = some .local := by first | exact .inl rfl | exact .inr rfl | assumption) : JG X (.Name x pos) [i] (gN i) := ⟨_, pg_name hN hi hx hf, nt_name i⟩
theorem jgs_nil : JGs X [] [] gsNil := ⟨_, pgs_nil, nts_nil⟩
theorem jgs_cons {e : Expr} {es : List Expr} {is js : List Nat} {f : Val → Rho → Option Rho} {fs : List Val → Rho → Option Rho} (h1 : JG X e is f) (h2 : JGs X es js fs) (hs : (assignEach (e :: es) X.env).map (·.2) = assign e X.env :: (assignEach es X.env).map (·.2) := by rfl) : JGs X (e :: es) (is ++ js) (gsCons f fs) := by
  obtain ⟨g, a, b⟩ := h1.ex
  obtain ⟨gs, c, d⟩ := h2.ex
  exact ⟨_, pgs_cons a c hs, nts_cons b d⟩
theorem jg_tup {es : List Expr} {k n : Nat} {is : List Nat} {fs : List Val → Rho → Option Rho} (hc : X.calm = true) (h : JGs X es is fs) (hn : (assignEach es X.env).length = n := by rfl) (hst : (assignEach es X.env).findIdx? (·.1) = none := by rfl) : JG X (.Tuple es k pos) is (gT n fs) := by
  obtain ⟨gs, c, d⟩ := h.ex
  exact ⟨_, pg_tup hc c hn hst, nt_tup d⟩
end
def oS (o : Option Rho) (t : T) : RS := match o with
  | some ρ => .nx ρ t
  | none => .stuck
def sAsg (f : Val → Rho → Option Rho) (m : ME Val) : MS := fun ρ t => (m ρ t).toS ρ fun v t => oS (f v ρ) t
theorem js_asg {X : Cx} {W : WX} {tg e : Expr} {is : List Nat} {f : Val → Rho → Option Rho} {m : ME Val} {pos : Pos} (hg : JG X tg is f) (he : JE X W e m) (hs : swapsWithSole [tg] e pos.line X.env = pure false := by rfl) (hw : swappedStores [tg] e X.env = pure none := by rfl)
    (h1 : (assignEach [tg] X.env).map (·.2) = [assign tg X.env] := by rfl) : JS X W (.Assign [tg] e pos) (sAsg f m) := by
  obtain ⟨g, pg, nt⟩ := hg.ex
  refine PS.imp (ps_asg he pg hs hw h1) fun D σ H ⟨w, ρ, t, rt, rr, p⟩ => ?_
  refine ⟨w, ρ, t, rt, rr, PostE.imp (PostS.expr rr p) fun w1 H1 v t1 e1 s1 r1 q x rx => ?_⟩
  have q1 := q t1 e1
  unfold oS at q1
  split at q1
  · rename_i ρ' ef
    exact nt w1 ρ ρ' σ H1 x v _ (rr.mono s1) rx ef fun σ' _ _ rr' => q1 w1 H1 σ' (Step.refl _ _) r1 rr'
  · exact q1.elim
def sAsgT (fs : List Val → Rho → Option Rho) (n : Nat) (m : ME (List Val)) : MS := fun ρ t => (m ρ t).toS ρ fun vs t => if vs.length = n ∧ n ≤ lim then oS (fs vs ρ) t else .stuck
theorem js_asgT {X : Cx} {W : WX} {es vs : List Expr} {is : List Nat} {fs : List Val → Rho → Option Rho} {m : ME (List Val)} {kt k2 n : Nat} {pt pt2 pos : Pos} (hc : X.calm = true) (hg : JGs X es is fs) (he : JA X W vs m)
    (hs : swapsWithSole [.Tuple es kt pt] (.Tuple vs k2 pt2) pos.line X.env = pure false := by rfl) (hw : swappedStores [.Tuple es kt pt] (.Tuple vs k2 pt2) X.env = pure none := by rfl)
    (h1 : (assignEach [.Tuple es kt pt] X.env).map (·.2) = [assign (.Tuple es kt pt) X.env] := by rfl) (hn : (assignEach es X.env).length = n := by rfl) (hst : (assignEach es X.env).findIdx? (·.1) = none := by rfl) : JS X W (.Assign [.Tuple es kt pt] (.Tuple vs k2 pt2) pos) (sAsgT fs n m) := by
  obtain ⟨g, pg, nt⟩ := hg.ex
  refine PS.imp (ps_asg (pe_tup he) (pg_tup hc pg hn hst) hs hw h1) fun D σ H ⟨w, ρ, t, rt, rr, p⟩ => ?_
  refine ⟨w, ρ, t, rt, rr, PostE.imp (PostS.expr rr p) fun w1 H1 v t1 e1 s1 r1 q xs rx => ?_⟩
  have q1 := q t1 e1
  split at q1
  · rename_i hl
    unfold oS at q1
    split at q1
    · rename_i ρ' ef
      refine ⟨by rw [rx.length, hl.1]; exact lim_ok hl.2, fun a ha => ⟨a, xs, rfl, SqT.of upd_same, by rw [rx.length]; exact hl.1, ?_⟩⟩
      have s2 := step_new (o := .tup xs) r1 ha
      exact nt w1 ρ ρ' σ _ xs v _ ((rr.mono s1).mono s2) (rx.mono s2) ef fun σ' _ _ rr' => q1 w1 _ σ' s2 (r1.new ha) rr'
    · exact q1.elim
  · exact q1.elim
def sPar (i j : Nat) (m : ME (List Val)) : MS := fun ρ t => (m ρ t).toS ρ fun vs t => match vs with
  | [u, v] => .nx ((ρ.set i (some u)).set j (some v)) t
  | _ => .stuck
theorem js_par {X : Cx} {W : WX} {i j : Nat} {x y : Str} {a b : Expr} {m : ME (List Val)} {px py pt pt2 pos : Pos} {kt k2 : Nat} (hc : X.calm = true) (hN : X.N.Nodup) (ha : JA X W [a, b] m) (hi : X.N[i]? = some x := by rfl) (hj : X.N[j]? = some y := by rfl) (hij : i ≠ j := by decide)
    (hx : X.env.scope.names.lookup x = some .local := by rfl) (hy : X.env.scope.names.lookup y = some .local := by rfl)
    (hw : swappedStores [.Tuple [.Name x px, .Name y py] kt pt] (.Tuple [a, b] k2 pt2) X.env = pure (some [x, y]) := by rfl)
    (hs : swapsWithSole [.Tuple [.Name x px, .Name y py] kt pt] (.Tuple [a, b] k2 pt2) pos.line X.env = pure false := by rfl) :
    JS X W (.Assign [.Tuple [.Name x px, .Name y py] kt pt] (.Tuple [a, b] k2 pt2) pos) (sPar i j m) :=
  PS.imp (ps_par hc hN hi hj hij hx hy ha hw hs) fun D σ H ⟨w, ρ, t, rt, rr, p⟩ => by
    refine ⟨w, ρ, t, rt, rr, PostE.imp (PostS.expr rr p) fun w1 H1 v t1 e1 s1 r1 q xs rx => ?_⟩
    have q1 := q t1 e1
    split at q1
    · cases rx with
      | cons ra rb =>
        cases rb with
        | cons rb rc =>
          cases rc
          exact ⟨_, _, rfl, q1 w1 H1 _ (Step.refl _ _) r1 (((rr.mono s1).set i ra).set j rb)⟩
    · exact q1.elim
def sPar3 (i j l : Nat) (m : ME (List Val)) : MS := fun ρ t => (m ρ t).toS ρ fun vs t => match vs with
  | [u, v, z] => .nx (((ρ.set i (some u)).set j (some v)).set l (some z)) t
  | _ => .stuck
theorem js_par3 {X : Cx} {W : WX} {i j l : Nat} {x y z : Str} {a b c : Expr} {m : ME (List Val)} {px py pz pt pt2 pos : Pos} {kt k2 : Nat} (hc : X.calm = true) (hN : X.N.Nodup) (ha : JA X W [a, b, c] m) (hi : X.N[i]? = some x := by rfl) (hj : X.N[j]? = some y := by rfl) (hl : X.N[l]? = some z := by rfl)
    (hij : i ≠ j := by decide) (hil : i ≠ l := by decide) (hjl : j ≠ l := by decide)
    (hx : X.env.scope.names.lookup x = some .local := by rfl) (hy : X.env.scope.names.lookup y = some .local := by rfl) (hz : X.env.scope.names.lookup z = some .local := by rfl)
    (hw : swappedStores [.Tuple [.Name x px, .Name y py, .Name z pz] kt pt] (.Tuple [a, b, c] k2 pt2) X.env = pure (some [x, y, z]) := by rfl)
    (hs : swapsWithSole [.Tuple [.Name x px, .Name y py, .Name z pz] kt pt] (.Tuple [a, b, c] k2 pt2) pos.line X.env = pure false := by rfl) :
    JS X W (.Assign [.Tuple [.Name x px, .Name y py, .Name z pz] kt pt] (.Tuple [a, b, c] k2 pt2) pos) (sPar3 i j l m) :=
  PS.imp (ps_par3 hc hN hi hj hl hij hil hjl hx hy hz ha hw hs) fun D σ H ⟨w, ρ, t, rt, rr, p⟩ => by
    refine ⟨w, ρ, t, rt, rr, PostE.imp (PostS.expr rr p) fun w1 H1 v t1 e1 s1 r1 q xs rx => ?_⟩
    have q1 := q t1 e1
    split at q1
    · cases rx with
      | cons ra rb =>
        cases rb with
        | cons rb rc =>
          cases rc with
          | cons rc rd =>
            cases rd
            exact ⟨_, _, _, rfl, q1 w1 H1 _ (Step.refl _ _) r1 ((((rr.mono s1).set i ra).set j rb).set l rc)⟩
    · exact q1.elim

structure ItOk (K : PySem.W.Frag) (w : Wd) (H : Hp) (J : It) (vs : List Val) : Prop where
  go : ∀ (i : Nat) (v : Val) (w' : Wd) (H' : Hp) (t' : T), vs[i]? = some v → Ex (Fz w H) (Fz w' H') → RelT K w' t' H' → J.go i H' ∧ ∀ x H'', J.yld i H' x H'' → (H'' = H' ∨ ∃ T o, H' T = none ∧ H'' = upd H' T o) ∧ RepV K w' H'' x v
  stop : ∀ (w' : Wd) (H' : Hp) (t' : T), Ex (Fz w H) (Fz w' H') → RelT K w' t' H' → J.stop vs.length H'
def tMI (K : PySem.W.Frag) (W : WX) (m : ME (List Val)) : TI := fun σ H R => ∃ w ρ t, RelT K w t H ∧ RelR K w ρ σ H ∧ PostE K W σ w H (fun w' H' vs => ∀ J, ItOk K w' H' J vs → R J H') (m ρ t)
def JI (X : Cx) (W : WX) (tg iter : Expr) (m : ME (List Val)) : Prop := PI X tg iter (tMI X.K W m)
theorem PI.imp {X : Cx} {tg e : Expr} {t t' : TI} (h : PI X tg e t) (k : ∀ σ H R, t' σ H R → t σ H R) : PI X tg e t' := ⟨fun pins s σ H R I q => h.run pins s σ H R I (k σ H R q)⟩
theorem pi_or {X : Cx} {tg e : Expr} {t t' : TI} (h : PI X tg e t) (h' : PI X tg e t') : PI X tg e (fun σ H R => t σ H R ∨ t' σ H R) := ⟨fun pins s σ H R I q => by
  rcases q with q | q
  · exact h.run pins s σ H R I q
  · exact h'.run pins s σ H R I q⟩
theorem ItOk.seqL {K : PySem.W.Frag} {w : Wd} {H : Hp} {a : Addr} {xs : List V} {ds : List D} (h : Fz w H a = some (.lst xs)) (hs : Reps K (Fz w H) xs ds) : ItOk K w H (Itl K a) (ds.map Val.d) where
  go := fun i v w' H' t' e s r => by
    have h' := (Fz.of (s _ _ h)).1
    have hs' := reps_vals (hs.mono s)
    obtain ⟨x, ex, rx⟩ := hs'.get e
    refine ⟨⟨xs, x, SqL.of h', ex⟩, fun y H'' q => ?_⟩
    obtain ⟨rfl, q⟩ := q
    have ey := q xs (SqL.of h')
    rw [ex] at ey
    cases ey
    exact ⟨.inl rfl, rx⟩
  stop := fun w' H' t' s r => ⟨xs, SqL.of (Fz.of (s _ _ h)).1, by rw [hs.length]; simp⟩
theorem ItOk.seqT {K : PySem.W.Frag} {w : Wd} {H : Hp} {a : Addr} {xs : List V} {ds : List D} (h : SqT K (Fz w H) a xs) (hs : Reps K (Fz w H) xs ds) : ItOk K w H (Itt K a) (ds.map Val.d) where
  go := fun i v w' H' t' e s r => by
    have h' : SqT K H' a xs := Fz.ex.sqT (s.sqT h)
    have hs' := reps_vals (hs.mono s)
    obtain ⟨x, ex, rx⟩ := hs'.get e
    refine ⟨⟨xs, x, h', ex⟩, fun y H'' q => ?_⟩
    obtain ⟨rfl, q⟩ := q
    have ey := q xs h'
    rw [ex] at ey
    cases ey
    exact ⟨.inl rfl, rx⟩
  stop := fun w' H' t' s r => ⟨xs, Fz.ex.sqT (s.sqT h), by rw [hs.length]; simp⟩
theorem ItOk.script {K : PySem.W.Frag} {w : Wd} {H : Hp} {a : Addr} {ns : List Int} (h : SqL K (Fz w H) a (ns.map V.int)) : ItOk K w H (Itl K a) (ns.map fun n => .d (.int n)) where
  go := fun i v w' H' t' e s r => by
    have h' : SqL K H' a (ns.map V.int) := Fz.ex.sqL (s.sqL h)
    rw [List.getElem?_map] at e
    obtain ⟨n, en, ev⟩ := Option.map_eq_some_iff.mp e
    have ex : (ns.map V.int)[i]? = some (V.int n) := by rw [List.getElem?_map, en]; rfl
    refine ⟨⟨_, V.int n, h', ex⟩, fun y H'' q => ?_⟩
    obtain ⟨rfl, q⟩ := q
    have ey := q _ h'
    rw [ex] at ey
    cases ey
    subst ev
    exact ⟨.inl rfl, Rep.int _⟩
  stop := fun w' H' t' s r => ⟨_, Fz.ex.sqL (s.sqL h), by simp⟩
def chars (x : Str) : List Val := x.cps.toList.map fun c => .d (.str ⟨#[c]⟩)
theorem ItOk.text {K : PySem.W.Frag} {w : Wd} {H : Hp} {x : Str} : ItOk K w H (Its x) (chars x) where
  go := fun i v w' H' t' e s r => by
    unfold chars at e
    rw [List.getElem?_map] at e
    obtain ⟨c, ec, ev⟩ := Option.map_eq_some_iff.mp e
    have hi : i < x.cps.size := by
      have := (List.getElem?_eq_some_iff.mp ec).1
      simpa using this
    refine ⟨hi, fun y H'' q => ?_⟩
    obtain ⟨rfl, c', ec', rfl⟩ := q
    have e2 : x.cps.toList[i]? = some c' := by simpa using ec'
    rw [ec] at e2
    cases e2
    subst ev
    exact ⟨.inl rfl, Rep.str _⟩
  stop := fun w' H' t' s r => by
    show x.cps.size ≤ (chars x).length
    unfold chars
    simp
def intsV (lo : Int) (n : Nat) : List Val := (List.range n).map fun (i : Nat) => Val.d (.int (lo + (i : Int)))
theorem ItOk.range {K : PySem.W.Frag} {w : Wd} {H : Hp} {lo : Int} {n : Nat} : ItOk K w H (Itr lo n) (intsV lo n) where
  go := fun i v w' H' t' e s r => by
    unfold intsV at e
    rw [List.getElem?_map] at e
    obtain ⟨c, ec, ev⟩ := Option.map_eq_some_iff.mp e
    have hi : i < n := by
      have := (List.getElem?_eq_some_iff.mp ec).1
      simpa using this
    have ei : c = i := by
      rw [List.getElem?_range hi] at ec
      exact (Option.some.inj ec).symm
    subst ei
    refine ⟨hi, fun y H'' q => ?_⟩
    obtain ⟨rfl, rfl⟩ := q
    subst ev
    exact ⟨.inl rfl, Rep.int _⟩
  stop := fun w' H' t' s r => by
    show n ≤ (intsV lo n).length
    unfold intsV
    simp
def fIter (v : Val) (t : T) : R (List Val) := match v with
  | .d (.str x) => .ok (chars x) t
  | .d (.tup ds) => .ok (ds.map Val.d) t
  | .d (.scr ns) => .ok (ns.map fun n => .d (.int n)) t
  | v => (fFreeze v t).bind fun v t => match v with
    | .d (.lst ds) => .ok (ds.map Val.d) t
    | _ => .stuck
theorem ji_val {X : Cx} {W : WX} {tg e : Expr} {m : ME Val} (h : JE X W e m) : JI X W tg e (m1 fIter m) :=
  PI.imp (pi_or (pi_str (tg := tg) h) (pi_or (pi_tup (tg := tg) h) (pi_list (tg := tg) h))) fun σ H R ⟨w, ρ, t, rt, rr, p⟩ => by
    have p2 := PostE.bind p
    cases em : m ρ t with
    | stuck => rw [em] at p2; exact p2.elim
    | exc x tx =>
      refine .inl ⟨w, ρ, t, rt, rr, ?_⟩
      rw [em] at p2 ⊢
      exact p2
    | ok v tv =>
      have kind : (∃ s, v = .d (.str s)) ∨ (∃ ds, v = .d (.tup ds)) ∨ ((∀ s, v ≠ .d (.str s)) ∧ ∀ ds, v ≠ .d (.tup ds)) := by
        cases v with
        | box => exact .inr (.inr ⟨fun _ z => (nomatch z), fun _ z => (nomatch z)⟩)
        | loc n => exact .inr (.inr ⟨fun _ z => (nomatch z), fun _ z => (nomatch z)⟩)
        | d d =>
          cases d with
          | str s => exact .inl ⟨s, rfl⟩
          | tup ds => exact .inr (.inl ⟨ds, rfl⟩)
          | _ => exact .inr (.inr ⟨fun _ z => (nomatch z), fun _ z => (nomatch z)⟩)
      rcases kind with ⟨s, rfl⟩ | ⟨ds, rfl⟩ | ⟨n1, n2⟩
      · refine .inl ⟨w, ρ, t, rt, rr, PostE.imp p2 fun w1 H1 v t1 e1 s1 r1 q x rx => ?_⟩
        rw [em] at e1
        cases e1
        cases rx
        exact ⟨s, rfl, (q tv em r1).here r1 _ ItOk.text⟩
      · refine .inr (.inl ⟨w, ρ, t, rt, rr, PostE.imp p2 fun w1 H1 v t1 e1 s1 r1 q x rx => ?_⟩)
        rw [em] at e1
        cases e1
        have rx' : Rep X.K (Fz w1 H1) x (.tup ds) := rx
        cases rx' with
        | tup h hs => exact ⟨_, rfl, ⟨_, Fz.ex.sqT h⟩, (q tv em r1).here r1 _ (ItOk.seqT h hs)⟩
      · refine .inr (.inr ⟨w, ρ, t, rt, rr, PostE.imp p2 fun w1 H1 v' t1 e1 s1 r1 q x rx => ?_⟩)
        rw [em] at e1
        cases e1
        have q1 := q tv em r1
        unfold fIter at q1
        split at q1
        · exact absurd rfl (n1 _)
        · exact absurd rfl (n2 _)
        · rename_i ns
          have rx' : Rep X.K (Fz w1 H1) x (.scr ns) := rx
          cases rx' with
          | scr h => exact ⟨_, rfl, ⟨_, Fz.ex.sqL h⟩, q1.here r1 _ (ItOk.script h)⟩
        · obtain ⟨d, w2, t2, s2, r2, rd, q2⟩ := fFreeze_ok r1 rx q1
          split at q2
          · rename_i ds ed
            cases ed
            cases rd with
            | lst h hs => exact ⟨_, rfl, ⟨_, SqL.of (Fz.of h).1⟩, q2.here r2 _ (ItOk.seqL h hs)⟩
          · exact q2.elim
def big (i : Int) : Bool := decide (i.natAbs < 4611686018427387904)
theorem big_ok {i : Int} (h : big i = true) : -(2 ^ 62) ≤ i ∧ i < 2 ^ 62 := by
  have h1 : i.natAbs < 4611686018427387904 := of_decide_eq_true h
  omega
def fRange1 (vs : List Val) (t : T) : R (List Val) := match vs with
  | [.d (.int j)] => if big j then .ok (intsV 0 j.toNat) t else .stuck
  | _ => .stuck
def fRange2 (vs : List Val) (t : T) : R (List Val) := match vs with
  | [.d (.int i), .d (.int j)] => if big i && big j then .ok (intsV i (j - i).toNat) t else .stuck
  | _ => .stuck
theorem ji_range1 {X : Cx} {W : WX} {tg a : Expr} {m : ME (List Val)} {p pos : Pos} (hm : X.mg "range" = none) (ha : JA X W [a] m) (hg : Gl X "range" := by rfl) (hs : starEach [a] X.env = [(false, eval a X.env)] := by rfl) : JI X W tg (.Call (.Name "range" p) [a] [] pos) (mL fRange1 m) :=
  PI.imp (pi_range1 hg hm ha hs) fun σ H R ⟨w, ρ, t, rt, rr, p⟩ => by
    refine ⟨w, ρ, t, rt, rr, PostE.imp (PostE.bind p) fun w1 H1 v t1 e1 s1 r1 q xs rx => ?_⟩
    have q1 := q t1 e1 r1
    unfold fRange1 at q1
    split at q1
    · cases rx with
      | cons ra rb =>
        cases ra
        cases rb
        split at q1
        · rename_i hb
          obtain ⟨h1, h2⟩ := big_ok hb
          exact ⟨_, rfl, h1, h2, q1.here r1 _ ItOk.range⟩
        · exact q1.elim
    · exact q1.elim
theorem ji_range2 {X : Cx} {W : WX} {tg a b : Expr} {m : ME (List Val)} {p pos : Pos} (hm : X.mg "range" = none) (ha : JA X W [a, b] m) (hg : Gl X "range" := by rfl) (hs : starEach [a, b] X.env = [(false, eval a X.env), (false, eval b X.env)] := by rfl) (hs2 : starEach [b] X.env = [(false, eval b X.env)] := by rfl) : JI X W tg (.Call (.Name "range" p) [a, b] [] pos) (mL fRange2 m) :=
  PI.imp (pi_range2 hg hm ha hs hs2) fun σ H R ⟨w, ρ, t, rt, rr, p⟩ => by
    refine ⟨w, ρ, t, rt, rr, PostE.imp (PostE.bind p) fun w1 H1 v t1 e1 s1 r1 q xs rx => ?_⟩
    have q1 := q t1 e1 r1
    unfold fRange2 at q1
    split at q1
    · cases rx with
      | cons ra rb =>
        cases ra
        cases rb with
        | cons rb rc =>
          cases rb
          cases rc
          split at q1
          · rename_i hb
            obtain ⟨hb1, hb2⟩ := Bool.and_eq_true_iff.mp hb
            obtain ⟨h1, h2⟩ := big_ok hb1
            obtain ⟨h3, h4⟩ := big_ok hb2
            exact ⟨_, _, rfl, ⟨h1, h2, h3, h4⟩, q1.here r1 _ ItOk.range⟩
          · exact q1.elim
    · exact q1.elim

def turnS (r : RS) (f : Rho → T → RS) : RS := match r with
  | .nx ρ t => f ρ t
  | .ct ρ t => f ρ t
  | .bk ρ t => .nx ρ t
  | r => r
def forM (f : Val → Rho → Option Rho) (b : MS) : List Val → Rho → T → RS
  | [], ρ, t => .nx ρ t
  | v :: vs, ρ, t => match f v ρ with
    | none => .stuck
    | some ρ => turnS (b ρ t) (forM f b vs)
def sFor (f : Val → Rho → Option Rho) (mi : ME (List Val)) (b : MS) : MS := fun ρ t => (mi ρ t).toS ρ fun vs t => forM f b vs ρ t
theorem PostS.turn {K : PySem.W.Frag} {W : WX} {w : Wd} {H : Hp} {D : Ends} {N : L2.St → Hp → Prop} {r : RS} {f : Rho → T → RS}
    (h : ∀ ρ t, (r = .nx ρ t ∨ r = .ct ρ t) → ∀ w' H' σ', Step w H w' H' → RelT K w' t H' → RelR K w' ρ σ' H' → N σ' H')
    (k : PostS K W w H D (turnS r f)) : PostS K W w H { D with nx := N, ct := N, bk := D.nx } r := by
  cases r with
  | nx ρ t => exact h ρ t (.inl rfl)
  | ct ρ t => exact h ρ t (.inr rfl)
  | bk ρ t => exact k
  | rt v t => exact k
  | exc x ρ t => exact k
  | stuck => exact k
theorem js_for {X : Cx} {W : WX} {tg iter : Expr} {body : List Stmt} {is : List Nat} {f : Val → Rho → Option Rho} {mi : ME (List Val)} {b : MS} {pos : Pos} (hp : PassesOwn (model X.prog X.w) X.A X.env X.xe) (hc : X.calm = true) (hi : JI X W tg iter mi) (hg : JG X tg is f) (hb : JSs X W body b)
    (hs : ∀ x, foldedSetIterable iter X.env x = pure x := by intro _; rfl) : JS X W (.For tg iter body [] pos) (sFor f mi b) := by
  obtain ⟨g, pg, nt⟩ := hg.ex
  refine PS.imp (ps_for hp hc hi pg hb hs) fun D σ H ⟨w, ρ, t, rt, rr, p⟩ => ?_
  refine ⟨w, ρ, t, rt, rr, PostE.imp (PostS.expr rr p) fun w1 H1 vs t1 e1 s1 r1 q J ok => ?_⟩
  have q1 := q t1 e1
  refine ⟨fun i m σ' H' => m = vs.length - i ∧ i ≤ vs.length ∧ ∃ w' ρ' t', Step w1 H1 w' H' ∧ RelT X.K w' t' H' ∧ RelR X.K w' ρ' σ' H' ∧ PostS X.K W w' H' D (forM f b (vs.drop i) ρ' t'), ⟨_, rfl, Nat.zero_le _, w1, ρ, t1, Step.refl _ _, r1, rr.mono s1, by simpa using q1⟩, ?_⟩
  rintro i m σ' H' ⟨rfl, hi, w', ρ', t', s', r', rr', pp⟩
  by_cases hl : i < vs.length
  · right
    have ed : vs.drop i = vs[i] :: vs.drop (i + 1) := List.drop_eq_getElem_cons hl
    rw [ed] at pp
    unfold forM at pp
    obtain ⟨hg1, hy⟩ := ok.go i vs[i] w' H' t' (List.getElem?_eq_getElem hl) s'.fz r'
    refine ⟨hg1, fun σ2 H2 => ∃ m', m' < vs.length - i ∧ (m' = vs.length - (i + 1) ∧ i + 1 ≤ vs.length ∧ ∃ w2 ρ2 t2, Step w1 H1 w2 H2 ∧ RelT X.K w2 t2 H2 ∧ RelR X.K w2 ρ2 σ2 H2 ∧ PostS X.K W w2 H2 D (forM f b (vs.drop (i + 1)) ρ2 t2)), fun σ2 H2 h => h, fun x H'' hx => ?_⟩
    obtain ⟨hy1, vy⟩ := hy x H'' hx
    obtain ⟨sy, ry⟩ : Step w' H' w' H'' ∧ RelT X.K w' t' H'' := by
      rcases hy1 with rfl | ⟨T, o, hT, rfl⟩
      · exact ⟨Step.refl _ _, r'⟩
      · exact ⟨step_new r' hT, r'.new hT⟩
    split at pp
    · exact pp.elim
    · rename_i ρ3 ef
      refine nt w' ρ' ρ3 σ' H'' x vs[i] _ (rr'.mono sy) vy ef fun σ3 _ _ rr3 => ?_
      refine ⟨w', ρ3, t', ry, rr3, PostS.turn (f := forM f b (vs.drop (i + 1))) (fun ρ4 t4 h4 w4 H4 σ4 s4 r4 rr4 => ?_) (PostS.from sy pp)⟩
      refine ⟨_, by omega, rfl, hl, w4, ρ4, t4, s'.trans (sy.trans s4), r4, rr4, PostS.from (sy.trans s4) ?_⟩
      rcases h4 with h4 | h4 <;> (rw [h4] at pp; exact pp)
  · left
    have ei : i = vs.length := Nat.le_antisymm hi (Nat.le_of_not_lt hl)
    subst ei
    rw [List.drop_length] at pp
    exact ⟨ok.stop w' H' t' s'.fz r', pp w' H' σ' (Step.refl _ _) r' rr'⟩

def whileM (c : ME Bool) (b : MS) : Nat → Rho → T → RS
  | 0, _, _ => .stuck
  | n + 1, ρ, t => (c ρ t).toS ρ fun k t => if k then turnS (b ρ t) (whileM c b n) else .nx ρ t
theorem js_while {X : Cx} {W : WX} {c : Expr} {body : List Stmt} {mc : ME Bool} {b : MS} {pos : Pos} (n : Nat) (hp : PassesOwn (model X.prog X.w) X.A X.env X.xe) (hc : JT X W c mc) (hb : JSs X W body b) : JS X W (.While c body [] pos) (whileM mc b n) := by
  refine PS.imp (ps_while hp hc hb) fun D σ H ⟨w, ρ, t, rt, rr, p⟩ => ?_
  refine ⟨fun m σ' H' => ∃ w' ρ' t', RelT X.K w' t' H' ∧ RelR X.K w' ρ' σ' H' ∧ PostS X.K W w' H' D (whileM mc b m ρ' t'), ⟨n, w, ρ, t, rt, rr, p⟩, ?_⟩
  rintro m σ' H' ⟨w', ρ', t', r', rr', pp⟩
  cases m with
  | zero => exact pp.elim
  | succ m =>
    unfold whileM at pp
    refine ⟨w', ρ', t', r', rr', PostE.imp (PostS.expr rr' pp) fun w1 H1 k t1 e1 s1 r1 q => ?_⟩
    have q1 := q t1 e1
    cases k with
    | false => exact iteF (q1 w1 H1 σ' (Step.refl _ _) r1 (rr'.mono s1))
    | true =>
      refine iteT ⟨fun σ2 H2 => ∃ m', m' < m + 1 ∧ ∃ w2 ρ2 t2, RelT X.K w2 t2 H2 ∧ RelR X.K w2 ρ2 σ2 H2 ∧ PostS X.K W w2 H2 D (whileM mc b m' ρ2 t2), fun _ _ h => h, ?_⟩
      refine ⟨w1, ρ', t1, r1, rr'.mono s1, PostS.turn (f := whileM mc b m) (fun ρ4 t4 h4 w4 H4 σ4 s4 r4 rr4 => ?_) q1⟩
      refine ⟨m, Nat.lt_succ_self m, w4, ρ4, t4, r4, rr4, PostS.from s4 ?_⟩
      have q2 : PostS X.K W w1 H1 D (turnS (b ρ' t1) (whileM mc b m)) := q1
      rcases h4 with h4 | h4 <;> (rw [h4] at q2; exact q2)
end En
set_option Elab.async false
set_option linter.all false
set_option maxRecDepth 100000
set_option maxHeartbeats 1000000
set_option autoImplicit false
namespace En
open PySem PySem.Spec PyProof.Rows L2

open Classical in
noncomputable def rem (H : Hp) (D : Addr) : Hp := fun a => if a = D then none else H a
theorem rem_ne {H : Hp} {D a : Addr} (h : a ≠ D) : rem H D a = H a := if_neg h
theorem rem_self {H : Hp} {D : Addr} : rem H D D = none := if_pos rfl
theorem rem_some {H : Hp} {D a : Addr} {o : HO} (h : rem H D a = some o) : a ≠ D ∧ H a = some o := by
  by_cases e : a = D
  · rw [e, rem_self] at h; cases h
  · exact ⟨e, by rw [rem_ne e] at h; exact h⟩
theorem rem_upd {H : Hp} {D : Addr} {o : HO} : rem (upd H D o) D = rem H D := by
  funext a
  by_cases e : a = D
  · rw [e, rem_self, rem_self]
  · rw [rem_ne e, rem_ne e, upd_ne e]
theorem upd_rem {H : Hp} {D : Addr} {o : HO} (h : H D = some o) : upd (rem H D) D o = H := by
  funext a
  by_cases e : a = D
  · rw [e, upd_same, h]
  · rw [upd_ne e, rem_ne e]
theorem rem_none {H : Hp} {D : Addr} (h : H D = none) : rem H D = H := by
  funext a
  by_cases e : a = D
  · rw [e, rem_self, h]
  · rw [rem_ne e]
def Wd.hide (w : Wd) (D : Addr) : Wd := { w with hid := D :: w.hid }
theorem Fz.hide {w : Wd} {H : Hp} {D : Addr} : Fz (w.hide D) H = Fz w (rem H D) := by
  funext a
  unfold Fz
  by_cases e : a = D
  · subst e
    rw [if_pos (show (w.hide a).mut a from .inl (List.mem_cons_self ..)), rem_self]
    split <;> rfl
  · rw [rem_ne e]
    by_cases m : w.mut a
    · rw [if_pos m, if_pos (show (w.hide D).mut a from m.elim (fun z => .inl (List.mem_cons_of_mem _ z)) .inr)]
    · rw [if_neg m, if_neg (show ¬ (w.hide D).mut a from fun z => m (z.elim (fun z => (List.mem_cons.mp z).elim (fun z => absurd z e) .inl) .inr))]
section
variable {K : PySem.W.Frag} {w : Wd} {t : T} {H : Hp} {D : Addr}
theorem RepV.hide {x : V} {v : Val} : RepV K (w.hide D) H x v ↔ RepV K w (rem H D) x v := by
  cases v with
  | d d => show Rep K (Fz (w.hide D) H) x d ↔ Rep K (Fz w (rem H D)) x d; rw [Fz.hide]
  | loc n => exact Iff.rfl
  | box => exact Iff.rfl
theorem RepVs.hide {xs : List V} {vs : List Val} : RepVs K (w.hide D) H xs vs ↔ RepVs K w (rem H D) xs vs := by
  constructor
  · intro h
    induction h with
    | nil => exact .nil
    | cons h _ ih => exact .cons (RepV.hide.mp h) ih
  · intro h
    induction h with
    | nil => exact .nil
    | cons h _ ih => exact .cons (RepV.hide.mpr h) ih
theorem RepVK.hide {κ : Type} {xs : List (κ × V)} {vs : List (κ × Val)} : RepVK K (w.hide D) H xs vs ↔ RepVK K w (rem H D) xs vs := by
  constructor
  · intro h
    induction h with
    | nil => exact .nil
    | cons h _ ih => exact .cons (RepV.hide.mp h) ih
  · intro h
    induction h with
    | nil => exact .nil
    | cons h _ ih => exact .cons (RepV.hide.mpr h) ih
theorem CellOk.hide {a : Addr} {c : Cell} (n : a ≠ D) : CellOk K (w.hide D) H a c ↔ CellOk K w (rem H D) a c := by
  cases c with
  | dead => exact Iff.rfl
  | lst vs => unfold CellOk; dsimp only; rw [rem_ne n]; exact exists_congr fun xs => and_congr Iff.rfl RepVs.hide
  | ins c fs => unfold CellOk; dsimp only; rw [rem_ne n]; exact exists_congr fun dx => exists_congr fun xs => and_congr Iff.rfl RepVK.hide
  | dK kvs => unfold CellOk; dsimp only; rw [rem_ne n]; exact exists_congr fun xs => and_congr Iff.rfl RepVK.hide
  | dT kvs => unfold CellOk; dsimp only; rw [rem_ne n, Fz.hide]; exact exists_congr fun o => exists_congr fun es => exists_congr fun ep => exists_congr fun xs => and_congr Iff.rfl (and_congr Iff.rfl (and_congr Iff.rfl RepVK.hide))
theorem BoxOk.rem {b : Box} {x l : Addr} (h : BoxOk (rem H D) b x l) : x ≠ D ∧ l ≠ D ∧ BoxOk H b x l := ⟨(rem_some h.2).1, (rem_some h.1).1, (rem_some h.1).2, (rem_some h.2).2⟩
theorem RelT.hide {o : HO} (r : RelT K w t (rem H D)) (h : H D = some o) : RelT K (w.hide D) t H where
  hidn := fun a ha => by
    rcases List.mem_cons.mp ha with e | ha
    · subst e; exact ⟨o, h⟩
    · obtain ⟨u, e⟩ := r.hidn a ha
      exact ⟨u, (rem_some e).2⟩
  len := r.len
  inj := r.inj
  out := fun a ha => by
    obtain ⟨h1, h2⟩ := r.out a ha
    refine ⟨fun z => ?_, h2⟩
    rcases List.mem_cons.mp z with e | z
    · obtain ⟨n, hn⟩ := List.getElem?_of_mem ha
      obtain ⟨c, _, ok⟩ := r.live hn
      obtain ⟨u, eu⟩ := ok.some
      exact (rem_some eu).1 e
    · exact h1 z
  cell := fun n c e => by
    rcases r.cell n c e with q | ⟨a, ha, ok⟩
    · exact .inl q
    · obtain ⟨u, eu⟩ := ok.some
      exact .inr ⟨a, ha, (CellOk.hide (rem_some eu).1).mpr ok⟩
  bon := r.bon
  box := fun b l e => by
    obtain ⟨h1, h2, h3, h4⟩ := r.box b l e
    obtain ⟨n1, n2, h5⟩ := h4.rem
    exact ⟨h1, fun z => (List.mem_cons.mp z).elim n1 h2, fun z => (List.mem_cons.mp z).elim n2 h3, h5⟩
theorem RelT.unhide (r : RelT K (w.hide D) t H) (hn : ∀ a ∈ w.hid, a ≠ D) : RelT K w t (rem H D) where
  hidn := fun a ha => by
    obtain ⟨u, e⟩ := r.hidn a (List.mem_cons_of_mem _ ha)
    exact ⟨u, by rw [rem_ne (hn a ha)]; exact e⟩
  len := r.len
  inj := r.inj
  out := fun a ha => by
    obtain ⟨h1, h2⟩ := r.out a ha
    exact ⟨fun z => h1 (List.mem_cons_of_mem _ z), h2⟩
  cell := fun n c e => by
    rcases r.cell n c e with q | ⟨a, ha, ok⟩
    · exact .inl q
    · exact .inr ⟨a, ha, (CellOk.hide (fun z => (r.out a (List.mem_of_getElem? ha)).1 (by rw [z]; exact List.mem_cons_self ..))).mp ok⟩
  bon := r.bon
  box := fun b l e => by
    obtain ⟨h1, h2, h3, h4⟩ := r.box b l e
    have n1 : b ≠ D := fun z => h2 (by rw [z]; exact List.mem_cons_self ..)
    have n2 : l ≠ D := fun z => h3 (by rw [z]; exact List.mem_cons_self ..)
    exact ⟨h1, fun z => h2 (List.mem_cons_of_mem _ z), fun z => h3 (List.mem_cons_of_mem _ z), h4.mono (rem_ne n2) (rem_ne n1)⟩
theorem Step.unhide {w' : Wd} {H' : Hp} (s : Step (w.hide D) H w' H') : ∃ w2 : Wd, w' = w2.hide D ∧ Step w (rem H D) w2 (rem H' D) := by
  obtain ⟨hid', as', bx'⟩ := w'
  have eh : hid' = D :: w.hid := s.hid
  subst eh
  refine ⟨⟨w.hid, as', bx'⟩, rfl, rfl, ?_, s.len, s.old, fun n a h e => ?_, s.bx, fun h b l e => ?_, fun a o h n => ?_, fun a o h => ?_⟩
  · have q := s.fz
    rw [Fz.hide, show (⟨D :: w.hid, as', bx'⟩ : Wd) = (⟨w.hid, as', bx'⟩ : Wd).hide D from rfl, Fz.hide] at q
    exact q
  · have q := s.new n a h e
    by_cases ea : a = D
    · rw [ea, rem_self]
    · rw [rem_ne ea]; exact q
  · obtain ⟨q1, q2⟩ := s.bnew h b l e
    refine ⟨?_, ?_⟩
    · by_cases ea : b = D
      · rw [ea, rem_self]
      · rw [rem_ne ea]; exact q1
    · by_cases ea : l = D
      · rw [ea, rem_self]
      · rw [rem_ne ea]; exact q2
  · obtain ⟨na, h⟩ := rem_some h
    rw [rem_ne na]
    exact s.keep a o h n
  · obtain ⟨na, h⟩ := rem_some h
    obtain ⟨o', e⟩ := s.there a o h
    exact ⟨o', by rw [rem_ne na]; exact e⟩
end

def wipeR (ρ : Rho) : List Nat → Rho
  | [] => ρ
  | v :: vs => (wipeR ρ vs).set v none
theorem RelR.wipe {K : PySem.W.Frag} {w : Wd} {H : Hp} {ρ : Rho} {σ : L2.St} (h : RelR K w ρ σ H) : ∀ vs : List Nat, RelR K w (wipeR ρ vs) (L2.wipe σ vs) H
  | [] => h
  | v :: vs => by
    have ih := RelR.wipe h vs
    refine ⟨by show ((wipeR ρ vs).set v none).length = ((L2.wipe σ vs).set v none).length; simp [ih.len], fun i u e => ?_⟩
    have e' : ((wipeR ρ vs).set v none)[i]? = some (some u) := e
    by_cases hv : v = i
    · subst hv
      have hl := (List.getElem?_eq_some_iff.mp e').1
      rw [List.length_set] at hl
      rw [List.getElem?_set_self hl] at e'
      cases e'
    · rw [List.getElem?_set_ne hv] at e'
      obtain ⟨x, e1, r⟩ := ih.at_ i u e'
      refine ⟨x, ?_, r⟩
      show ((L2.wipe σ vs).set v none)[i]? = _
      rw [List.getElem?_set_ne hv]
      exact e1
theorem wipe_get {σ : L2.St} {i : Nat} : ∀ {vs : List Nat}, (L2.wipe σ vs)[i]? = if i ∈ vs then (if i < σ.length then some none else none) else σ[i]?
  | [] => by simp [L2.wipe]
  | v :: vs => by
    have ih := wipe_get (σ := σ) (i := i) (vs := vs)
    unfold L2.wipe
    by_cases hv : v = i
    · subst hv
      rw [if_pos (List.mem_cons_self ..)]
      by_cases hl : v < σ.length
      · rw [if_pos hl, List.getElem?_set_self (by rw [L2.wipe_length]; exact hl)]
      · rw [if_neg hl, List.getElem?_eq_none_iff.mpr]
        rw [List.length_set, L2.wipe_length]
        exact Nat.le_of_not_lt hl
    · rw [List.getElem?_set_ne hv, ih]
      by_cases hm : i ∈ vs
      · rw [if_pos hm, if_pos (List.mem_cons_of_mem _ hm)]
      · rw [if_neg hm, if_neg (fun z => (List.mem_cons.mp z).elim (fun z => hv z.symm) hm)]
theorem wipe_same {σ σ' : L2.St} {is vs : List Nat} (hl : σ'.length = (L2.wipe σ vs).length) (ho : ∀ i : Nat, i ∉ is → σ'[i]? = (L2.wipe σ vs)[i]?) (hs : ∀ i ∈ is, i ∈ vs) : L2.wipe σ' vs = L2.wipe σ vs := by
  rw [L2.wipe_length] at hl
  apply List.ext_getElem?
  intro i
  rw [wipe_get, wipe_get]
  by_cases hm : i ∈ vs
  · rw [if_pos hm, if_pos hm, hl]
  · rw [if_neg hm, if_neg hm, ho i (fun z => hm (hs i z)), wipe_get, if_neg hm]
def R.bindN {α β : Type} (r : R α) (f : α → T → R β) : R β := match r with
  | .ok a t => f a t
  | _ => .stuck
abbrev W0 : WX := fun _ _ _ _ => False
def lcM (f : Val → Rho → Option Rho) (tt : ME Bool) (te : ME Val) (ρ : Rho) : List Val → List Val → T → R (List Val)
  | [], acc, t => .ok acc t
  | v :: vs, acc, t => match f v ρ with
    | none => .stuck
    | some ρ1 => (tt ρ1 t).bindN fun k t => if k then (te ρ1 t).bindN fun y t => if acc.length < lim then lcM f tt te ρ vs (acc ++ [y]) t else .stuck else lcM f tt te ρ vs acc t
def mLc (own : List Nat) (f : Val → Rho → Option Rho) (mi : ME (List Val)) (tt : ME Bool) (te : ME Val) : ME (List Val) := fun ρ t => (mi ρ t).bind fun vs t => lcM f tt te (wipeR ρ own) vs [] t
theorem PostE.bindN {K : PySem.W.Frag} {σ : L2.St} {α β : Type} {w : Wd} {H : Hp} {r : R α} {f : α → T → R β} (Q : R β → Prop) (hq : ¬ Q .stuck) (h : Q (r.bindN f)) : PostE K W0 σ w H (fun w1 H1 a => ∀ t, r = .ok a t → Q (f a t)) r := by
  cases r with
  | stuck => exact hq h
  | exc x t => exact (hq h).elim
  | ok a t =>
    intro w1 H1 s1 r1 t' et
    cases et
    exact h
theorem tlc_sim {K : PySem.W.Frag} {W : WX} {g : TG} {is own : List Nat} {f : Val → Rho → Option Rho} {mi : ME (List Val)} {tt : ME Bool} {te : ME Val} (nt : NT K g is f) (hs : ∀ i ∈ is, i ∈ own) :
    ∀ σ H Q, tML K W (mLc own f mi tt te) σ H Q → tLc (tMI K W mi) g (tMT K W0 tt) (tM K W0 te) own σ H Q := fun σ H Q ⟨w, ρ, t, rt, rr, p⟩ => by
  refine ⟨w, ρ, t, rt, rr, PostE.imp (PostE.bind p) fun w1 H1 vs t1 e1 s1 r1 q J ok D hD => ?_⟩
  have q1 := q t1 e1 r1
  have stk : ∀ (w' : Wd) (H' : Hp), ¬ PostE K W σ w' H' (fun w' H' vs => ∀ p xs, H' p = none → RepVs K w' H' xs vs → Q (.ref p) (upd H' p (.lst xs))) .stuck := fun _ _ z => z
  refine ⟨fun i m H' => m = vs.length - i ∧ i ≤ vs.length ∧ ∃ w' t' acc xs, Step w1 H1 w' (rem H' D) ∧ RelT K w' t' (rem H' D) ∧ H' D = some (.lst xs) ∧ RepVs K w' (rem H' D) xs acc ∧
    PostE K W σ w' (rem H' D) (fun w' H' vs => ∀ p xs, H' p = none → RepVs K w' H' xs vs → Q (.ref p) (upd H' p (.lst xs))) (lcM f tt te (wipeR ρ own) (vs.drop i) acc t'), ?_, ?_⟩
  · refine ⟨_, rfl, Nat.zero_le _, w1, t1, [], [], ?_⟩
    rw [rem_upd, rem_none hD]
    exact ⟨Step.refl _ _, r1, upd_same, .nil, by simpa using q1⟩
  · rintro i m H' ⟨rfl, hi, w', t', acc, xs, s', r', hx, rx, pp⟩
    have eu := upd_rem hx
    have rfull : RelT K w' t' H' := by rw [← eu]; exact r'.new rem_self
    have sfull : Step w' (rem H' D) w' H' := by
      have z := step_new (o := .lst xs) r' (p := D) rem_self
      rw [eu] at z
      exact z
    by_cases hl : i < vs.length
    · right
      have ed : vs.drop i = vs[i] :: vs.drop (i + 1) := List.drop_eq_getElem_cons hl
      rw [ed] at pp
      have rh : RelT K (w'.hide D) t' H' := r'.hide hx
      have exh : Ex (Fz w1 H1) (Fz (w'.hide D) H') := by rw [Fz.hide]; exact s'.fz
      obtain ⟨hg1, hy⟩ := ok.go i vs[i] (w'.hide D) H' t' (List.getElem?_eq_getElem hl) exh rh
      unfold lcM at pp
      refine ⟨hg1, fun H2 => ∃ m', m' < vs.length - i ∧ (m' = vs.length - (i + 1) ∧ i + 1 ≤ vs.length ∧ ∃ w' t' acc xs, Step w1 H1 w' (rem H2 D) ∧ RelT K w' t' (rem H2 D) ∧ H2 D = some (.lst xs) ∧ RepVs K w' (rem H2 D) xs acc ∧
        PostE K W σ w' (rem H2 D) (fun w' H' vs => ∀ p xs, H' p = none → RepVs K w' H' xs vs → Q (.ref p) (upd H' p (.lst xs))) (lcM f tt te (wipeR ρ own) (vs.drop (i + 1)) acc t')), fun _ h => h, fun x H'' hyx => ?_⟩
      obtain ⟨hy1, vy⟩ := hy x H'' hyx
      obtain ⟨sy, ry⟩ : Step (w'.hide D) H' (w'.hide D) H'' ∧ RelT K (w'.hide D) t' H'' := by
        rcases hy1 with rfl | ⟨T, o, hT, rfl⟩
        · exact ⟨Step.refl _ _, rh⟩
        · exact ⟨step_new rh hT, rh.new hT⟩
      split at pp
      · exact pp.elim
      · rename_i ρ1 ef
        have rrw : RelR K (w'.hide D) (wipeR ρ own) (L2.wipe σ own) H'' := by
          have z : RelR K w' ρ σ (rem H' D) := (rr.mono s1).mono s'
          have z2 : RelR K (w'.hide D) ρ σ H' := ⟨z.len, fun j v e => let ⟨y, e1, r⟩ := z.at_ j v e; ⟨y, e1, RepV.hide.mpr r⟩⟩
          exact (z2.mono sy).wipe own
        refine nt (w'.hide D) (wipeR ρ own) ρ1 (L2.wipe σ own) H'' x vs[i] _ rrw vy ef fun σ2 hl2 ho2 rr2 => ?_
        refine ⟨wipe_same hl2 ho2 hs, ?_⟩
        refine ⟨w'.hide D, ρ1, t', ry, rr2, PostE.imp (PostE.bindN (fun r => PostE K W σ w' (rem H' D) _ r) (stk _ _) pp) fun w3 H3 k t3 e3 s3 r3 q3 => ?_⟩
        have q4 := q3 t3 e3
        obtain ⟨w3', rfl, s3'⟩ := (sy.trans s3).unhide
        have hnD : ∀ a ∈ w3'.hid, a ≠ D := fun a ha => by
          rw [s3'.hid] at ha
          intro z
          obtain ⟨o, eo⟩ := r'.hidn a ha
          rw [z, rem_self] at eo; cases eo
        have r3' : RelT K w3' t3 (rem H3 D) := r3.unhide hnD
        have hD3 : H3 D = some (.lst xs) := (sy.trans s3).keep D _ hx fun z => by
          rcases z with z | z
          · obtain ⟨b, l, e, z⟩ := z
            obtain ⟨_, n1, n2, _⟩ := rh.box b l e
            rcases z with rfl | rfl
            · exact n1 (List.mem_cons_self ..)
            · exact n2 (List.mem_cons_self ..)
          · exact (rh.out D z).1 (List.mem_cons_self ..)
        cases k with
        | false =>
          refine iteF ⟨_, by omega, rfl, hl, w3', t3, acc, xs, s'.trans s3', r3', hD3, rx.mono s3', ?_⟩
          have z : PostE K W σ w' (rem H' D) (fun w' H' vs => ∀ p xs, H' p = none → RepVs K w' H' xs vs → Q (.ref p) (upd H' p (.lst xs))) (lcM f tt te (wipeR ρ own) (vs.drop (i + 1)) acc t3) := q4
          revert z
          cases lcM f tt te (wipeR ρ own) (vs.drop (i + 1)) acc t3 with
          | stuck => exact fun z => z
          | ok b tb => exact fun z w5 H5 s5 r5 => z w5 H5 (s3'.trans s5) r5
          | exc b tb => exact fun z w5 H5 cls d s5 r5 => z w5 H5 cls d (s3'.trans s5) r5
        | true =>
          refine iteT ?_
          refine ⟨w3'.hide D, ρ1, t3, r3, rr2.mono s3, PostE.imp (PostE.bindN (fun r => PostE K W σ w' (rem H' D) _ r) (stk _ _) q4) fun w5 H5 y t5 e5 s5 r5 q5 yv ry5 => ?_⟩
          have q6 := q5 t5 e5
          split at q6
          · rename_i hlen
            obtain ⟨w5', rfl, s5'⟩ := s5.unhide
            have hnD5 : ∀ a ∈ w5'.hid, a ≠ D := fun a ha => hnD a (by rw [← s5'.hid]; exact ha)
            have r5' : RelT K w5' t5 (rem H5 D) := r5.unhide hnD5
            have hD5 : H5 D = some (.lst xs) := s5.keep D _ hD3 fun z => by
              rcases z with z | z
              · obtain ⟨b, l, e, z⟩ := z
                obtain ⟨_, n1, n2, _⟩ := r3.box b l e
                rcases z with rfl | rfl
                · exact n1 (List.mem_cons_self ..)
                · exact n2 (List.mem_cons_self ..)
              · exact (r3.out D z).1 (List.mem_cons_self ..)
            refine ⟨xs, hD5, by rw [rx.length]; exact lim_lt hlen, _, by omega, rfl, hl, w5', t5, acc ++ [y], xs ++ [yv], ?_⟩
            rw [rem_upd]
            refine ⟨s'.trans (s3'.trans s5'), r5', upd_same, (rx.mono (s3'.trans s5')).app (.cons (RepV.hide.mp ry5) .nil), ?_⟩
            revert q6
            cases lcM f tt te (wipeR ρ own) (vs.drop (i + 1)) (acc ++ [y]) t5 with
            | stuck => exact fun z => z
            | ok b tb => exact fun z w6 H6 s6 r6 => z w6 H6 ((s3'.trans s5').trans s6) r6
            | exc b tb => exact fun z w6 H6 cls d s6 r6 => z w6 H6 cls d ((s3'.trans s5').trans s6) r6
          · exact q6.elim
    · left
      have ei : i = vs.length := Nat.le_antisymm hi (Nat.le_of_not_lt hl)
      subst ei
      rw [List.drop_length] at pp
      have exh : Ex (Fz w1 H1) (Fz (w'.hide D) H') := by rw [Fz.hide]; exact s'.fz
      refine ⟨ok.stop (w'.hide D) H' t' exh (r'.hide hx), ?_⟩
      have z : Q (.ref D) (upd (rem H' D) D (.lst xs)) := pp w' (rem H' D) (Step.refl _ _) r' D xs rem_self rx
      rw [eu] at z
      exact z
theorem ofL_sim {K : PySem.W.Frag} {W : WX} {m : ME (List Val)} : ∀ σ H Q, tM K W (mL fFz m) σ H Q → tML K W m σ H Q := fun σ H Q ⟨w, ρ, t, rt, rr, p⟩ => by
  refine ⟨w, ρ, t, rt, rr, PostE.imp (PostE.bind p) fun w1 H1 v t1 e1 s1 r1 q1 a xs ha rx => ?_⟩
  have q := q1 t1 e1 r1
  unfold fFz at q
  split at q
  · rename_i ds ed
    exact new_lst r1 (datas_rep ed rx) q a ha
  · exact q.elim
theorem new_sim {K : PySem.W.Frag} {W : WX} {m : ME (List Val)} : ∀ σ H Q, tM K W (mL fNew m) σ H Q → tML K W m σ H Q := fun σ H Q ⟨w, ρ, t, rt, rr, p⟩ => by
  refine ⟨w, ρ, t, rt, rr, PostE.imp (PostE.bind p) fun w1 H1 v t1 e1 s1 r1 q1 a xs ha rx => ?_⟩
  have q := q1 t1 e1 r1
  have ok : CellOk K (w1.add a) (upd H1 a (.lst xs)) a (.lst v) := ⟨xs, upd_same, rx.mono (step_add r1 ha)⟩
  exact q (w1.add a) _ (step_add r1 ha) (r1.add ha ok) _ (.inr ⟨a, by rw [← r1.len]; exact add_last w1 a, rfl⟩)
def JTs (X : Cx) (W : WX) (es : List Expr) (m : ME Bool) : Prop := PTs X es (tMT X.K W m)
def mYes : ME Bool := fun _ t => .ok true t
theorem PTs.imp {X : Cx} {e : List Expr} {t t' : TT} (h : PTs X e t) (k : ∀ σ H Q, t' σ H Q → t σ H Q) : PTs X e t' := ⟨fun pins s σ H Q I q => h.run pins s σ H Q I (k σ H Q q)⟩
theorem jts_nil {X : Cx} {W : WX} : JTs X W [] mYes := PTs.imp pts_nil fun σ H Q ⟨w, ρ, t, rt, rr, p⟩ => p.here rt
theorem jts_one {X : Cx} {W : WX} {c : Expr} {m : ME Bool} (h : JT X W c m) : JTs X W [c] m := pts_one h
theorem jl_lc {X : Cx} {W : WX} {elt tg iter : Expr} {ifs : List Expr} {scope : Scope} {pos : Pos} (own : List (Str × Nat)) {is : List Nat} {f : Val → Rho → Option Rho} {mi : ME (List Val)} {tt : ME Bool} {te : ME Val} (hc : X.calm = true) (hN : X.N.Nodup) (hi : JI X W tg iter mi) (ok : BlkOk X.N X.env.scope scope own)
    (hg : ∃ g, NT X.K g is f ∧ ∀ (s : Shared) (H : Hp) (C : Addr) (cl : List (Str × Addr)) (fp : List Addr), PG (X.blk s H scope (compEnvC scope cl C X.env) fp) tg g)
    (ht : ∀ (s : Shared) (H : Hp) (C : Addr) (cl : List (Str × Addr)) (fp : List Addr), JTs (X.blk s H scope (compEnvC scope cl C X.env) fp) W0 ifs tt)
    (he : ∀ (s : Shared) (H : Hp) (C : Addr) (cl : List (Str × Addr)) (fp : List Addr), JE (X.blk s H scope (compEnvC scope cl C X.env) fp) W0 elt te)
    (ho : ∀ i ∈ is, i ∈ own.map (·.2) := by decide) (hs : ∀ x, foldedSetIterable iter X.env x = pure x := by intro _; rfl) : JL X W (.ListComp elt [⟨tg, iter, ifs, 0⟩] scope pos) (mLc (own.map (·.2)) f mi tt te) := by
  obtain ⟨g, nt, pg⟩ := hg
  exact PE.imp (pe_lc (tt := tMT X.K W0 tt) (te := tM X.K W0 te) hc hN hi ok pg ht he hs) (tlc_sim nt ho)
theorem js_setLc {X : Cx} {W : WX} {i : Nat} {y : Str} {py : Pos} {elt tg iter : Expr} {ifs : List Expr} {scope : Scope} {pos spos : Pos} (own : List (Str × Nat)) {is : List Nat} {f : Val → Rho → Option Rho} {mi : ME (List Val)} {tt : ME Bool} {te : ME Val} (nw : Bool) (hc : X.calm = true) (hN : X.N.Nodup) (hy : X.N[i]? = some y) (hyl : X.env.scope.names.lookup y = some .local)
    (hsw : swapsWith (.ListComp elt [⟨tg, iter, ifs, 0⟩] scope pos) (some (.Name y py)) spos.line X.env = pure true) (hi : JI X W tg iter mi) (ok : BlkOk X.N X.env.scope scope own)
    (hg : ∃ g, NT X.K g is f ∧ ∀ (s : Shared) (H : Hp) (C : Addr) (cl : List (Str × Addr)) (fp : List Addr), PG (X.blk s H scope (compEnvC scope cl C X.env) fp) tg g)
    (ht : ∀ (s : Shared) (H : Hp) (C : Addr) (cl : List (Str × Addr)) (fp : List Addr), JTs (X.blk s H scope (compEnvC scope cl C X.env) fp) W0 ifs tt)
    (he : ∀ (s : Shared) (H : Hp) (C : Addr) (cl : List (Str × Addr)) (fp : List Addr), JE (X.blk s H scope (compEnvC scope cl C X.env) fp) W0 elt te)
    (ho : ∀ i ∈ is, i ∈ own.map (·.2) := by decide) (hs : ∀ x, foldedSetIterable iter X.env x = pure x := by intro _; rfl) :
    JS X W (.Assign [.Name y py] (.ListComp elt [⟨tg, iter, ifs, 0⟩] scope pos) spos) (sSet i (mL (if nw then fNew else fFz) (mLc (own.map (·.2)) f mi tt te))) := by
  obtain ⟨g, nt, pg⟩ := hg
  refine PS.imp (ps_setLc (i := i) (tt := tMT X.K W0 tt) (te := tM X.K W0 te) hc hN hy hyl hsw hi ok pg ht he hs) fun D σ H h => ?_
  refine tlc_sim (W := W) nt ho σ H _ ?_
  have z : tM X.K W (mL (if nw then fNew else fFz) (mLc (own.map (·.2)) f mi tt te)) σ H (fun x H1 => D.nx (σ.set i (some x)) H1) := by
    obtain ⟨w, ρ, t, rt, rr, p⟩ := h
    exact ⟨w, ρ, t, rt, rr, PostE.imp (PostS.expr rr p) fun w1 H1 v t1 e1 s1 r1 q x rx => q t1 e1 w1 H1 _ (Step.refl _ _) r1 ((rr.mono s1).set i rx)⟩
  cases nw with
  | true => exact new_sim σ H _ z
  | false => exact ofL_sim σ H _ z
end En
set_option Elab.async false
set_option linter.all false
set_option maxRecDepth 100000
set_option maxHeartbeats 1000000
set_option autoImplicit false
namespace En
open PySem PySem.Spec PyProof.Rows L2

abbrev MF := List Val → Box → R Val
def argOk : Val → Bool
  | .d _ => true
  | .box => true
  | .loc _ => false
def runG (n : Nat) (ms : MS) (vs : List Val) (t : T) : R Val := match ms (vs.map some ++ List.replicate (n - vs.length) none) t with
  | .rt v t => .ok v t
  | .nx _ t => .ok (.d .non) t
  | .exc x _ t => .exc x t
  | _ => .stuck
def runF (n : Nat) (ms : MS) : MF := fun vs b => runG n ms vs ⟨[], b⟩
def PostF (K : PySem.W.Frag) (w : Wd) (H : Hp) (Q : VK) (E : XK) : R Val → Prop
  | .ok v t => ∀ w' H' x, Step w H w' H' → RelT K w' t H' → RepV K w' H' x v → Q x H'
  | .exc x t => ∀ w' H' cls d, Step w H w' H' → RelT K w' t H' → ExcRep K (Fz w' H') cls d x → E cls d H'
  | .stuck => False
def spF (K : PySem.W.Frag) (n : Nat) (mf : MF) : Sp := fun vs H Q E => ∃ (w : Wd) (b : Box) (us : List Val), vs.length = n ∧ w.as = [] ∧ RelT K w ⟨[], b⟩ H ∧ RepVs K w H vs us ∧ PostF K w H Q E (mf us b)
def spG (K : PySem.W.Frag) (n : Nat) (mg : List Val → T → R Val) : Sp := fun vs H Q E => ∃ (w : Wd) (t : T) (us : List Val), vs.length = n ∧ RelT K w t H ∧ RepVs K w H vs us ∧ PostF K w H Q E (mg us t)
def Wd.inner (w : Wd) : Wd := ⟨w.hid ++ w.as.filterMap id, [], w.bx⟩
theorem inner_mem {w : Wd} {a : Addr} : a ∈ w.as.filterMap id ↔ some a ∈ w.as := by
  simp [List.mem_filterMap]
theorem inner_mut {w : Wd} {a : Addr} : w.inner.mut a ↔ w.mut a := by
  constructor
  · rintro (z | z | z)
    · rcases List.mem_append.mp z with z | z
      · exact .inl z
      · exact .inr (.inr (inner_mem.mp z))
    · exact .inr (.inl z)
    · exact absurd (show some a ∈ ([] : List (Option Addr)) from z) (by simp)
  · rintro (z | z | z)
    · exact .inl (List.mem_append_left _ z)
    · exact .inr (.inl z)
    · exact .inl (List.mem_append_right _ (inner_mem.mpr z))
theorem inner_fz {w : Wd} {H : Hp} : Fz w.inner H = Fz w H := by
  funext a
  unfold Fz
  by_cases m : w.mut a
  · rw [if_pos m, if_pos (inner_mut.mpr m)]
  · rw [if_neg m, if_neg (fun z => m (inner_mut.mp z))]
section
variable {K : PySem.W.Frag} {w : Wd} {t : T} {H : Hp}
theorem RelT.inner (r : RelT K w t H) : RelT K w.inner ⟨[], t.b⟩ H where
  hidn := fun a ha => by
    rcases List.mem_append.mp ha with z | z
    · exact r.hidn a z
    · obtain ⟨n, hn⟩ := List.getElem?_of_mem (inner_mem.mp z)
      obtain ⟨c, _, ok⟩ := r.live hn
      exact ok.some
  len := rfl
  inj := fun i j a h => by have h' : ([] : List (Option Addr))[i]? = some (some a) := h; simp at h'
  out := fun a h => by have h' : some a ∈ ([] : List (Option Addr)) := h; simp at h'
  cell := fun n c e => by have h' : ([] : List Cell)[n]? = some c := e; simp at h'
  bon := r.bon
  box := fun b l e => by
    obtain ⟨h1, h2, h3, h4⟩ := r.box b l e
    refine ⟨h1, fun z => ?_, fun z => ?_, h4⟩
    · rcases List.mem_append.mp z with z | z
      · exact h2 z
      · exact (r.out b (inner_mem.mp z)).2 ⟨b, l, e, .inl rfl⟩
    · rcases List.mem_append.mp z with z | z
      · exact h3 z
      · exact (r.out l (inner_mem.mp z)).2 ⟨b, l, e, .inr rfl⟩
theorem RepV.inner {x : V} {v : Val} (ok : argOk v = true) (h : RepV K w H x v) : RepV K w.inner H x v := by
  cases v with
  | d d => show Rep K (Fz w.inner H) x d; rw [inner_fz]; exact h
  | box => exact h
  | loc n => cases ok
theorem RepVs.inner {xs : List V} {vs : List Val} (ok : vs.all argOk = true) (h : RepVs K w H xs vs) : RepVs K w.inner H xs vs := by
  induction h with
  | nil => exact .nil
  | cons h _ ih =>
    rw [List.all_cons] at ok
    obtain ⟨o1, o2⟩ := Bool.and_eq_true_iff.mp ok
    exact .cons (h.inner o1) (ih o2)
theorem Step.outer {w' : Wd} {H' : Hp} (r : RelT K w t H) (s : Step w.inner H w' H') : Step w H w H' ∧ Ex (Fz w' H') (Fz w H') := by
  have sub : ∀ a, w.mut a → (∃ o, H a = some o) → w'.mut a := fun a m he => by
    rcases inner_mut.mpr m with z | z | z
    · exact .inl (by rw [s.hid]; exact z)
    · obtain ⟨b, l, e, z⟩ := z
      exact .inr (.inl ⟨b, l, s.bx _ e, z⟩)
    · exact absurd (show some a ∈ ([] : List (Option Addr)) from z) (by simp)
  have there : ∀ a, w.mut a → ∃ o, H a = some o := fun a m => by
    cases h : H a with
    | none => exact absurd m (r.mutn h)
    | some o => exact ⟨o, rfl⟩
  have ex : Ex (Fz w' H') (Fz w H') := fun a o e => by
    obtain ⟨h1, h2⟩ := Fz.of e
    exact Fz.to h1 fun m => h2 (sub a m (there a m))
  refine ⟨⟨rfl, fun a o e => ?_, Nat.le_refl _, fun _ _ _ h => h, fun n a h e => absurd (as_len e) (Nat.not_lt.mpr h), fun _ h => h, fun h b l e => (by rw [h] at e; cases e), fun a o h n => s.keep a o h fun z => ?_, s.there⟩, ex⟩
  · rw [← inner_fz] at e
    exact ex a o (s.fz a o e)
  · rcases z with z | z
    · exact n (.inl z)
    · exact absurd (show some a ∈ ([] : List (Option Addr)) from z) (by simp)
theorem RelT.outer {w' : Wd} {H' : Hp} {t' : T} (r : RelT K w t H) (s : Step w.inner H w' H') (r' : RelT K w' t' H') (hon : t'.b.on = t.b.on) : RelT K w { t with b := t'.b } H' where
  hidn := fun a ha => by
    obtain ⟨o, e⟩ := r.hidn a ha
    exact s.there a o e
  len := r.len
  inj := r.inj
  out := r.out
  cell := fun n c e => by
    rcases r.cell n c e with q | ⟨a, ha, ok⟩
    · exact .inl q
    · obtain ⟨u, eu⟩ := ok.some
      have ek : H' a = H a := by
        rw [eu]
        refine s.keep a u eu fun z => ?_
        rcases z with z | z
        · exact (r.out a (List.mem_of_getElem? ha)).2 z
        · exact absurd (show some a ∈ ([] : List (Option Addr)) from z) (by simp)
      exact .inr ⟨a, ha, ok.mono (Step.outer r s).1 ek⟩
  bon := hon.trans r.bon
  box := fun b l e => by
    obtain ⟨h1, h2, h3, _⟩ := r.box b l e
    obtain ⟨_, _, _, h4⟩ := r'.box b l (s.bx _ e)
    exact ⟨h1, h2, h3, h4⟩
end
mutual
theorem Rep.exc {K : PySem.W.Frag} {F F' : Hp} (e : Ex F F') {cls : Value} {d : Option Addr} {x : Exn} (h : ExcRep K F cls d x) : ExcRep K F' cls d x := by
  obtain ⟨h1, h2⟩ := h
  refine ⟨h1, ?_⟩
  rcases h2 with h2 | ⟨dd, xs, e1, e2, e3⟩
  · exact .inl h2
  · exact .inr ⟨dd, xs, e1, e _ _ e2, e3.mono e⟩
end
def fCall (mf : MF) (vs : List Val) (t : T) : R Val := if vs.all argOk then match mf vs t.b with
  | .ok (.d d) t' => if t'.b.on = t.b.on then .ok (.d d) { t with b := t'.b } else .stuck
  | .exc x t' => if t'.b.on = t.b.on then .exc x { t with b := t'.b } else .stuck
  | _ => .stuck
  else .stuck
theorem call_sim {K : PySem.W.Frag} {W : WX} {w : Wd} {t : T} {H : Hp} {σ : L2.St} {xs : List V} {vs : List Val} {n : Nat} {mf : MF} {Q : VK} (hn : xs.length = n) (r : RelT K w t H) (rx : RepVs K w H xs vs) (p : PostE K W σ w H (fun w' H' v => ∀ z, RepV K w' H' z v → Q z H') (fCall mf vs t)) : spF K n mf xs H Q (WE W σ) := by
  unfold fCall at p
  split at p
  · rename_i ok
    refine ⟨w.inner, t.b, vs, hn, rfl, r.inner, rx.inner ok, ?_⟩
    split at p
    · rename_i d t' e
      rw [e]
      split at p
      · rename_i hon
        intro w' H' x s r' rv
        obtain ⟨s1, ex⟩ := Step.outer r s
        exact p w H' s1 (r.outer s r' hon) x (Rep.mono ex rv)
      · exact p.elim
    · rename_i x t' e
      rw [e]
      split at p
      · rename_i hon
        intro w' H' cls dd s r' rv
        obtain ⟨s1, ex⟩ := Step.outer r s
        exact p w H' cls dd s1 (r.outer s r' hon) (Rep.exc ex rv)
      · exact p.elim
    · exact p.elim
  · exact p.elim
section
variable {X : Cx} {W : WX} {k n : Nat} {f : Addr} {fd : FuncData} {ps : List Str} {mf : MF} {x : Str} {p pos : Pos} {e : Expr} {es : List Expr} {m : ME (List Val)}
theorem je_call (F : FnOk X.prog X.w X.K X.mg X.base (L2.CX X.prog X.w) k f fd ps (spF X.K n mf)) (hr : Room k X.A) (hm : X.mg x = some (.ref f)) (hk : PySem.W.keepIn X.K (.ref f) = true) (hb : Binds X.K fd ps []) (tk : Takes X W) (ha : JA X W (e :: es) m) (hl : (e :: es).length = n := by rfl)
    (hg : Gl X x := by rfl) (hdb : (x == ("__debug__" : Str)) = false := by decide) (he : starEach (e :: es) X.env = (false, eval e X.env) :: starEach es X.env := by rfl) (hpl : (backTo pos (starEach es X.env)).any (·.1) = false := by rfl)
    (hla : ∀ ρ t vs t', m ρ t = .ok vs t' → vs.length = n) : JE X W (.Call (.Name x p) (e :: es) [] pos) (mL (fCall mf) m) :=
  PE.imp (pe_callSD (E := WE W) (dvs := []) F hr hg hm hk hb .nil (fun σ => passAt tk σ) ha hdb he hpl) fun σ H Q ⟨w, ρ, t, rt, rr, pp⟩ => by
    refine ⟨w, ρ, t, rt, rr, PostE.imp (PostE.bind pp) fun w1 H1 v t1 e1 s1 r1 q1 xs rx => ?_⟩
    show spF X.K n mf (xs ++ []) H1 Q (WE W σ)
    rw [List.append_nil]
    exact call_sim (by rw [rx.length]; exact hla ρ t v t1 e1) r1 rx (q1 t1 e1 r1)
end
theorem mCons_len {ma : ME Val} {mr : ME (List Val)} {n : Nat} (h : ∀ ρ t vs t', mr ρ t = .ok vs t' → vs.length = n) : ∀ ρ t vs t', mCons ma mr ρ t = .ok vs t' → vs.length = n + 1 := fun ρ t vs t' e => by
  unfold mCons at e
  cases h1 : ma ρ t with
  | stuck => rw [h1] at e; cases e
  | exc x y => rw [h1] at e; cases e
  | ok a t1 =>
    rw [h1] at e
    have e2 : (mr ρ t1).bind (fun xs t => .ok (a :: xs) t) = .ok vs t' := e
    cases h2 : mr ρ t1 with
    | stuck => rw [h2] at e2; cases e2
    | exc x y => rw [h2] at e2; cases e2
    | ok b t2 =>
      rw [h2] at e2
      cases e2
      simp [h ρ t1 b _ h2]
theorem mNil_len : ∀ ρ t vs t', mNil ρ t = .ok vs t' → vs.length = 0 := fun ρ t vs t' e => by
  cases e
  rfl
theorem start_rel {K : PySem.W.Frag} {w : Wd} {H : Hp} {N : List Str} {vs : List V} {us : List Val} (h : RepVs K w H vs us) : RelR K w (us.map some ++ List.replicate (N.length - us.length) none) (L2.start N vs) H := by
  unfold L2.start
  rw [h.length]
  refine ⟨by simp [h.length], fun i v e => ?_⟩
  by_cases hl : i < us.length
  · rw [List.getElem?_append_left (by simpa using hl)] at e
    rw [List.getElem?_map] at e
    obtain ⟨u, e1, e2⟩ := Option.map_eq_some_iff.mp e
    cases e2
    obtain ⟨x, ex, rx⟩ := h.get e1
    refine ⟨x, ?_, rx⟩
    rw [List.getElem?_append_left (by simp [h.length]; exact hl), List.getElem?_map, ex]
    rfl
  · rw [List.getElem?_append_right (by simpa using hl), List.getElem?_replicate] at e
    split at e <;> cases e
theorem jdG {P : Program} {wd : World} {K : PySem.W.Frag} {mg : Str → Option Value} {base : Heap} {x qual : Str} {params : Arguments} {body : List Stmt} {scope : Scope} {dvs : List V} {kws : List (Str × V)} {f : Addr} {fd : FuncData} {N ps : List Str} {k : Nat} {ms : MS}
    (F : FunD K x qual params body scope dvs kws f fd) (S : FnScope N ps scope)
    (hb : ∀ (cdv : Value) (A : Around) (outer : List Env) (s : Shared) (H : Hp) (E : XK), Room k (A.deeper (envOfC qual scope s.heap.objs.size f cdv)) → JSs (cxOf (L2.CX P wd) P wd K mg base N qual scope f cdv A outer s H E) (fun cls d _ H => E cls d H) body ms) :
    FnOk P wd K mg base (L2.CX P wd) (k + 1) f fd ps (spG K ps.length (runG N.length ms)) := by
  refine F.ok S (fun vs H Q E ⟨w, t, us, hl, _⟩ => hl) fun cdv A outer s H vs Q E hr ⟨w, t, us, hl, r, rv, p⟩ => ⟨_, hb cdv A outer s H E hr, ?_⟩
  refine ⟨w, us.map some ++ List.replicate (N.length - us.length) none, t, r, start_rel rv, ?_⟩
  unfold runG at p
  revert p
  cases ms (us.map some ++ List.replicate (N.length - us.length) none) t with
  | nx ρ t => exact fun p w' H' σ' s' r' _ => p w' H' .non s' r' Rep.non
  | rt v t => exact fun p w' H' x s' r' rx => p w' H' x s' r' rx
  | exc x ρ t => exact fun p w' H' σ' cls d s' r' _ ex => p w' H' cls d s' r' ex
  | bk ρ t => exact fun p => p.elim
  | ct ρ t => exact fun p => p.elim
  | stuck => exact fun p => p.elim
theorem jd {P : Program} {wd : World} {K : PySem.W.Frag} {mg : Str → Option Value} {base : Heap} {x qual : Str} {params : Arguments} {body : List Stmt} {scope : Scope} {dvs : List V} {kws : List (Str × V)} {f : Addr} {fd : FuncData} {N ps : List Str} {k : Nat} {ms : MS}
    (F : FunD K x qual params body scope dvs kws f fd) (S : FnScope N ps scope)
    (hb : ∀ (cdv : Value) (A : Around) (outer : List Env) (s : Shared) (H : Hp) (E : XK), Room k (A.deeper (envOfC qual scope s.heap.objs.size f cdv)) → JSs (cxOf (L2.CX P wd) P wd K mg base N qual scope f cdv A outer s H E) (fun cls d _ H => E cls d H) body ms) :
    FnOk P wd K mg base (L2.CX P wd) (k + 1) f fd ps (spF K ps.length (runF N.length ms)) :=
  (jdG F S hb).imp fun vs H Q E ⟨w, b, us, hl, _, r, rv, p⟩ => ⟨w, ⟨[], b⟩, us, hl, r, rv, p⟩
end En
set_option Elab.async false
set_option linter.all false
set_option maxRecDepth 100000
set_option maxHeartbeats 1000000
set_option autoImplicit false
namespace En
open PySem PySem.Spec PyProof.Rows L2

section
variable {K : PySem.W.Frag} {W : WX}
theorem RepVs.one {w : Wd} {H : Hp} {xs : List V} {v : Val} (h : RepVs K w H xs [v]) : ∃ x, xs = [x] ∧ RepV K w H x v := by
  cases h with
  | cons a b => cases b; exact ⟨_, rfl, a⟩
theorem RepVs.two {w : Wd} {H : Hp} {xs : List V} {u v : Val} (h : RepVs K w H xs [u, v]) : ∃ x y, xs = [x, y] ∧ RepV K w H x u ∧ RepV K w H y v := by
  cases h with
  | cons a b =>
    cases b with
    | cons b c => cases c; exact ⟨_, _, rfl, a, b⟩
def fLenB (vs : List Val) (t : T) : R Val := match vs with
  | [.d (.str x)] => if x.length ≤ lim then retI x.length t else .stuck
  | [.d (.scr ns)] => retI ns.length t
  | [v] => match asSeq v t with
    | some us => retI us.length t
    | none => .stuck
  | _ => .stuck
theorem c_len {X : Cx} : CallS X.K W (fun xs H Q => ∃ x n, xs = [x] ∧ LenV X.K x H n ∧ Q (.int n) H) fLenB := by
  intro w t σ H xs vs Q r rx p
  unfold fLenB at p
  split at p
  · obtain ⟨x, rfl, r1⟩ := rx.one
    cases r1
    split at p
    · rename_i hl
      exact ⟨_, _, rfl, ⟨lim_ok hl, rfl⟩, p.here r _ (Rep.int _)⟩
    · exact p.elim
  · rename_i ns
    obtain ⟨x, rfl, r1⟩ := rx.one
    have r1' : Rep X.K (Fz w H) x (.scr ns) := r1
    cases r1' with
    | scr h => exact ⟨_, ns.length, rfl, .inl ⟨_, Fz.ex.sqL h, by simp⟩, p.here r _ (Rep.int _)⟩
  · obtain ⟨x, rfl, r1⟩ := rx.one
    split at p
    · rename_i us eu
      obtain ⟨a, ys, rfl, hq, hs⟩ := asSeq_rep r r1 eu
      refine ⟨_, us.length, rfl, ?_, p.here r _ (Rep.int _)⟩
      rcases hq with hq | hq
      · exact .inl ⟨ys, hq, hs.length.symm⟩
      · exact .inr ⟨ys, hq, hs.length.symm⟩
    · exact p.elim
  · exact p.elim
def b2n (b : Bool) : Int := if b then 1 else 0
def fIntB (vs : List Val) (t : T) : R Val := match vs with
  | [.d (.int i)] => retI i t
  | [.d (.bl b)] => retI (if b then 1 else 0) t
  | [.d (.str x)] => (match PySem.intText? x with
    | some n => if x.length ≤ 640 then retI n t else .stuck
    | none => .stuck)
  | _ => .stuck
def rIntB : List V → Hp → VK → Prop := fun xs H Q => ((∃ i, xs = [.int i] ∧ Q (.int i) H) ∨ ∃ k, xs = [.bl k] ∧ Q (.int (if k then 1 else 0)) H) ∨ ∃ a n, xs = [.str a] ∧ PySem.intText? a = some n ∧ a.length ≤ 640 ∧ Q (.int n) H
theorem call_intB {X : Cx} : CallR X (.type "int") rIntB := CallR.or call_int1 call_int_str
theorem c_int : CallS K W rIntB fIntB := by
  intro w t σ H xs vs Q r rx p
  unfold fIntB at p
  split at p
  · obtain ⟨x, rfl, r1⟩ := rx.one
    cases r1
    exact .inl (.inl ⟨_, rfl, p.here r _ (Rep.int _)⟩)
  · obtain ⟨x, rfl, r1⟩ := rx.one
    cases r1
    exact .inl (.inr ⟨_, rfl, p.here r _ (Rep.int _)⟩)
  · obtain ⟨x, rfl, r1⟩ := rx.one
    cases r1
    split at p
    · rename_i n en
      split at p
      · rename_i hl
        exact .inr ⟨_, n, rfl, en, hl, p.here r _ (Rep.int _)⟩
      · exact p.elim
    · exact p.elim
  · exact p.elim
def fAbs (vs : List Val) (t : T) : R Val := match vs with
  | [.d (.int i)] => retI (if i < 0 then -i else i) t
  | _ => .stuck
def rAbs : List V → Hp → VK → Prop := fun xs H Q => ∃ i, xs = [.int i] ∧ Q (.int (if i < 0 then -i else i)) H
theorem c_abs : CallS K W rAbs fAbs := by
  intro w t σ H xs vs Q r rx p
  unfold fAbs at p
  split at p
  · obtain ⟨x, rfl, r1⟩ := rx.one
    cases r1
    exact ⟨_, rfl, p.here r _ (Rep.int _)⟩
  · exact p.elim
def fMin2 (vs : List Val) (t : T) : R Val := match vs with
  | [.d (.int i), .d (.int j)] => retI (if j < i then j else i) t
  | _ => .stuck
def rMin2 : List V → Hp → VK → Prop := fun xs H Q => ∃ i j, xs = [.int i, .int j] ∧ Q (.int (if j < i then j else i)) H
theorem c_min2 : CallS K W rMin2 fMin2 := by
  intro w t σ H xs vs Q r rx p
  unfold fMin2 at p
  split at p
  · obtain ⟨x, y, rfl, r1, r2⟩ := rx.two
    cases r1; cases r2
    exact ⟨_, _, rfl, p.here r _ (Rep.int _)⟩
  · exact p.elim
def fMax2 (vs : List Val) (t : T) : R Val := match vs with
  | [.d (.int i), .d (.int j)] => retI (if j > i then j else i) t
  | _ => .stuck
def rMax2 : List V → Hp → VK → Prop := fun xs H Q => ∃ i j, xs = [.int i, .int j] ∧ Q (.int (if j > i then j else i)) H
theorem c_max2 : CallS K W rMax2 fMax2 := by
  intro w t σ H xs vs Q r rx p
  unfold fMax2 at p
  split at p
  · obtain ⟨x, y, rfl, r1, r2⟩ := rx.two
    cases r1; cases r2
    exact ⟨_, _, rfl, p.here r _ (Rep.int _)⟩
  · exact p.elim
def fTuple (vs : List Val) (t : T) : R Val := match vs with
  | [.d (.tup ds)] => .ok (.d (.tup ds)) t
  | [v] => match asList v t with
    | some us => match datas us with
      | some ds => .ok (.d (.tup ds)) t
      | none => .stuck
    | none => .stuck
  | _ => .stuck
def rTuple (K : PySem.W.Frag) : List V → Hp → VK → Prop := fun xs H Q => ∃ p ys, xs = [.ref p] ∧ ((SqL K H p ys ∧ ∀ l, H l = none → Q (.ref l) (upd H l (.tup ys))) ∨ (SqT K H p ys ∧ Q (.ref p) H))
theorem c_tuple : CallS K W (rTuple K) fTuple := by
  intro w t σ H xs vs Q r rx p
  unfold fTuple at p
  split at p
  · rename_i ds
    obtain ⟨x, rfl, r1⟩ := rx.one
    obtain ⟨a, us, rfl, h1, h2⟩ := asTup_rep (v := .d (.tup ds)) r1 rfl
    exact ⟨a, us, rfl, .inr ⟨h1, p.here r _ r1⟩⟩
  · obtain ⟨x, rfl, r1⟩ := rx.one
    split at p
    · rename_i us eu
      split at p
      · rename_i ds ed
        obtain ⟨a, ys, rfl, h1, h2⟩ := asList_rep r r1 eu
        exact ⟨a, ys, rfl, .inl ⟨SqL.of h1, new_tup r (datas_rep ed h2) p⟩⟩
      · exact p.elim
    · exact p.elim
  · exact p.elim
def fListL (vs : List Val) (t : T) : R (List Val) := match vs with
  | [.d (.scr ns)] => .ok (ns.map fun n => .d (.int n)) t
  | [v] => match asSeq v t with
    | some us => .ok us t
    | none => .stuck
  | _ => .stuck
theorem repvs_ints {w : Wd} {H : Hp} : ∀ ns : List Int, RepVs K w H (ns.map V.int) (ns.map fun n => .d (.int n))
  | [] => .nil
  | n :: ns => .cons (Rep.int n) (repvs_ints ns)
end
theorem jl_list {X : Cx} {W : WX} {e : Expr} {m : ME (List Val)} {p pos : Pos} (hm : X.mg "list" = none) (ha : JA X W [e] m) (hg : Gl X "list" := by rfl) (he : starEach [e] X.env = (false, eval e X.env) :: starEach [] X.env := by rfl) (hpl : (backTo pos (starEach [] X.env)).any (·.1) = false := by rfl) : JL X W (.Call (.Name "list" p) [e] [] pos) (mL fListL m) :=
  PE.imp (pe_callTy call_list_of hg hm (by decide +kernel) ha (by decide) (by decide) he hpl) fun σ H Q ⟨w, ρ, t, rt, rr, pp⟩ => by
    refine ⟨w, ρ, t, rt, rr, PostE.imp (PostE.bind pp) fun w1 H1 v t1 e1 s1 r1 q1 xs rx => ?_⟩
    have q := q1 t1 e1 r1
    unfold fListL at q
    split at q
    · rename_i ns
      obtain ⟨x, rfl, ra⟩ := rx.one
      have ra' : Rep X.K (Fz w1 H1) x (.scr ns) := ra
      cases ra' with
      | scr h => exact ⟨_, _, rfl, .inl (Fz.ex.sqL h), fun l hl => q.here r1 l _ hl (repvs_ints ns)⟩
    · obtain ⟨x, rfl, ra⟩ := rx.one
      split at q
      · rename_i us eu
        obtain ⟨a, ys, rfl, hq, hs⟩ := asSeq_rep r1 ra eu
        exact ⟨a, ys, rfl, hq, fun l hl => q.here r1 l ys hl hs⟩
      · exact q.elim
    · exact q.elim
def fAddL (a b : Val) (t : T) : R (List Val) := match asList a t, asList b t with
  | some xs, some ys => if xs.length + ys.length ≤ lim then .ok (xs ++ ys) t else .stuck
  | _, _ => .stuck
theorem jl_add {X : Cx} {W : WX} {a b : Expr} {ma mb : ME Val} {pos : Pos} (ha : JE X W a ma) (hb : JE X W b mb) : JL X W (.BinOp a .Add b pos) (m2 fAddL ma mb) :=
  PE.imp (pe_op op_cat ha hb) fun σ H Q ⟨w, ρ, t, rt, rr, p⟩ => by
    refine ⟨w, ρ, t, rt, rr, PostE.imp (PostE.bind p) fun w1 H1 v t1 e1 s1 r1 q1 x rx => ?_⟩
    refine ⟨w1, ρ, t1, r1, rr.mono s1, PostE.imp (PostE.bind (q1 t1 e1 r1)) fun w2 H2 u t2 e2 s2 r2 q2 y ry => ?_⟩
    have q := q2 t2 e2 r2
    unfold fAddL at q
    split at q
    · rename_i xs ys ex ey
      split at q
      · rename_i hl
        obtain ⟨a1, us, rfl, h1, hs1⟩ := asList_rep r2 (rx.mono s2) ex
        obtain ⟨a2, us2, rfl, h2, hs2⟩ := asList_rep r2 ry ey
        exact ⟨a1, a2, us, us2, rfl, rfl, h1, h2, by rw [hs1.length, hs2.length]; exact lim_ok hl, fun l hl => q.here r2 l _ hl (hs1.app hs2)⟩
      · exact q.elim
    · exact q.elim
def fSlL (a : Val) (lo hi : Option Int) (t : T) : R (List Val) := match asList a t with
  | some vs => .ok (cut vs lo hi) t
  | none => .stuck
def mSlL (ma : ME Val) (ml mh : ME (Option Int)) : ME (List Val) := fun ρ t => (ma ρ t).bind fun x t => (ml ρ t).bind fun l t => (mh ρ t).bind fun h t => fSlL x l h t
theorem jl_sl {X : Cx} {W : WX} {e : Expr} {lo hi : Option Expr} {ma : ME Val} {ml mh : ME (Option Int)} {p2 pos : Pos} (he : JE X W e ma) (hl : JO X W lo ml) (hu : JO X W hi mh) : JL X W (.Subscript e (.Slice lo hi none p2) pos) (mSlL ma ml mh) :=
  PE.imp (pe_slice sl_list he hl hu) fun σ H Q ⟨w, ρ, t, rt, rr, p⟩ => by
    refine ⟨w, ρ, t, rt, rr, PostE.imp (PostE.bind p) fun w1 H1 v t1 e1 s1 r1 q1 x rx => ?_⟩
    refine ⟨w1, ρ, t1, r1, rr.mono s1, PostE.imp (PostE.bind (q1 t1 e1 r1)) fun w2 H2 l t2 e2 s2 r2 q2 => ?_⟩
    refine ⟨w2, ρ, t2, r2, (rr.mono s1).mono s2, PostE.imp (PostE.bind (q2 t2 e2 r2)) fun w3 H3 h t3 e3 s3 r3 q3 => ?_⟩
    have q := q3 t3 e3 r3
    unfold fSlL at q
    split at q
    · rename_i vs ev
      obtain ⟨a1, us, rfl, h1, hs1⟩ := asList_rep r3 ((rx.mono s2).mono s3) ev
      exact ⟨a1, us, rfl, SqL.of h1, fun l hl => q.here r3 l _ hl hs1.cut⟩
    · exact q.elim

def MtS (K : PySem.W.Frag) (W : WX) (r : V → List V → Hp → VK → Prop) (f : Val → List Val → T → R Val) : Prop :=
  ∀ (w : Wd) (t : T) (σ : L2.St) (H : Hp) (x : V) (xs : List V) (v : Val) (vs : List Val) (Q : VK), RelT K w t H → RepV K w H x v → RepVs K w H xs vs → PostE K W σ w H (fun w' H' v => ∀ z, RepV K w' H' z v → Q z H') (f v vs t) → r x xs H Q
def TyS (K : PySem.W.Frag) (ty : String) (tb : Val → T → Bool) : Prop := ∀ (w : Wd) (t : T) (H : Hp) (x : V) (v : Val), RelT K w t H → RepV K w H x v → tb v t = true → tyV K ty x H
def mMeth (tb : Val → T → Bool) (f : Val → List Val → T → R Val) (mo : ME Val) (ma : ME (List Val)) : ME Val := fun ρ t => (mo ρ t).bind fun v t => if tb v t then (ma ρ t).bind fun vs t => f v vs t else .stuck
def isStrB (v : Val) (_ : T) : Bool := match v with
  | .d (.str _) => true
  | _ => false
def isLstB (v : Val) (t : T) : Bool := (asList v t).isSome
theorem ty_str {K : PySem.W.Frag} : TyS K "str" isStrB := fun w t H x v r rx e => by
  unfold isStrB at e
  split at e
  · cases rx; rfl
  · cases e
theorem ty_lst {K : PySem.W.Frag} : TyS K "list" isLstB := fun w t H x v r rx e => by
  unfold isLstB at e
  obtain ⟨us, eu⟩ := Option.isSome_iff_exists.mp e
  obtain ⟨a, xs, rfl, h, _⟩ := asList_rep r rx eu
  exact .inl ⟨rfl, xs, SqL.of h⟩
section
variable {X : Cx} {W : WX} {o e : Expr} {es : List Expr} {ty id : String} {name : Str} {r : V → List V → Hp → VK → Prop} {f : Val → List Val → T → R Val} {tb : Val → T → Bool} {mo : ME Val} {ma : ME (List Val)} {apos cpos : Pos}
theorem je_bm (pa : PlainAttrs ty) (slot : Slot ty name id) (hty : typeOf (.builtin id) = pure (.type "method_descriptor")) (hm : MtR X id r) (hs : MtS X.K W r f) (ht : TyS X.K ty tb) (ho : JE X W o mo) (ha : JA X W (e :: es) ma)
    (hbase : attributeBase o name X.env (eval o X.env) = eval o X.env := by rfl)
    (hfew : ((backTo cpos (starEach (e :: es) X.env)).all (fun x => !x.1) && (backToKw cpos (keywordEach [] X.env)).all (fun x => x.1.isSome)
      && decide ((e :: es).length + ([] : List Keyword).length + (if ([] : List Keyword).isEmpty then 0 else 1) < 30)) = true := by rfl)
    (hline : (apos.endLine == cpos.line) = true := by rfl) (hs1 : starEach (e :: es) X.env = (false, eval e X.env) :: starEach es X.env := by rfl) (hplain : (backTo cpos (starEach es X.env)).any (·.1) = false := by rfl) :
    JE X W (.Call (.Attribute o name apos) (e :: es) [] cpos) (mMeth tb f mo ma) :=
  PE.imp (pe_bm pa slot hty hm ho ha hbase hfew hline hs1 hplain) fun σ H Q ⟨w, ρ, t, rt, rr, p⟩ => by
    refine ⟨w, ρ, t, rt, rr, PostE.imp (PostE.bind p) fun w1 H1 v t1 e1 s1 r1 q1 x rx => ?_⟩
    have q := q1 t1 e1 r1
    split at q
    · rename_i hb
      refine ⟨ht w1 t1 H1 x v r1 rx hb, w1, ρ, t1, r1, rr.mono s1, PostE.imp (PostE.bind q) fun w2 H2 vs t2 e2 s2 r2 q2 xs rxs => ?_⟩
      exact hs w2 t2 σ H2 x xs v vs Q r2 (rx.mono s2) rxs (q2 t2 e2 r2)
    · exact q.elim
theorem je_bm0 (pa : PlainAttrs ty) (slot : Slot ty name id) (hty : typeOf (.builtin id) = pure (.type "method_descriptor")) (hm : MtR X id r) (hs : MtS X.K W r f) (ht : TyS X.K ty tb) (ho : JE X W o mo)
    (hbase : attributeBase o name X.env (eval o X.env) = eval o X.env := by rfl) (hline : (apos.endLine == cpos.line) = true := by rfl) :
    JE X W (.Call (.Attribute o name apos) [] [] cpos) (mMeth tb f mo mNil) :=
  PE.imp (pe_bm0 pa slot hty hm ho hbase hline) fun σ H Q ⟨w, ρ, t, rt, rr, p⟩ => by
    refine ⟨w, ρ, t, rt, rr, PostE.imp (PostE.bind p) fun w1 H1 v t1 e1 s1 r1 q1 x rx => ?_⟩
    have q := q1 t1 e1 r1
    split at q
    · rename_i hb
      exact ⟨ht w1 t1 H1 x v r1 rx hb, hs w1 t1 σ H1 x [] v [] Q r1 rx .nil q⟩
    · exact q.elim
end
section
variable {K : PySem.W.Frag} {W : WX}
def putL (n : Nat) (vs : List Val) (t : T) : T := { t with st := t.st.set n (.lst vs) }
theorem loc_list {w : Wd} {t : T} {H : Hp} {x : V} {n : Nat} {vs : List Val} (r : RelT K w t H) (rx : RepV K w H x (.loc n)) (e : t.st[n]? = some (.lst vs)) : ∃ a xs, x = .ref a ∧ w.as[n]? = some (some a) ∧ H a = some (.lst xs) ∧ RepVs K w H xs vs := by
  obtain ⟨a, rfl, ha, xs, h1, h2⟩ := loc_live r rx e (fun z => by cases z)
  exact ⟨a, xs, rfl, ha, h1, h2⟩
theorem put_list {w : Wd} {t : T} {H : Hp} {n : Nat} {a : Addr} {ys : List V} {us : List Val} (r : RelT K w t H) (ha : w.as[n]? = some (some a)) (h : RepVs K w H ys us) : Step w H w (upd H a (.lst ys)) ∧ RelT K w (putL n us t) (upd H a (.lst ys)) :=
  ⟨step_wr r ha, r.wr ha ⟨ys, upd_same, h.mono (step_wr r ha)⟩⟩
def fAppend (v : Val) (vs : List Val) (t : T) : R Val := match v, vs with
  | .loc n, [u] => (match t.st[n]? with
    | some (.lst xs) => if xs.length < lim then .ok (.d .non) (putL n (xs ++ [u]) t) else .stuck
    | _ => .stuck)
  | _, _ => .stuck
theorem m_append : MtS K W rAppend fAppend := by
  intro w t σ H x xs v vs Q r rx rxs p
  unfold fAppend at p
  split at p
  · rename_i n u
    split at p
    · rename_i us eu
      split at p
      · rename_i hl
        obtain ⟨a, zs, rfl, ha, h1, h2⟩ := loc_list r rx eu
        obtain ⟨y, rfl, ry⟩ := rxs.one
        obtain ⟨s1, r1⟩ := put_list r ha (h2.app (.cons ry .nil))
        exact ⟨a, zs, y, rfl, rfl, h1, by rw [h2.length]; exact lim_lt hl, p w _ s1 r1 _ Rep.non⟩
      · exact p.elim
    · exact p.elim
  · exact p.elim
def fExtend (v : Val) (vs : List Val) (t : T) : R Val := match v, vs with
  | .loc n, [u] => (match t.st[n]?, asList u t with
    | some (.lst xs), some ys => if xs.length + ys.length ≤ lim then .ok (.d .non) (putL n (xs ++ ys) t) else .stuck
    | _, _ => .stuck)
  | _, _ => .stuck
theorem m_extend : MtS K W rExtend fExtend := by
  intro w t σ H x xs v vs Q r rx rxs p
  unfold fExtend at p
  split at p
  · rename_i n u
    split at p
    · rename_i us ys eu ey
      split at p
      · rename_i hl
        obtain ⟨a, zs, rfl, ha, h1, h2⟩ := loc_list r rx eu
        obtain ⟨y, rfl, ry⟩ := rxs.one
        obtain ⟨b, zs2, rfl, h3, h4⟩ := asList_rep r ry ey
        obtain ⟨s1, r1⟩ := put_list r ha (h2.app h4)
        exact ⟨a, b, zs, zs2, rfl, rfl, h1, h3, by rw [h2.length, h4.length]; exact lim_ok hl, p w _ s1 r1 _ Rep.non⟩
      · exact p.elim
    · exact p.elim
  · exact p.elim
theorem RepVs.dropLast {w : Wd} {H : Hp} : ∀ {xs : List V} {vs : List Val}, RepVs K w H xs vs → RepVs K w H xs.dropLast vs.dropLast
  | _, _, .nil => .nil
  | _, _, .cons _ .nil => .nil
  | _, _, .cons h (.cons h2 hs) => .cons h (RepVs.dropLast (.cons h2 hs))
theorem RepVs.eraseIdx {w : Wd} {H : Hp} : ∀ {xs : List V} {vs : List Val} (i : Nat), RepVs K w H xs vs → RepVs K w H (xs.eraseIdx i) (vs.eraseIdx i)
  | _, _, _, .nil => .nil
  | _, _, 0, .cons _ hs => hs
  | _, _, i + 1, .cons h hs => .cons h (RepVs.eraseIdx i hs)
theorem RepVs.set {w : Wd} {H : Hp} {x : V} {v : Val} (r : RepV K w H x v) : ∀ {xs : List V} {vs : List Val} (i : Nat), RepVs K w H xs vs → RepVs K w H (xs.set i x) (vs.set i v)
  | _, _, _, .nil => .nil
  | _, _, 0, .cons _ hs => .cons r hs
  | _, _, i + 1, .cons h hs => .cons h (RepVs.set r i hs)
def fPop (v : Val) (vs : List Val) (t : T) : R Val := match v, vs with
  | .loc n, [] => (match t.st[n]? with
    | some (.lst xs) => (match xs[xs.length - 1]? with
      | some u => .ok u (putL n xs.dropLast t)
      | none => .stuck)
    | _ => .stuck)
  | _, _ => .stuck
theorem m_pop : MtS K W rPop fPop := by
  intro w t σ H x xs v vs Q r rx rxs p
  unfold fPop at p
  split at p
  · rename_i n
    split at p
    · rename_i us eu
      split at p
      · rename_i u ei
        obtain ⟨a, zs, rfl, ha, h1, h2⟩ := loc_list r rx eu
        cases rxs
        obtain ⟨y, ey, ry⟩ := h2.get ei
        obtain ⟨s1, r1⟩ := put_list r ha h2.dropLast
        exact ⟨a, zs, y, rfl, rfl, h1, by rw [h2.length]; exact ey, p w _ s1 r1 _ (ry.mono s1)⟩
      · exact p.elim
    · exact p.elim
  · exact p.elim
def fPopAt (v : Val) (vs : List Val) (t : T) : R Val := match v, vs with
  | .loc n, [.d (.int i)] => (match t.st[n]? with
    | some (.lst xs) => if big i then (match seqIndex? i xs.length with
      | some k => (match xs[k]? with
        | some u => .ok u (putL n (xs.eraseIdx k) t)
        | none => .stuck)
      | none => .stuck) else .stuck
    | _ => .stuck)
  | _, _ => .stuck
theorem m_popAt : MtS K W rPopAt fPopAt := by
  intro w t σ H x xs v vs Q r rx rxs p
  unfold fPopAt at p
  split at p
  · rename_i n i
    split at p
    · rename_i us eu
      split at p
      · rename_i hb
        split at p
        · rename_i k ek
          split at p
          · rename_i u ei
            obtain ⟨a, zs, rfl, ha, h1, h2⟩ := loc_list r rx eu
            obtain ⟨y0, rfl, r0⟩ := rxs.one
            cases r0
            obtain ⟨y, ey, ry⟩ := h2.get ei
            obtain ⟨s1, r1⟩ := put_list r ha (h2.eraseIdx k)
            obtain ⟨b1, b2⟩ := big_ok hb
            exact ⟨a, zs, i, k, y, rfl, rfl, h1, by omega, by omega, by rw [h2.length]; exact ek, ey, p w _ s1 r1 _ (ry.mono s1)⟩
          · exact p.elim
        · exact p.elim
      · exact p.elim
    · exact p.elim
  · exact p.elim
def strsV : List Val → Option (List Str)
  | [] => some []
  | .d (.str x) :: r => match strsV r with
    | some xs => some (x :: xs)
    | none => none
  | _ :: _ => none
theorem strs_rep {w : Wd} {H : Hp} : ∀ {vs : List Val} {xs : List V} {ss : List Str}, strsV vs = some ss → RepVs K w H xs vs → xs = ss.map V.str
  | [], _, _, e, .nil => by cases e; rfl
  | v :: r, _, _, e, .cons h hs => by
    unfold strsV at e
    split at e
    · rename_i z
      cases z
    · rename_i x r' eq
      cases eq
      split at e
      · rename_i ys ey
        cases e
        cases h
        rw [strs_rep ey hs]
        rfl
      · cases e
    · cases e
def fJoin (v : Val) (vs : List Val) (t : T) : R Val := match v, vs with
  | .d (.str a), [u] => (match asSeq u t with
    | some us => (match strsV us with
      | some ss => if (ss.map (·.length)).sum + ss.length * a.length ≤ 16777216 then .ok (.d (.str (Txt.join a ss))) t else .stuck
      | none => .stuck)
    | none => .stuck)
  | _, _ => .stuck
def rJoin (K : PySem.W.Frag) : V → List V → Hp → VK → Prop := fun x xs H Q => ∃ a p, ∃ ys : List Str, x = .str a ∧ xs = [.ref p] ∧ (SqL K H p (ys.map V.str) ∨ SqT K H p (ys.map V.str)) ∧ (ys.map (·.length)).sum + ys.length * a.length ≤ 16777216 ∧ Q (.str (Txt.join a ys)) H
theorem m_join : MtS K W (rJoin K) fJoin := by
  intro w t σ H x xs v vs Q r rx rxs p
  unfold fJoin at p
  split at p
  · rename_i a u
    cases rx
    split at p
    · rename_i us eu
      split at p
      · rename_i ss es
        split at p
        · rename_i hl
          obtain ⟨y, rfl, ry⟩ := rxs.one
          obtain ⟨b, zs, rfl, hq, hs⟩ := asSeq_rep r ry eu
          have ez := strs_rep es hs
          subst ez
          exact ⟨a, b, ss, rfl, rfl, hq, hl, p.here r _ (Rep.str _)⟩
        · exact p.elim
      · exact p.elim
    · exact p.elim
  · exact p.elim
end
def sSub (mo mi mv : ME Val) : MS := fun ρ t => (mv ρ t).toS ρ fun v t => (mo ρ t).toS ρ fun o t => (mi ρ t).toS ρ fun i t => match o, i with
  | .loc n, .d (.int k) => (match t.st[n]? with
    | some (.lst xs) => (match ixN xs.length k with
      | some j => .nx ρ (putL n (xs.set j v) t)
      | none => .stuck)
    | _ => .stuck)
  | _, _ => .stuck
theorem js_sub {X : Cx} {W : WX} {o i e : Expr} {mo mi mv : ME Val} {pos' pos : Pos} (ho : JE X W o mo) (hi : JE X W i mi) (he : JE X W e mv)
    (ha : ∀ v, assign (.Subscript o i pos') X.env v = (do
      let ov ← holding [v] (eval o X.env)
      let iv ← holding [v, ov] (eval i X.env)
      standAt pos'
      holding [v, ov, iv] (setItem ov iv v)
      release [v, ov, iv] []) := by intro _; rfl)
    (hs : swapsWithSole [.Subscript o i pos'] e pos.line X.env = pure false := by rfl) (hw : swappedStores [.Subscript o i pos'] e X.env = pure none := by rfl) (h1 : (assignEach [.Subscript o i pos'] X.env).map (·.2) = [assign (.Subscript o i pos') X.env] := by rfl) :
    JS X W (.Assign [.Subscript o i pos'] e pos) (sSub mo mi mv) :=
  PS.imp (ps_asg he (pg_sub ho hi set_list ha) hs hw h1) fun D σ H ⟨w, ρ, t, rt, rr, p⟩ => by
    refine ⟨w, ρ, t, rt, rr, PostE.imp (PostS.expr rr p) fun w1 H1 v t1 e1 s1 r1 q x rx => ?_⟩
    refine ⟨w1, ρ, t1, r1, rr.mono s1, PostE.imp (PostS.expr (rr.mono s1) (q t1 e1)) fun w2 H2 ov t2 e2 s2 r2 q2 ox rox => ?_⟩
    refine ⟨w2, ρ, t2, r2, (rr.mono s1).mono s2, PostE.imp (PostS.expr ((rr.mono s1).mono s2) (q2 t2 e2)) fun w3 H3 iv t3 e3 s3 r3 q3 ix rix => ?_⟩
    have q4 := q3 t3 e3
    split at q4
    · rename_i n k
      split at q4
      · rename_i us eu
        split at q4
        · rename_i j ej
          obtain ⟨a, zs, rfl, hla, h1, h2⟩ := loc_list r3 (rox.mono s3) eu
          cases rix
          have rv := (rx.mono s2).mono s3
          obtain ⟨s5, r5⟩ := put_list r3 hla (h2.set rv j)
          exact ⟨a, zs, k, j, rfl, rfl, h1, by rw [h2.length]; exact ej, q4 w3 _ σ s5 r5 ((((rr.mono s1).mono s2).mono s3).mono s5)⟩
        · exact q4.elim
      · exact q4.elim
    · exact q4.elim
end En
set_option Elab.async false
set_option linter.all false
set_option maxRecDepth 100000
set_option maxHeartbeats 1000000
set_option autoImplicit false
namespace En
open PySem PySem.Spec PyProof.Rows L2

def dints (ns : List Int) : List Val := ns.map fun n => .d (.int n)
def boxCells (b : Box) : List Cell := [.lst (dints b.ns), .lst (if b.v then [.loc 0, .d (.int b.st)] else [.d (.int b.st), .loc 0, .d (.int b.ix)])]
def box0 : Box := ⟨false, true, 0, [], 0⟩
theorem ints_of {K : PySem.W.Frag} {w : Wd} {H : Hp} : ∀ {ns : List Int} {xs : List V}, RepVs K w H xs (dints ns) → xs = ns.map V.int
  | [], _, .nil => rfl
  | n :: ns, _, .cons h hs => by
    cases h
    rw [ints_of (ns := ns) hs]
    rfl
theorem box_of {K : PySem.W.Frag} {w : Wd} {H : Hp} {b : Box} {x l : Addr} (h0 : w.as[0]? = some (some l)) (c0 : CellOk K w H l (.lst (dints b.ns))) (c1 : CellOk K w H x (.lst (if b.v then [.loc 0, .d (.int b.st)] else [.d (.int b.st), .loc 0, .d (.int b.ix)]))) : BoxOk H b x l := by
  obtain ⟨xs, e0, r0⟩ := c0
  obtain ⟨ys, e1, r1⟩ := c1
  refine ⟨by rw [e0, ints_of r0], ?_⟩
  rw [e1]
  have lo : ∀ {y : V}, RepV K w H y (.loc 0) → y = .ref l := fun {y} h => by
    rcases h with h | ⟨a, h, e⟩
    · rw [h0] at h; cases h
    · rw [h0] at h; cases h; exact e
  cases hv : b.v with
  | true =>
    rw [hv] at r1
    cases r1 with
    | cons ra rb =>
      cases rb with
      | cons rb rc =>
        cases rc
        cases rb
        rw [lo ra]
        rfl
  | false =>
    rw [hv] at r1
    cases r1 with
    | cons ra rb =>
      cases rb with
      | cons rb rc =>
        cases rc with
        | cons rc rd =>
          cases rd
          cases ra
          cases rc
          rw [lo rb]
          rfl
theorem RelT.unbox {K : PySem.W.Frag} {w : Wd} {t : T} {H : Hp} {x l : Addr} (r : RelT K w t H) (e : w.bx = some (x, l)) : RelT K ⟨w.inner.hid, [some l, some x], none⟩ ⟨boxCells t.b, box0⟩ H := by
  obtain ⟨h1, h2, h3, h4⟩ := r.inner.box x l e
  refine ⟨r.inner.hidn, rfl, fun i j a ei ej => ?_, fun a ha => ?_, fun n c ec => ?_, rfl, fun b l' e' => (by cases e')⟩
  · match i, j with
    | 0, 0 => rfl
    | 1, 1 => rfl
    | 0, 1 =>
      simp at ei ej
      exact absurd (ej.trans ei.symm) h1
    | 1, 0 =>
      simp at ei ej
      exact absurd (ei.trans ej.symm) h1
    | i + 2, _ => simp at ei
    | 0, j + 2 => simp at ej
    | 1, j + 2 => simp at ej
  · have ha' : a = l ∨ a = x := by simpa using ha
    refine ⟨?_, fun ⟨b, l', e', _⟩ => by cases e'⟩
    rcases ha' with rfl | rfl
    · exact h3
    · exact h2
  · right
    match n with
    | 0 =>
      have ec' : Cell.lst (dints t.b.ns) = c := by simpa [boxCells] using ec
      subst ec'
      exact ⟨l, rfl, _, h4.1, repvs_ints _⟩
    | 1 =>
      have ec' : Cell.lst (if t.b.v then [.loc 0, .d (.int t.b.st)] else [.d (.int t.b.st), .loc 0, .d (.int t.b.ix)]) = c := by simpa [boxCells] using ec
      subst ec'
      refine ⟨x, rfl, _, h4.2, ?_⟩
      cases hv : t.b.v with
      | true => exact .cons (.inr ⟨l, rfl, rfl⟩) (.cons (Rep.int _) .nil)
      | false => exact .cons (Rep.int _) (.cons (.inr ⟨l, rfl, rfl⟩) (.cons (Rep.int _) .nil))
    | n + 2 => simp [boxCells] at ec
structure Draw where
  v : Bool
  go : Box → Int → Int × Box
def okN (n : Int) : Bool := decide (0 < n) && decide (n < 1073741824)
def DrawOk (d : Draw) (mg : List Val → T → R Val) : Prop := ∀ (b : Box) (n : Int), b.v = d.v → okN n = true → b.ns.length ≤ 1000 → mg [.loc 1, .d (.int n)] ⟨boxCells b, box0⟩ = .ok (.d (.int (d.go b n).1)) ⟨boxCells (d.go b n).2, box0⟩ ∧ (d.go b n).2.v = b.v ∧ (d.go b n).2.on = b.on
def fDraw (d : Draw) (vs : List Val) (t : T) : R Val := match vs with
  | [.box, .d (.int n)] => if okN n && (t.b.v == d.v) && decide (t.b.ns.length ≤ 1000) then .ok (.d (.int (d.go t.b n).1)) { t with b := (d.go t.b n).2 } else .stuck
  | _ => .stuck
theorem box_live {K : PySem.W.Frag} {w : Wd} {t : T} {H : Hp} {b : Box} {n : Nat} {c : Cell} {a : Addr} (r : RelT K w t H) (ha : w.as[n]? = some (some a)) (ht : t.st[n]? = some c) : CellOk K w H a c := by
  obtain ⟨c', e, ok⟩ := r.live ha
  rw [ht] at e
  cases e
  exact ok
theorem draw_sim {K : PySem.W.Frag} {W : WX} {w : Wd} {t : T} {H : Hp} {σ : L2.St} {xs : List V} {vs : List Val} {d : Draw} {mg : List Val → T → R Val} {Q : VK} (hd : DrawOk d mg) (r : RelT K w t H) (rx : RepVs K w H xs vs) (p : PostE K W σ w H (fun w' H' v => ∀ z, RepV K w' H' z v → Q z H') (fDraw d vs t)) : spG K 2 mg xs H Q (WE W σ) := by
  unfold fDraw at p
  split at p
  · rename_i n
    split at p
    · rename_i hc
      obtain ⟨c12, c3⟩ := Bool.and_eq_true_iff.mp hc
      obtain ⟨c1, c2⟩ := Bool.and_eq_true_iff.mp c12
      obtain ⟨y, z, rfl, ry, rz⟩ := rx.two
      cases rz
      obtain ⟨b, l, eb, rfl⟩ := ry
      have hv : t.b.v = d.v := by simpa using c2
      obtain ⟨he, hv2, hon⟩ := hd t.b n hv c1 (of_decide_eq_true c3)
      refine ⟨⟨w.inner.hid, [some l, some b], none⟩, ⟨boxCells t.b, box0⟩, [.loc 1, .d (.int n)], rfl, r.unbox eb, .cons (.inr ⟨b, rfl, rfl⟩) (.cons (Rep.int n) .nil), ?_⟩
      rw [he]
      intro w' H' x s r' rv
      cases rv
      have a0 : w'.as[0]? = some (some l) := by
        rcases r'.cell 0 _ rfl with ⟨z, _⟩ | ⟨a, ha, _⟩
        · cases z
        · have q := s.old 0 a (show 0 < 2 from by decide) ha
          have q' : some (some l) = some (some a) := q
          cases q'
          exact ha
      have a1 : w'.as[1]? = some (some b) := by
        rcases r'.cell 1 _ rfl with ⟨z, _⟩ | ⟨a, ha, _⟩
        · cases z
        · have q := s.old 1 a (show 1 < 2 from by decide) ha
          have q' : some (some b) = some (some a) := q
          cases q'
          exact ha
      have bo : BoxOk H' (d.go t.b n).2 b l := box_of a0 (box_live (b := t.b) r' a0 rfl) (box_live (b := t.b) r' a1 rfl)
      have wrr : ∀ a, (⟨w.inner.hid, [some l, some b], none⟩ : Wd).wr a ↔ w.inner.wr a := fun a => by
        constructor
        · rintro (⟨_, _, e, _⟩ | z)
          · cases e
          · have z' : a = l ∨ a = b := by simpa using z
            exact .inl ⟨b, l, eb, z'.symm⟩
        · rintro (⟨b', l', e, z⟩ | z)
          · have e' : w.bx = some (b', l') := e
            rw [eb] at e'
            cases e'
            exact .inr (by rcases z with rfl | rfl <;> simp)
          · exact absurd (show some a ∈ ([] : List (Option Addr)) from z) (by simp)
      have mm : ∀ a, (⟨w.inner.hid, [some l, some b], none⟩ : Wd).mut a ↔ w.mut a := fun a => by
        refine Iff.trans ?_ (inner_mut (w := w) (a := a))
        exact or_congr Iff.rfl (wrr a)
      have fzz : Fz (⟨w.inner.hid, [some l, some b], none⟩ : Wd) H = Fz w H := by
        funext a
        unfold Fz
        by_cases m : w.mut a
        · rw [if_pos m, if_pos ((mm a).mpr m)]
        · rw [if_neg m, if_neg (fun z => m ((mm a).mp z))]
      have sub : ∀ a, w.mut a → w'.mut a := fun a m => by
        rcases (mm a).mpr m with z | ⟨_, _, e, _⟩ | z
        · exact .inl (by rw [s.hid]; exact z)
        · cases e
        · have z' : a = l ∨ a = b := by simpa using z
          rcases z' with rfl | rfl
          · exact .inr (.inr (List.mem_of_getElem? a0))
          · exact .inr (.inr (List.mem_of_getElem? a1))
      have ex : Ex (Fz w' H') (Fz w H') := fun a o e => by
        obtain ⟨h1, h2⟩ := Fz.of e
        exact Fz.to h1 fun m => h2 (sub a m)
      have st : Step w H w H' := by
        refine ⟨rfl, fun a o e => ex a o (s.fz a o (by rw [fzz]; exact e)), Nat.le_refl _, fun _ _ _ h => h, fun n a h e => absurd (as_len e) (Nat.not_lt.mpr h), fun _ h => h, fun h b l e => (by rw [h] at e; cases e), fun a o h nn => s.keep a o h fun z => ?_, s.there⟩
        rcases (wrr a).mp z with z | z
        · exact nn (.inl z)
        · exact absurd (show some a ∈ ([] : List (Option Addr)) from z) (by simp)
      have rt : RelT K w { t with b := (d.go t.b n).2 } H' := by
        refine ⟨fun a ha => ?_, r.len, r.inj, r.out, fun m c e => ?_, hon.trans r.bon, fun b' l' e => ?_⟩
        · obtain ⟨o, eo⟩ := r.hidn a ha
          exact s.there a o eo
        · rcases r.cell m c e with q | ⟨a, ha, ok⟩
          · exact .inl q
          · obtain ⟨u, eu⟩ := ok.some
            have nb := (r.out a (List.mem_of_getElem? ha)).2
            have ek : H' a = H a := by
              rw [eu]
              refine s.keep a u eu fun z => ?_
              rcases (wrr a).mp z with z | z
              · exact nb z
              · exact absurd (show some a ∈ ([] : List (Option Addr)) from z) (by simp)
            exact .inr ⟨a, ha, ok.mono st ek⟩
        · obtain ⟨h1, h2, h3, _⟩ := r.box b' l' e
          rw [eb] at e
          cases e
          exact ⟨h1, h2, h3, bo⟩
      exact p w H' st rt _ (Rep.int _)
    · exact p.elim
  · exact p.elim
section
variable {X : Cx} {W : WX} {k : Nat} {f : Addr} {fd : FuncData} {ps : List Str} {mg : List Val → T → R Val} {x : Str} {p pos : Pos} {e e2 : Expr} {es : List Expr} {m : ME (List Val)}
theorem je_draw {d : Draw} (hd : DrawOk d mg) (F : FnOk X.prog X.w X.K X.mg X.base (L2.CX X.prog X.w) k f fd ps (spG X.K 2 mg)) (hr : Room k X.A) (hm : X.mg x = some (.ref f)) (hk : PySem.W.keepIn X.K (.ref f) = true) (hb : Binds X.K fd ps []) (tk : Takes X W) (ha : JA X W [e, e2] m)
    (hg : Gl X x := by rfl) (hdb : (x == ("__debug__" : Str)) = false := by decide) (he : starEach [e, e2] X.env = (false, eval e X.env) :: starEach [e2] X.env := by rfl) (hpl : (backTo pos (starEach [e2] X.env)).any (·.1) = false := by rfl) : JE X W (.Call (.Name x p) [e, e2] [] pos) (mL (fDraw d) m) :=
  PE.imp (pe_callSD (E := WE W) (dvs := []) F hr hg hm hk hb .nil (fun σ => passAt tk σ) ha hdb he hpl) fun σ H Q ⟨w, ρ, t, rt, rr, pp⟩ => by
    refine ⟨w, ρ, t, rt, rr, PostE.imp (PostE.bind pp) fun w1 H1 v t1 e1 s1 r1 q1 xs rx => ?_⟩
    show spG X.K 2 mg (xs ++ []) H1 Q (WE W σ)
    rw [List.append_nil]
    exact draw_sim hd r1 rx (q1 t1 e1 r1)
def BegunOk (n : Nat) (bg : List Val → Option Box) (mg : List Val → T → R Val) : Prop := ∀ (vs : List Val) (b : Box), bg vs = some b → vs.length = n ∧ vs.all argOk = true ∧ b.on = true ∧ mg vs ⟨[], box0⟩ = .ok (.loc 1) ⟨boxCells b, box0⟩
def fBegun (bg : List Val → Option Box) (vs : List Val) (t : T) : R Val := match bg vs with
  | some b => if t.b.on then .stuck else .ok .box { t with b := b }
  | none => .stuck
theorem begun_sim {K : PySem.W.Frag} {W : WX} {w : Wd} {t : T} {H : Hp} {σ : L2.St} {xs : List V} {vs : List Val} {n : Nat} {bg : List Val → Option Box} {mg : List Val → T → R Val} {Q : VK} (hd : BegunOk n bg mg) (r : RelT K w t H) (rx : RepVs K w H xs vs) (p : PostE K W σ w H (fun w' H' v => ∀ z, RepV K w' H' z v → Q z H') (fBegun bg vs t)) : spG K n mg xs H Q (WE W σ) := by
  unfold fBegun at p
  split at p
  · rename_i b eb
    split at p
    · exact p.elim
    · rename_i hon
      obtain ⟨hn, hok, hbo, hq⟩ := hd vs b eb
      have hb0 : w.bx = none := by
        have z := r.bon
        cases q : w.bx with
        | none => rfl
        | some y => rw [q] at z; exact absurd z hon
      have rin : RelT K w.inner ⟨[], box0⟩ H := by
        have z := r.inner
        exact ⟨z.hidn, z.len, z.inj, z.out, z.cell, by rw [show w.inner.bx = none from hb0]; rfl, fun b l e => by rw [show w.inner.bx = none from hb0] at e; cases e⟩
      refine ⟨w.inner, ⟨[], box0⟩, vs, by rw [rx.length]; exact hn, rin, rx.inner hok, ?_⟩
      rw [hq]
      intro w' H' x s r' rv
      obtain ⟨l, hl, c0⟩ : ∃ l, w'.as[0]? = some (some l) ∧ CellOk K w' H' l (.lst (dints b.ns)) := by
        rcases r'.cell 0 _ rfl with ⟨z, _⟩ | ⟨a, ha, ok⟩
        · cases z
        · exact ⟨a, ha, ok⟩
      obtain ⟨bb, hbb, c1⟩ : ∃ l, w'.as[1]? = some (some l) ∧ CellOk K w' H' l (.lst (if b.v then [.loc 0, .d (.int b.st)] else [.d (.int b.st), .loc 0, .d (.int b.ix)])) := by
        rcases r'.cell 1 _ rfl with ⟨z, _⟩ | ⟨a, ha, ok⟩
        · cases z
        · exact ⟨a, ha, ok⟩
      have bo : BoxOk H' b bb l := box_of hl c0 c1
      have nl : H l = none := s.new 0 l (Nat.zero_le _) hl
      have nb : H bb = none := s.new 1 bb (Nat.zero_le _) hbb
      have ex' : x = .ref bb := by
        rcases rv with z | ⟨a, ha, e⟩
        · rw [hbb] at z; cases z
        · rw [hbb] at ha; cases ha; exact e
      subst ex'
      obtain ⟨s1, ex⟩ := Step.outer r s
      have nbl : bb ≠ l := fun z => by
        have q := r'.inj 1 0 l (by rw [← z]; exact hbb) hl
        cases q
      have w2mut : ∀ a, (⟨w.hid, w.as, some (bb, l)⟩ : Wd).mut a → w.mut a ∨ a = bb ∨ a = l := fun a m => by
        rcases m with z | ⟨b', l', e, z⟩ | z
        · exact .inl (.inl z)
        · have e' : some (bb, l) = some (b', l') := e
          cases e'
          exact .inr z
        · exact .inl (.inr (.inr z))
      have st : Step w H ⟨w.hid, w.as, some (bb, l)⟩ H' := by
        refine ⟨rfl, fun a o e => ?_, Nat.le_refl _, fun _ _ _ h => h, fun n a h e => absurd (as_len e) (Nat.not_lt.mpr h), fun p h => (by rw [hb0] at h; cases h), fun _ b' l' e => ?_, fun a o h nn => s1.keep a o h nn, s1.there⟩
        · obtain ⟨h1, h2⟩ := Fz.of (s1.fz a o e)
          obtain ⟨h3, _⟩ := Fz.of e
          refine Fz.to h1 fun m => ?_
          rcases w2mut a m with z | z | z
          · exact h2 z
          · rw [z, nb] at h3; cases h3
          · rw [z, nl] at h3; cases h3
        · have e' : some (bb, l) = some (b', l') := e
          cases e'
          exact ⟨nb, nl⟩
      refine p ⟨w.hid, w.as, some (bb, l)⟩ H' st ?_ _ ⟨bb, l, rfl, rfl⟩
      refine ⟨fun a ha => ?_, r.len, r.inj, fun a ha => ?_, fun m c e => ?_, hbo, fun b' l' e => ?_⟩
      · obtain ⟨o, eo⟩ := r.hidn a ha
        exact s.there a o eo
      · refine ⟨(r.out a ha).1, fun ⟨b', l', e, z⟩ => ?_⟩
        have e' : some (bb, l) = some (b', l') := e
        cases e'
        obtain ⟨n, hn⟩ := List.getElem?_of_mem ha
        obtain ⟨c, _, ok⟩ := r.live hn
        obtain ⟨u, eu⟩ := ok.some
        rcases z with rfl | rfl
        · rw [nb] at eu; cases eu
        · rw [nl] at eu; cases eu
      · rcases r.cell m c e with q | ⟨a, ha, ok⟩
        · exact .inl q
        · obtain ⟨u, eu⟩ := ok.some
          have ek : H' a = H a := by
            rw [eu]
            refine s.keep a u eu fun z => ?_
            rcases z with ⟨b', l', e, z⟩ | z
            · rw [show w.inner.bx = none from hb0] at e; cases e
            · exact absurd (show some a ∈ ([] : List (Option Addr)) from z) (by simp)
          exact .inr ⟨a, ha, ok.mono st ek⟩
      · have e' : some (bb, l) = some (b', l') := e
        cases e'
        refine ⟨nbl, fun z => ?_, fun z => ?_, bo⟩
        · obtain ⟨o, eo⟩ := r.hidn bb z
          rw [nb] at eo; cases eo
        · obtain ⟨o, eo⟩ := r.hidn l z
          rw [nl] at eo; cases eo
  · exact p.elim
theorem je_begun {n : Nat} {bg : List Val → Option Box} (hd : BegunOk n bg mg) (F : FnOk X.prog X.w X.K X.mg X.base (L2.CX X.prog X.w) k f fd ps (spG X.K n mg)) (hr : Room k X.A) (hm : X.mg x = some (.ref f)) (hk : PySem.W.keepIn X.K (.ref f) = true) (hb : Binds X.K fd ps []) (tk : Takes X W) (ha : JA X W (e :: es) m)
    (hg : Gl X x := by rfl) (hdb : (x == ("__debug__" : Str)) = false := by decide) (he : starEach (e :: es) X.env = (false, eval e X.env) :: starEach es X.env := by rfl) (hpl : (backTo pos (starEach es X.env)).any (·.1) = false := by rfl) : JE X W (.Call (.Name x p) (e :: es) [] pos) (mL (fBegun bg) m) :=
  PE.imp (pe_callSD (E := WE W) (dvs := []) F hr hg hm hk hb .nil (fun σ => passAt tk σ) ha hdb he hpl) fun σ H Q ⟨w, ρ, t, rt, rr, pp⟩ => by
    refine ⟨w, ρ, t, rt, rr, PostE.imp (PostE.bind pp) fun w1 H1 v t1 e1 s1 r1 q1 xs rx => ?_⟩
    show spG X.K n mg (xs ++ []) H1 Q (WE W σ)
    rw [List.append_nil]
    exact begun_sim hd r1 rx (q1 t1 e1 r1)
end
end En
set_option Elab.async false
set_option linter.all false
set_option maxRecDepth 100000
set_option maxHeartbeats 1000000
set_option autoImplicit false
namespace En
open PySem PySem.Spec PyProof.Rows L2

section
variable {K : PySem.W.Frag} {w : Wd} {t : T} {H : Hp}
theorem make_rel {x dx : Addr} {c : Str} (r : RelT K w t H) (hx : H x = none) (hdx : H dx = none) (ne : dx ≠ x) :
    Step w.inner H (w.inner.add x) (upd (upd H dx (.own x)) x (.ins (He.ga K c) dx [])) ∧ RelT K (w.inner.add x) ⟨[.ins c []], t.b⟩ (upd (upd H dx (.own x)) x (.ins (He.ga K c) dx [])) := by
  have r0 := r.inner
  have s1 := step_new (o := .own x) r0 hdx
  have r1 := r0.new (o := .own x) hdx
  have hx1 : upd H dx (.own x) x = none := by rw [upd_ne (Ne.symm ne)]; exact hx
  exact ⟨s1.trans (step_add r1 hx1), r1.add hx1 ⟨dx, [], upd_same, .nil⟩⟩
end
def fMake (c : Str) (mg : List Val → T → R Val) (vs : List Val) (t : T) : R Val := if vs.all argOk then match mg (.loc 0 :: vs) ⟨[.ins c []], t.b⟩ with
  | .ok (.d .non) t' => if t'.b.on = t.b.on then (match (t'.st)[0]? with
    | some (Cell.ins c' fs) => (match datas (fs.map (·.2)) with
      | some ds => if c' = c then .ok (.d (.ins c ((fs.map (·.1)).zip ds))) { t with b := t'.b } else .stuck
      | none => .stuck)
    | _ => .stuck) else .stuck
  | .exc x t' => if t'.b.on = t.b.on then .exc x { t with b := t'.b } else .stuck
  | _ => .stuck
  else .stuck
theorem add_inner_as {w : Wd} {x : Addr} : (w.inner.add x).as = [some x] := rfl
theorem make_sim {K : PySem.W.Frag} {W : WX} {w : Wd} {t : T} {H : Hp} {σ : L2.St} {xs : List V} {vs : List Val} {n : Nat} {c : Str} {mg : List Val → T → R Val} {Q : VK} (hn : xs.length = n) (r : RelT K w t H) (rx : RepVs K w H xs vs) (p : PostE K W σ w H (fun w' H' v => ∀ z, RepV K w' H' z v → Q z H') (fMake c mg vs t))
    {x dx : Addr} (hx : H x = none) (hdx : H dx = none) (ne : dx ≠ x) : spG K (n + 1) mg (.ref x :: xs) (upd (upd H dx (.own x)) x (.ins (He.ga K c) dx [])) (fun v H2 => v = .non ∧ Q (.ref x) H2) (WE W σ) := by
  unfold fMake at p
  split at p
  · rename_i ok
    obtain ⟨s0, r0⟩ := make_rel (c := c) r hx hdx ne
    refine ⟨w.inner.add x, ⟨[.ins c []], t.b⟩, .loc 0 :: vs, by simp [hn], r0, .cons (.inr ⟨x, rfl, rfl⟩) ((rx.inner ok).mono s0), ?_⟩
    split at p
    · rename_i t' e
      rw [e]
      intro w' H' y s r' rv
      cases rv
      split at p
      · rename_i hon
        split at p
        · rename_i c' fs ec
          split at p
          · rename_i ds ed
            split at p
            · rename_i hcc
              subst hcc
              have sT := s0.trans s
              obtain ⟨s1, ex⟩ := Step.outer r sT
              have a0 : w'.as[0]? = some (some x) := by
                rcases r'.cell 0 _ ec with ⟨z, _⟩ | ⟨a, ha, _⟩
                · cases z
                · have q := s.old 0 a (show 0 < 1 from by decide) ha
                  have q' : some (some x) = some (some a) := q
                  cases q'
                  exact ha
              obtain ⟨dx', ys, h1, h2⟩ := box_live (b := t.b) r' a0 ec
              have hfz : Fz w H' x = some (.ins (He.ga K c') dx' ys) := by
                refine Fz.to h1 fun m => ?_
                exact r.mutn hx m
              have hrep : Rep K (Fz w H') (.ref x) (.ins c' ((fs.map (·.1)).zip ds)) := by
                refine Rep.ins hfz ?_
                have z := repVK_F ed h2
                exact z.mono ex
              exact ⟨rfl, p w H' s1 (r.outer sT r' hon) _ hrep⟩
            · exact p.elim
          · exact p.elim
        · exact p.elim
      · exact p.elim
    · rename_i y t' e
      rw [e]
      split at p
      · rename_i hon
        intro w' H' cls dd s r' rv
        have sT := s0.trans s
        obtain ⟨s1, ex⟩ := Step.outer r sT
        exact p w H' cls dd s1 (r.outer sT r' hon) (Rep.exc ex rv)
      · exact p.elim
    · exact p.elim
  · exact p.elim
section
variable {X : Cx} {W : WX} {k n : Nat} {f C : Addr} {fd : FuncData} {ps : List Str} {mg : List Val → T → R Val} {x : Str} {p pos : Pos} {e : Expr} {es : List Expr} {m : ME (List Val)} {c : Str}
theorem run_makeS {pins : List (Addr × Obj)} {σ : L2.St} {H : Hp} {s : Shared} {Q : VK} {us : List Value} {vs : List V} {sp : Sp} (M : Mk X.K C f) (F : FnOk X.prog X.w X.K X.mg X.base (L2.CX X.prog X.w) k f fd ps sp) (hr : Room (k + 1) X.A) (hb : Binds X.K fd ps []) (tk : Takes X W)
    (I : Inv X pins σ H s) (r : Vals vs us) (h : ∀ x dx, H x = none → H dx = none → dx ≠ x → sp (.ref x :: vs) (upd (upd H dx (.own x)) x (.ins C dx [])) (fun v H2 => v = .non ∧ Q (.ref x) H2) (WE W σ)) :
    wpAny (model X.prog X.w) X.A (call (.ref C) us) (EP X pins σ Q) X.xe s := by
  have hq := h (s.heap.objs.size + 1) s.heap.objs.size (I.hok.fresh (Nat.le_succ _)) (I.hok.fresh (Nat.le_refl _)) (Nat.ne_of_lt (Nat.lt_succ_self _))
  have I2 := Inv.made (C := C) I
  have r1 : Vals (V.ref (s.heap.objs.size + 1) :: vs) (Value.ref (s.heap.objs.size + 1) :: us) := .cons rfl r
  have hl : (Value.ref (s.heap.objs.size + 1) :: us).length = ps.length := by rw [← r1.length]; exact F.len _ _ _ _ hq
  refine wpAny_call (make_map (f := f) I.kIn M.makes M.init (beq_iff_eq.mp M.fn) (codeAny_mono (F.run _ X.stack _ _ ⟨Value.ref (s.heap.objs.size + 1) :: us, []⟩ (Value.ref (s.heap.objs.size + 1) :: us) _ _ (WE W σ) (hr.make C us [])
    (I2.env0.make C us []) (by have z := hb _ (Value.ref (s.heap.objs.size + 1) :: us) I2.kIn (by rw [List.append_nil]; exact hl); rw [List.append_nil] at z; exact z) r1 hq) fun r s' hq' => ?_))
  cases r with
  | error e => exact passAt tk σ pins _ _ e s' I2 hq'
  | ok fl =>
    cases fl with
    | ret u =>
      obtain ⟨v, H', I3, rv, ev, q3⟩ := I2.after hq'
      subst ev
      exact ⟨rv, ⟨V.ref (s.heap.objs.size + 1), H', I3, rfl, q3⟩⟩
    | next => exact False.elim hq'
    | brk => exact False.elim hq'
    | cont => exact False.elim hq'
theorem je_make (M : Mk X.K (He.ga X.K c) f) (F : FnOk X.prog X.w X.K X.mg X.base (L2.CX X.prog X.w) k f fd ps (spG X.K (n + 1) mg)) (hr : Room (k + 1) X.A) (hm : X.mg c = some (.ref (He.ga X.K c))) (hb : Binds X.K fd ps []) (tk : Takes X W) (ha : JA X W (e :: es) m)
    (hla : ∀ ρ t vs t', m ρ t = .ok vs t' → vs.length = n)
    (hg : Gl X c := by rfl) (hdb : (c == ("__debug__" : Str)) = false := by decide) (he : starEach (e :: es) X.env = (false, eval e X.env) :: starEach es X.env := by rfl) (hpl : (backTo pos (starEach es X.env)).any (·.1) = false := by rfl) : JE X W (.Call (.Name c p) (e :: es) [] pos) (mL (fMake c mg) m) := by
  refine ⟨fun pins s σ H Q I ⟨w, ρ, t, rt, rr, pp⟩ => ?_⟩
  refine wpAny_Call_Name_kw (ld_glob I hg hm ?_ hdb)
  refine PySem.W.callWith_K (h₀ := X.base) I.ok.mod.kin M.kp (thn (ha.run pos pins s σ H (fun xs H1 => ∀ x dx, H1 x = none → H1 dx = none → dx ≠ x → spG X.K (n + 1) mg (.ref x :: xs) (upd (upd H1 dx (.own x)) x (.ins (He.ga X.K c) dx [])) (fun v H2 => v = .non ∧ Q (.ref x) H2) (WE W σ)) I
    ⟨w, ρ, t, rt, rr, PostE.imp (PostE.bind pp) fun w1 H1 v t1 e1 s1 r1 q1 xs rx x dx hx hdx ne => make_sim (by rw [rx.length]; exact hla ρ t v t1 e1) r1 rx (q1 t1 e1 r1) hx hdx ne⟩) fun us s1 ⟨vs, H1, I1, r, q⟩ => ⟨I1.kIn, ?_⟩) he hpl
  exact run_makeS M F hr hb tk I1 r q
end
def fldOf (f : Str) (v : Val) (t : T) : Option (Str × Val) := match v with
  | .d (.ins c fs) => (fs.lookup f).map fun d => (c, .d d)
  | .loc n => (match t.st[n]? with
    | some (.ins c fs) => (fs.lookup f).map fun u => (c, u)
    | _ => none)
  | _ => none
theorem repF_look {K : PySem.W.Frag} {F : Hp} {f : Str} : ∀ {xs : List (Str × V)} {fs : List (Str × D)} {d : D}, RepF K F xs fs → fs.lookup f = some d → ∃ x, xs.lookup f = some x ∧ Rep K F x d
  | _, _, _, .nil, e => by cases e
  | _, _, d, .cons (x := y) h hs, e => by
    rw [List.lookup_cons] at e ⊢
    cases q : (f == y) with
    | true => rw [q] at e; cases e; exact ⟨_, rfl, h⟩
    | false => rw [q] at e; exact repF_look hs e
theorem repVK_look {K : PySem.W.Frag} {w : Wd} {H : Hp} {f : Str} : ∀ {xs : List (Str × V)} {fs : List (Str × Val)} {d : Val}, RepVK K w H xs fs → fs.lookup f = some d → ∃ x, xs.lookup f = some x ∧ RepV K w H x d
  | _, _, _, .nil, e => by cases e
  | _, _, d, .cons (k := y) h hs, e => by
    rw [List.lookup_cons] at e ⊢
    cases q : (f == y) with
    | true => rw [q] at e; cases e; exact ⟨_, rfl, h⟩
    | false => rw [q] at e; exact repVK_look hs e
theorem fldOf_rep {K : PySem.W.Frag} {w : Wd} {t : T} {H : Hp} {x : V} {v u : Val} {f c : Str} (r : RelT K w t H) (rx : RepV K w H x v) (e : fldOf f v t = some (c, u)) : ∃ a dx fs y, x = .ref a ∧ H a = some (.ins (He.ga K c) dx fs) ∧ fs.lookup f = some y ∧ RepV K w H y u := by
  unfold fldOf at e
  split at e
  · rename_i c' fs
    obtain ⟨d, ed, e2⟩ := Option.map_eq_some_iff.mp e
    cases e2
    have rx' : Rep K (Fz w H) x (.ins c fs) := rx
    cases rx' with
    | ins h hs =>
      obtain ⟨y, ey, ry⟩ := repF_look hs ed
      exact ⟨_, _, _, y, rfl, (Fz.of h).1, ey, ry⟩
  · rename_i n
    split at e
    · rename_i c' fs en
      obtain ⟨d, ed, e2⟩ := Option.map_eq_some_iff.mp e
      cases e2
      obtain ⟨a, rfl, ha, dx, ys, h1, h2⟩ := loc_live r rx en (fun z => by cases z)
      obtain ⟨y, ey, ry⟩ := repVK_look h2 ed
      exact ⟨a, dx, ys, y, rfl, h1, ey, ry⟩
    · cases e
  · cases e
def fFld (cs : List Str) (f : Str) (v : Val) (t : T) : R Val := match fldOf f v t with
  | some (c, u) => if cs.contains c then .ok u t else .stuck
  | none => .stuck
theorem je_fld {X : Cx} {W : WX} {e : Expr} {f : Str} {m : ME Val} {pos : Pos} (cs : List Str) (hc : ∀ c ∈ cs, Cls X.K (He.ga X.K c) ∧ NoAttr X.K (He.ga X.K c) f) (he : JE X W e m) (hb : attributeBase e f X.env (eval e X.env) = eval e X.env := by rfl) : JE X W (.Attribute e f pos) (m1 (fFld cs f) m) :=
  PE.imp (pe_fld he hb) fun σ H Q ⟨w, ρ, t, rt, rr, p⟩ => by
    refine ⟨w, ρ, t, rt, rr, PostE.imp (PostE.bind p) fun w1 H1 v t1 e1 s1 r1 q1 x rx => ?_⟩
    have q := q1 t1 e1 r1
    unfold fFld at q
    split at q
    · rename_i c u eu
      split at q
      · rename_i hm
        obtain ⟨a, dx, fs, y, rfl, h1, h2, h3⟩ := fldOf_rep r1 rx eu
        obtain ⟨k1, k2⟩ := hc c (by simpa using hm)
        exact ⟨a, _, dx, fs, y, rfl, h1, k1, k2, h2, q.here r1 _ h3⟩
      · exact q.elim
    · exact q.elim
def putV (f : Str) (v : Val) : List (Str × Val) → List (Str × Val)
  | [] => [(f, v)]
  | (g, x) :: r => if g = f then (g, v) :: r else (g, x) :: putV f v r
theorem repVK_put {K : PySem.W.Frag} {w : Wd} {H : Hp} {f : Str} {x : V} {v : Val} (r : RepV K w H x v) : ∀ {xs : List (Str × V)} {fs : List (Str × Val)}, RepVK K w H xs fs → RepVK K w H (putF f x xs) (putV f v fs)
  | _, _, .nil => .cons r .nil
  | _, _, .cons (k := y) h hs => by
    unfold putF putV
    by_cases e : y = f
    · rw [if_pos e, if_pos e]; exact .cons r hs
    · rw [if_neg e, if_neg e]; exact .cons h (repVK_put r hs)
theorem RepVK.length {K : PySem.W.Frag} {w : Wd} {H : Hp} {κ : Type} {xs : List (κ × V)} {vs : List (κ × Val)} (h : RepVK K w H xs vs) : xs.length = vs.length := by
  induction h with
  | nil => rfl
  | cons _ _ ih => simp [ih]
def sFldV (cs : List Str) (f : Str) (mo mv : ME Val) : MS := fun ρ t => (mv ρ t).toS ρ fun v t => (mo ρ t).toS ρ fun o t => match o with
  | .loc n => (match t.st[n]? with
    | some (.ins c fs) => if cs.contains c && decide (fs.length < 1000) then .nx ρ { t with st := t.st.set n (.ins c (putV f v fs)) } else .stuck
    | _ => .stuck)
  | _ => .stuck
theorem js_fld {X : Cx} {W : WX} {o e : Expr} {f : Str} {mo mv : ME Val} {pos' pos : Pos} (cs : List Str) (hc : ∀ c ∈ cs, Cls X.K (He.ga X.K c) ∧ NoAttr X.K (He.ga X.K c) f) (ho : JE X W o mo) (hv : JE X W e mv) (hs : swapsWith e (some (.Attribute o f pos')) pos.line X.env = pure false := by rfl) : JS X W (.Assign [.Attribute o f pos'] e pos) (sFldV cs f mo mv) :=
  PS.imp (ps_fld ho hv hs) fun D σ H ⟨w, ρ, t, rt, rr, p⟩ => by
    refine ⟨w, ρ, t, rt, rr, PostE.imp (PostS.expr rr p) fun w1 H1 v t1 e1 s1 r1 q x rx => ?_⟩
    refine ⟨w1, ρ, t1, r1, rr.mono s1, PostE.imp (PostS.expr (rr.mono s1) (q t1 e1)) fun w2 H2 ov t2 e2 s2 r2 q2 ox rox => ?_⟩
    have q4 := q2 t2 e2
    split at q4
    · rename_i n
      split at q4
      · rename_i c fs en
        split at q4
        · rename_i hm
          obtain ⟨hm1, hm2⟩ := Bool.and_eq_true_iff.mp hm
          obtain ⟨k1, k2⟩ := hc c (by simpa using hm1)
          obtain ⟨a, rfl, ha, dx, ys, h1, h2⟩ := loc_live r2 rox en (fun z => by cases z)
          refine ⟨a, _, dx, ys, rfl, h1, k1, k2, by rw [h2.length]; exact of_decide_eq_true hm2, ?_⟩
          have s3 := step_wr (o := .ins (He.ga X.K c) dx (putF f x ys)) r2 ha
          have r3 := r2.wr (o := .ins (He.ga X.K c) dx (putF f x ys)) (c := .ins c (putV f v fs)) ha ⟨dx, _, upd_same, (repVK_put (rx.mono s2) h2).mono s3⟩
          exact q4 w2 _ σ s3 r3 (((rr.mono s1).mono s2).mono s3)
        · exact q4.elim
      · exact q4.elim
    · exact q4.elim
def clsOf : Val → Option Str
  | .d (.ins c _) => some c
  | _ => none
theorem clsOf_rep {K : PySem.W.Frag} {w : Wd} {H : Hp} {x : V} {v : Val} {c : Str} (rx : RepV K w H x v) (e : clsOf v = some c) : argOk v = true ∧ ∃ a dx fs, x = .ref a ∧ H a = some (.ins (He.ga K c) dx fs) := by
  unfold clsOf at e
  split at e
  · rename_i c' fs
    cases e
    have rx' : Rep K (Fz w H) x (.ins c fs) := rx
    cases rx' with
    | ins h hs => exact ⟨rfl, _, _, _, rfl, (Fz.of h).1⟩
  · cases e
def noX (r : R Val) : R Val := match r with
  | .ok a t => .ok a t
  | _ => .stuck
def fProp (c : Str) (mf : MF) (v : Val) (t : T) : R Val := match clsOf v with
  | some c' => if c' = c then noX (fCall mf [v] t) else .stuck
  | none => .stuck
theorem call_sim0 {K : PySem.W.Frag} {W : WX} {w : Wd} {t : T} {H : Hp} {σ : L2.St} {xs : List V} {vs : List Val} {n : Nat} {mf : MF} {Q : VK} (hn : xs.length = n) (r : RelT K w t H) (rx : RepVs K w H xs vs) (p : PostE K W σ w H (fun w' H' v => ∀ z, RepV K w' H' z v → Q z H') (noX (fCall mf vs t))) : spF K n mf xs H Q E0 := by
  have z : spF K n mf xs H Q (WE W0 σ) := by
    refine call_sim (W := W0) (σ := σ) hn r rx ?_
    revert p
    cases fCall mf vs t with
    | ok a t => exact fun p => p
    | exc a t => exact fun p => p.elim
    | stuck => exact fun p => p
  exact z
theorem je_prop {X : Cx} {W : WX} {e : Expr} {f c : Str} {pp g : Addr} {k : Nat} {fd : FuncData} {ps : List Str} {mf : MF} {m : ME Val} {pos : Pos} (hc : Cls X.K (He.ga X.K c)) (hp : PropOf X.K (He.ga X.K c) f pp g) (F : FnOk X.prog X.w X.K X.mg X.base (L2.CX X.prog X.w) k g fd ps (spF X.K 1 mf)) (hr : Room (k + 1) X.A) (hb : Binds X.K fd ps [])
    (he : JE X W e m) (hab : attributeBase e f X.env (eval e X.env) = eval e X.env := by rfl) : JE X W (.Attribute e f pos) (m1 (fProp c mf) m) :=
  PE.imp (pe_prop (dvs := []) (E := E0) he hc hp F hr hb .nil passL hab) fun σ H Q ⟨w, ρ, t, rt, rr, p⟩ => by
    refine ⟨w, ρ, t, rt, rr, PostE.imp (PostE.bind p) fun w1 H1 v t1 e1 s1 r1 q1 x rx => ?_⟩
    have q := q1 t1 e1 r1
    unfold fProp at q
    split at q
    · rename_i c' ec
      split at q
      · rename_i hcc
        subst hcc
        obtain ⟨_, a, dx, fs, rfl, ha⟩ := clsOf_rep rx ec
        exact ⟨a, dx, fs, rfl, ha, call_sim0 rfl r1 (.cons rx .nil) q⟩
      · exact q.elim
    · exact q.elim
def mMethO (c m : Str) (mf : MF) (mo : ME Val) (ma : ME (List Val)) : ME Val := fun ρ t => (mo ρ t).bind fun o t => match o with
  | .d (.ins c' fs) => if c' = c ∧ fs.lookup m = none then (ma ρ t).bind fun vs t => fCall mf (.d (.ins c' fs) :: vs) t else .stuck
  | _ => .stuck
theorem repF_none {K : PySem.W.Frag} {F : Hp} {f : Str} : ∀ {xs : List (Str × V)} {fs : List (Str × D)}, RepF K F xs fs → fs.lookup f = none → xs.lookup f = none
  | _, _, .nil, e => rfl
  | _, _, .cons (x := y) h hs, e => by
    rw [List.lookup_cons] at e ⊢
    cases q : (f == y) with
    | true => rw [q] at e; cases e
    | false => rw [q] at e; exact repF_none hs e
end En
set_option Elab.async false
set_option linter.all false
set_option maxRecDepth 100000
set_option maxHeartbeats 1000000
set_option autoImplicit false
namespace En
open PySem PySem.Spec PyProof.Rows L2

def sNever : MS := fun _ _ => .stuck
theorem js_never {X : Cx} {W : WX} {st : Stmt} : JS X W st sNever := PS.imp ps_never fun D σ H ⟨w, ρ, t, rt, rr, p⟩ => p
section
variable {X : Cx} {W : WX} {a b c : Expr} {ma mb mc : ME Val} {pos : Pos}
theorem chain_sim {r r' : R2} {f g : Val → Val → T → R Val} (hs : OpS X.K W r f) (hs' : OpS X.K W r' g) : ∀ σ H Q, tM X.K W (m3c f g ma mb mc) σ H Q → tChain r r' (tM X.K W ma) (tM X.K W mb) (tM X.K W mc) σ H Q := fun σ H Q ⟨w, ρ, t, rt, rr, p⟩ => by
  refine ⟨w, ρ, t, rt, rr, PostE.imp (PostE.bind p) fun w1 H1 v t1 e1 s1 r1 q1 x rx => ?_⟩
  refine ⟨w1, ρ, t1, r1, rr.mono s1, PostE.imp (PostE.bind (q1 t1 e1 r1)) fun w2 H2 u t2 e2 s2 r2 q2 y ry => ?_⟩
  refine hs w2 t2 σ H2 x y v u _ r2 (rx.mono s2) ry (PostE.imp (PostE.bind (q2 t2 e2 r2)) fun w3 H3 z t3 e3 s3 r3 q3 zz rz => ?_)
  obtain ⟨k, ek, q⟩ := asB_inv rz (q3 t3 e3 r3)
  refine ⟨k, ek, ?_⟩
  cases k with
  | false => exact iteF (q.here r3 _ (Rep.bl _))
  | true =>
    refine iteT ⟨w3, ρ, t3, r3, ((rr.mono s1).mono s2).mono s3, PostE.imp (PostE.bind q) fun w4 H4 o t4 e4 s4 r4 q4 oo ro => ?_⟩
    exact hs' w4 t4 σ H4 y oo u o Q r4 ((ry.mono s3).mono s4) ro (q4 t4 e4 r4)
theorem je_chain {op op' : CmpOp} {r r' : R2} {f g : Val → Val → T → R Val} (ho : OpR X (compareOp op) r) (hs : OpS X.K W r f) (ho' : OpR X (compareOp op') r') (hs' : OpS X.K W r' g) (ha : JE X W a ma) (hb : JE X W b mb) (hc : JE X W c mc)
    (hm : lastMarks [op, op'] [b, c] = false := by with_unfolding_all rfl) : JE X W (.Compare a [op, op'] [b, c] pos) (m3c f g ma mb mc) := PE.imp (pe_chain ho ho' ha hb hc hm) (chain_sim hs hs')
theorem jt_chain {op op' : CmpOp} {r r' : R2} {f g : Val → Val → T → R Val} (ho : OpR X (compareOp op) r) (hs : OpS X.K W r f) (ho' : OpR X (compareOp op') r') (hs' : OpS X.K W r' g) (ha : JE X W a ma) (hb : JE X W b mb) (hc : JE X W c mc)
    (hm : lastMarks [op, op'] [b, c] = false := by with_unfolding_all rfl) : JT X W (.Compare a [op, op'] [b, c] pos) (m1 asB (m3c f g ma mb mc)) := PT.imp (pt_chain ho ho' ha hb hc hm) (simB (chain_sim hs hs'))
end
def truB (v : Val) (t : T) : Option Bool := match v with
  | .d .non => some false
  | .d (.bl b) => some b
  | .d (.int i) => some (i != 0)
  | .d (.str x) => if x.length ≤ lim then some ((x.length : Int) != 0) else none
  | v => match asSeq v t with
    | some us => some (!us.isEmpty)
    | none => none
def fTru (v : Val) (t : T) : R Bool := match truB v t with
  | some b => .ok b t
  | none => .stuck
theorem RepVs.isEmpty {K : PySem.W.Frag} {w : Wd} {H : Hp} {xs : List V} {vs : List Val} (h : RepVs K w H xs vs) : (!vs.isEmpty) = !xs.isEmpty := by
  cases h <;> rfl
theorem jt_truth {X : Cx} {W : WX} {e : Expr} {m : ME Val} (h : JE X W e m) (he : ∀ whole, isTrue e X.env whole = (do let v ← whole; standAt e.pos; holding [v] (truthy v)) := by intro _; rfl) : JT X W e (m1 fTru m) :=
  PT.imp (pt_truth h he) fun σ H Q ⟨w, ρ, t, rt, rr, p⟩ => by
    refine ⟨w, ρ, t, rt, rr, PostE.imp (PostE.bind p) fun w1 H1 v t1 e1 s1 r1 q1 x rx => ?_⟩
    have q := q1 t1 e1 r1
    unfold fTru at q
    split at q
    · rename_i b eb
      refine ⟨b, ?_, q.here r1⟩
      unfold truB at eb
      split at eb
      · cases rx; cases eb; rfl
      · cases rx; cases eb; rfl
      · cases rx; cases eb; rfl
      · cases rx
        split at eb
        · rename_i hl
          cases eb
          exact ⟨lim_ok hl, rfl⟩
        · cases eb
      · split at eb
        · rename_i us eu
          cases eb
          obtain ⟨a, ys, rfl, hq, hs⟩ := asSeq_rep r1 rx eu
          rcases hq with hq | hq
          · exact .inl ⟨ys, hq, hs.isEmpty⟩
          · exact .inr (.inl ⟨ys, hq, hs.isEmpty⟩)
        · cases eb
    · exact q.elim
def strMul (x : Str) (n : Int) : Str := if n < 1 then Str.empty else if (n == 1 || x.length == 0) = true then x else ⟨(List.replicate n.toNat x.cps).foldl (· ++ ·) #[]⟩
def rMulS : R2 := fun x y H Q => ∃ z n, x = .str z ∧ y = .int n ∧ -1000 ≤ n ∧ n ≤ 1000 ∧ z.length ≤ 1000 ∧ Q (.str (strMul z n)) H
theorem op_mulS {X : Cx} : OpR X (binaryOp .Mult) rMulS := by
  intro pins s σ H x y v u Q I rx ry h
  obtain ⟨z, n, rfl, rfl, h1, h2, h3, q⟩ := h
  obtain ⟨t, rfl⟩ := rx
  obtain ⟨t', rfl⟩ := ry
  have bnd : ¬ n < 1 → z.length * n.toNat ≤ 1000000 := fun _ => by
    have : n.toNat ≤ 1000 := by omega
    calc z.length * n.toNat ≤ 1000 * 1000 := Nat.mul_le_mul h3 this
      _ = 1000000 := by decide
  refine PySem.P.mul_str (by
      have a1 : ¬ n < -(2 ^ 63 : Int) := by omega
      have a2 : ¬ n ≥ 2 ^ 63 := by omega
      rw [decide_eq_false a1, decide_eq_false a2]; rfl) (fun hn _ => ?_) (fun hn _ => ?_) ?_
  · have hn' : 1 ≤ n := by omega
    have z1 : (1000 : Int) ≤ (2 ^ 63 - 1) / n := by
      refine Int.le_ediv_of_mul_le (by omega) ?_
      have : (1000 : Int) * n ≤ 1000 * 1000 := Int.mul_le_mul_of_nonneg_left h2 (by decide)
      omega
    have z2 : (z.length : Int) ≤ 1000 := by omega
    omega
  · have := bnd hn
    unfold Builtin.Str.tooLong
    simp only [decide_eq_false_iff_not]
    first | omega | (rw [sizeLine_eq] ; omega) | (intro hh; have := lim_ok (n := 0) (by decide); simp_all; omega)
  · unfold strMul at q
    by_cases c1 : n < 1
    · rw [if_pos c1] at q ⊢
      exact ⟨by decide, ⟨.str Str.empty, H, I.tok _, ⟨_, rfl⟩, q⟩⟩
    · rw [if_neg c1] at q ⊢
      by_cases c2 : (n == 1 || z.length == 0) = true
      · rw [if_pos c2] at q ⊢
        exact ⟨.str z, H, I, ⟨_, rfl⟩, q⟩
      · rw [if_neg c2] at q ⊢
        refine ⟨?_, ⟨.str _, H, I.tok _, ⟨_, rfl⟩, q⟩⟩
        refine PySem.fits_reps ?_
        have := bnd c1
        unfold Builtin.Str.tooLong
        simp only [decide_eq_false_iff_not]
        first | omega | (rw [sizeLine_eq] ; omega) | (intro hh; have := lim_ok (n := 0) (by decide); simp_all; omega)
end En
set_option Elab.async false
set_option linter.all false
set_option maxRecDepth 100000
set_option maxHeartbeats 2000000
namespace En
open PySem PySem.Spec PyProof.Rows L2
theorem meets_enum1 {v : Value} {o : Obj} {H : Heap → Prop} (B : Begins v o H) :
    Meets (Builtin.«enumerate.__new__» ⟨[.type "enumerate", v], []⟩) (fun _ R s => H s.heap ∧
      R (.ok (.ret (.ref (s.heap.push o).objs.size))) { s with heap := (s.heap.push o).push { cls := .type "enumerate", data := .fields #[.none, .bool false, .ref s.heap.objs.size, rawInt 0, .none, .none] } }) :=
  .of_wp fun prog w A R s h => by
    obtain ⟨hp, g, d, tk, os⟩ := s; obtain ⟨h1, h⟩ := h
    have hsub := sub_enumerate
    have q1 : ∀ {A' : Around} {E : Value → Shared → Prop} {Q : Value → Shared → Prop}, Q (.ref hp.objs.size) ⟨hp.push o, g, d, tk, os⟩ → wpAny (model prog w) A' (pyIter v) Q E ⟨hp, g, d, tk, os⟩ :=
      fun q => B.iter prog w _ _ ⟨hp, g, d, tk, os⟩ _ h1 q
    wp_walk using q1
    refine wpAny_stack_any fun st => wpAny_pure ?_
    split
    · rename_i c _ _ _ _ _
      cases (c == Value.type "enumerate")
      · wp_walk using q1
        exact ⟨_, rfl, h⟩
      · wp_walk using q1
        exact ⟨_, rfl, h⟩
    · wp_walk using q1
      exact ⟨_, rfl, h⟩
theorem enum_begins1 {prog : Program} {w : World} {A : Around} {E : Value → Shared → Prop} {s : Shared} {v : Value} {o : Obj} {H : Heap → Prop} {Q : Value → Shared → Prop} (B : Begins v o H) (h1 : H s.heap)
    (h : ∀ h', IsEnum h' (s.heap.objs.size + 1) s.heap.objs.size 0 .none → h'.get? s.heap.objs.size = some o → h'.objs.size = s.heap.objs.size + 2 →
      (∀ b o, s.heap.get? b = some o → h'.get? b = some o) → Q (.ref (s.heap.objs.size + 1)) { s with heap := h' }) :
    wpAny (model prog w) A (call (.type "enumerate") [v]) Q E s := by
  refine callType_new F.called_enumerate (by decide) (F.typeCall_enumerate_1 _) (F.newCall_enumerate_1 _) (fun obj => F.args_object_init_2 obj _) F.entry_enumerate_new
    (meets_enum1 B) ⟨h1, ?_⟩
  have hz : (s.heap.push o).objs.size = s.heap.objs.size + 1 := Heap.size_push ..
  show _ ∧ _
  rw [hz]
  have he : IsEnum ((s.heap.push o).push { cls := .type "enumerate", data := .fields #[.none, .bool false, .ref s.heap.objs.size, rawInt 0, .none, .none] }) (s.heap.objs.size + 1) s.heap.objs.size 0 .none := by
    have := Heap.get?_push_size (s.heap.push o) (o := { cls := .type "enumerate", data := .fields #[.none, .bool false, .ref s.heap.objs.size, rawInt 0, .none, .none] }) rfl
    rw [hz] at this; exact this
  refine ⟨⟨_, he, rfl⟩, h _ he (Heap.get?_push_of_some _ (Heap.get?_push_size _ B.free)) (by rw [Heap.size_push, hz]) fun b o x => Heap.get?_push_of_some _ (Heap.get?_push_of_some _ x)⟩
structure Src (P : Program) (w : World) (K : PySem.W.Frag) (it : Addr) (go : Nat → Hp → Prop) (el : Nat → Hp → V → Prop) (stop : Nat → Hp → Prop) (S : Nat → Heap → Prop) : Prop where
  live : ∀ i h, S i h → ∃ o, h.get? it = some o ∧ ∀ v, o.data ≠ .cell v
  keep : ∀ i h h', S i h → (∀ o, h.get? it = some o → h'.get? it = some o) → S i h'
  item : ∀ (X : Cx), X.prog = P → X.w = w → X.K = K → X.calm = true → ∀ (i : Nat) (e : Addr) (pins : List (Addr × Obj)) (s : Shared) (σ : L2.St) (H : Hp) (c : Int) (old : Value), Inv X pins σ H s → IsEnum s.heap e it c old → e ≠ it → S i s.heap → go i H →
    ∃ (fp : List Addr) (n : Nat) (Pr : Nat → Value → Prop) (St : Nat → Heap → Prop), Draws P w X.A.in1 it fp n Pr St ∧ St i s.heap ∧ i < n ∧ e ∉ fp ∧ (∀ h', St (i + 1) h' → S (i + 1) h') ∧ ∀ u, Pr i u → ∃ x, RelV x u ∧ el i H x
  done : ∀ (X : Cx), X.prog = P → X.w = w → X.K = K → X.calm = true → ∀ (i : Nat) (pins : List (Addr × Obj)) (s : Shared) (σ : L2.St) (H : Hp), Inv X pins σ H s → S i s.heap → stop i H →
    ∃ (fp : List Addr) (n : Nat) (Pr : Nat → Value → Prop) (St : Nat → Heap → Prop), Draws P w X.A.in1 it fp n Pr St ∧ St n s.heap
def Ien (go : Nat → Hp → Prop) (el : Nat → Hp → V → Prop) (stop : Nat → Hp → Prop) : It :=
  ⟨go, fun i H v H' => ∃ T x, v = .ref T ∧ H T = none ∧ H' = upd H T (.tup [.int (i : Nat), x]) ∧ el i H x, stop⟩
theorem turn_en {P : Program} {w : World} {K : PySem.W.Frag} {elts : List Expr} {kk : Nat} {tpos : Pos} {e it : Addr} {go : Nat → Hp → Prop} {el : Nat → Hp → V → Prop} {stop : Nat → Hp → Prop} {S : Nat → Heap → Prop} (src : Src P w K it go el stop S) :
    Turn P w K (.Tuple elts kk tpos) (Ien go el stop) [e, it] e (fun i h => (∃ old, IsEnum h e it ((i : Nat) : Int) old) ∧ S i h ∧ e ≠ it) where
  mem := by simp
  obj := fun i h st b hb => by
    obtain ⟨⟨old, he⟩, hs, _⟩ := st
    have e' : b = e ∨ b = it := by simpa using hb
    rcases e' with z | z
    · rw [z]; exact ⟨_, he, fun v q => nomatch q⟩
    · rw [z]; exact src.live i h hs
  keep := fun i h h' st k => let ⟨⟨old, he⟩, hi, hne⟩ := st; ⟨⟨old, k e (by simp) _ he⟩, src.keep i h h' hi fun o q => k it (by simp) o q, hne⟩
  item := by
    intro X hP hw hK hc i pins s σ H E I hf st hg
    obtain ⟨⟨old, he⟩, hit, hne⟩ := st
    obtain ⟨fp, n, Pr, St, D, hst, hlt, hef, hS, hel⟩ := src.item X hP hw hK hc i e pins s σ H _ old I he hne hit hg
    subst hP hw hK
    have hel' : e < s.heap.objs.size := Heap.lt_size he
    have hil : it < s.heap.objs.size := by obtain ⟨_, q, _⟩ := src.live _ _ hit; exact Heap.lt_size q
    refine wpAny_pyNext_enum_itemC D he hst hlt hne hef fun u h' tk hP ho hst' hT hsz hk => ?_
    obtain ⟨x, ru, hx⟩ := hel u hP
    refine ⟨_, rfl, wpAny_letOwnedTupleGo_enum (s := { s with heap := h', toks := tk + 1 }) ho fun h'' he' sb => ?_⟩
    have hT2 : h''.get? s.heap.objs.size = some { cls := .type "tuple", data := .seq #[.int i tk, u] } := (sb.2 _ (Nat.ne_of_gt hel')).trans hT
    have new : ObjOk X.prog X.w (upd H s.heap.objs.size (.tup [.int (i : Nat), x])) h'' s.heap.objs.size (.tup [.int (i : Nat), x]) :=
      ⟨by show 2 ≤ sizeLine; decide, [.int i tk, u], .cons ⟨_, rfl⟩ (.cons ru .nil), ⟨_, hT2, rfl, _, rfl⟩⟩
    have I1 : Inv X pins σ (upd H s.heap.objs.size (.tup [.int (i : Nat), x])) { s with heap := h'', toks := tk + 1 } :=
      I.turnedNew (ch := [e, it]) (fun b ob hb q => (sb.2 b (fun z => hb (by simp [z]))).trans (hk b ob (fun z => hb (by simp [z])) (fun z => hb (by simp [z])) q)) hf (Nat.le_refl _) new
    refine ⟨.ref s.heap.objs.size, _, I1, rfl, ⟨_, x, rfl, I.hok.fresh (Nat.le_refl _), rfl, hx⟩, ⟨⟨u, ?_⟩, src.keep _ _ _ (hS _ hst') fun o q => (sb.2 it (Ne.symm hne)).trans q, hne⟩, fun b hb => ?_⟩
    · have e1 : ((i + 1 : Nat) : Int) = (i : Int) + 1 := by omega
      rw [e1]; exact he'
    · have hb' : b < s.heap.objs.size := by
        have e' : b = e ∨ b = it := by simpa using hb
        rcases e' with z | z
        · rw [z]; exact hel'
        · rw [z]; exact hil
      rw [upd_ne (Nat.ne_of_lt hb')]
      exact (hf b hb).1
  done := by
    intro X hP hw hK hc i pins s σ H E I hf st hg
    obtain ⟨⟨old, he⟩, hit, hne⟩ := st
    obtain ⟨fp, n, Pr, St, D, hst⟩ := src.done X hP hw hK hc i pins s σ H I hit hg
    subst hP hw hK
    obtain ⟨f0, f1, f2, f3, f4, f5⟩ := hf it (by simp)
    exact wpAny_pyNext_enum_endD D he hst fun h' eb => ⟨rfl, I.turned (t' := s.toks) (fun b o hb q => eb b o hb q) f0 f1 f3 f4 f5⟩
  self := fun A i s Q E st h => let ⟨⟨_, he⟩, _⟩ := st; wpAny_pyIter_enum he h
def goT (K : PySem.W.Frag) (a : Addr) (i : Nat) (H : Hp) : Prop := ∃ (xs : List V) (x : V), SqT K H a xs ∧ xs[i]? = some x
def elT (K : PySem.W.Frag) (a : Addr) (i : Nat) (H : Hp) (x : V) : Prop := ∀ xs, SqT K H a xs → xs[i]? = some x
def stT (K : PySem.W.Frag) (a : Addr) (i : Nat) (H : Hp) : Prop := ∃ xs : List V, SqT K H a xs ∧ xs.length = i
theorem src_tup {P : Program} {w : World} {K : PySem.W.Frag} (a it : Addr) : Src P w K it (goT K a) (elT K a) (stT K a) (fun i h => h.IsTupleIter it a i) where
  live := fun i h ⟨o, ho, hc, hd⟩ => ⟨o, ho, fun v q => by rw [hd] at q; cases q⟩
  keep := fun i h h' st k => st.at fun o q => k o q
  item := by
    intro X hP hw hK hc i e pins s σ H c old I he hne hit hg
    subst hP hw hK
    obtain ⟨xs, x, hq, hx⟩ := hg
    obtain ⟨its, rv, p, hz⟩ := I.tuple hq
    obtain ⟨u, hu, ru⟩ := rv.get hx
    obtain ⟨o2, ho2, hc2, n2, hd2⟩ := id p
    have hai : a ≠ it := fun z => by
      obtain ⟨o, ho, hc', hd⟩ := id hit
      subst z
      have e2 := ho.symm.trans ho2
      injection e2 with e2
      rw [← e2, hc'] at hc2
      exact absurd hc2 (by decide)
    have hea : e ≠ a := fun z => by
      subst z
      have e2 : _ = some o2 := he.symm.trans ho2
      injection e2 with e2
      rw [← e2] at hc2
      exact absurd (show Value.type "enumerate" = Value.type "tuple" from hc2) (by decide)
    refine ⟨_, _, _, _, Draws.tuple (A := X.A.in1) (I.ok.hd hc) it a hai its.toArray, ⟨hit, ⟨o2, ho2, hc2, n2, hd2⟩⟩, ?_, ?_, fun h' z => z.1, fun v hv => ?_⟩
    · have := (List.getElem?_eq_some_iff.mp hu).1
      simpa using this
    · simp [hne, hea]
    · have : v = u := by
        have h2 : its[i]? = some v := by simpa using hv
        rw [hu] at h2
        cases h2; rfl
      subst this
      exact ⟨x, ru, fun ys hy => by rw [I.tuple_inj hy hq]; exact hx⟩
  done := by
    intro X hP hw hK hc i pins s σ H I hit hg
    subst hP hw hK
    obtain ⟨xs, hq, hx⟩ := hg
    obtain ⟨its, rv, p, hz⟩ := I.tuple hq
    obtain ⟨o2, ho2, hc2, n2, hd2⟩ := id p
    have hai : a ≠ it := fun z => by
      obtain ⟨o, ho, hc', hd⟩ := id hit
      subst z
      have e2 := ho.symm.trans ho2
      injection e2 with e2
      rw [← e2, hc'] at hc2
      exact absurd hc2 (by decide)
    have hl : its.toArray.size = i := by rw [List.size_toArray, ← rv.length, hx]
    refine ⟨_, _, _, _, Draws.tuple (A := X.A.in1) (I.ok.hd hc) it a hai its.toArray, ?_, ⟨o2, ho2, hc2, n2, hd2⟩⟩
    rw [hl]; exact hit
def goS (x : Str) (i : Nat) (_ : Hp) : Prop := i < x.cps.size
def elS (x : Str) (i : Nat) (_ : Hp) (v : V) : Prop := ∃ c, x.cps[i]? = some c ∧ v = .str ⟨#[c]⟩
def stS (x : Str) (i : Nat) (_ : Hp) : Prop := i = x.cps.size
theorem src_str {P : Program} {w : World} {K : PySem.W.Frag} (it : Addr) (x : Str) (t : Tok) : Src P w K it (goS x) (elS x) (stS x) (fun i h => h.IsStrIter it (strIterType x) x t i) where
  live := fun i h ⟨o, ho, hc, hd⟩ => ⟨o, ho, fun v q => by rw [hd] at q; cases q⟩
  keep := fun i h h' st k => let ⟨o, ho, r⟩ := st; ⟨o, k o ho, r⟩
  item := by
    intro X hP hw hK hc i e pins s σ H c old I he hne hit hg
    subst hP hw hK
    refine ⟨_, _, _, _, Draws.text (A := X.A.in1) (I.ok.hd hc) it x t, hit, hg, by simpa using hne, fun h' z => z, fun v hv => ?_⟩
    obtain ⟨c, u, h1, rfl⟩ := hv
    exact ⟨.str ⟨#[c]⟩, ⟨u, rfl⟩, c, h1, rfl⟩
  done := by
    intro X hP hw hK hc i pins s σ H I hit hg
    subst hP hw hK
    have hg' : i = x.cps.size := hg
    subst hg'
    exact ⟨_, _, _, _, Draws.text (A := X.A.in1) (I.ok.hd hc) it x t, hit⟩
section
variable {X : Cx} {e : Expr} {ta : TA} {p pos tpos : Pos} {elts : List Expr} {kk : Nat}
def iEnumT (K : PySem.W.Frag) (ta : TA) : TI := fun σ H R => ta σ H fun vs H1 => ∃ a xs, vs = [.ref a] ∧ SqT K H1 a xs ∧ R (Ien (goT K a) (elT K a) (stT K a)) H1
def iEnumS (ta : TA) : TI := fun σ H R => ta σ H fun vs H1 => ∃ x, vs = [.str x] ∧ R (Ien (goS x) (elS x) (stS x)) H1
theorem pi_enumT (hg : Gl X "enumerate") (hm : X.mg "enumerate" = none) (ha : PA X [e] ta) (hs : starEach [e] X.env = [(false, eval e X.env)] := by rfl) :
    PI X (.Tuple elts kk tpos) (.Call (.Name "enumerate" p) [e] [] pos) (iEnumT X.K ta) := by
  refine ⟨fun pins s σ H R I h => ?_⟩
  refine Call_ (ld_blt I hg hm boot_enumerate (PyProof.Rows.callWith_type1 (thn (ha.run pos pins s σ H _ I h) fun us s1 ⟨vs, H1, I1, r1, q1⟩ => ?_) hs rfl))
  obtain ⟨a, xs, ex, hq, q⟩ := q1
  subst ex
  cases r1 with
  | cons r rr =>
    cases rr
    cases r
    obtain ⟨its, rv, p', hz⟩ := I1.tuple hq
    refine enum_begins1 (begins_tuple a its.toArray) p' fun h' he hit hsz hk => wpAny_pyIter_enum he ?_
    have I2 : Inv X pins σ H1 { s1 with heap := h' } := I1.kept (t' := s1.toks) hk
    refine ⟨s1.heap.objs.size + 1, [s1.heap.objs.size + 1, s1.heap.objs.size], _, _, H1, rfl, I2, turn_en (e := s1.heap.objs.size + 1) (src_tup a s1.heap.objs.size), ⟨⟨.none, he⟩, ⟨_, hit, rfl, rfl⟩, Nat.succ_ne_self _⟩, fun b hb => ?_, q⟩
    have e' : b = s1.heap.objs.size + 1 ∨ b = s1.heap.objs.size := by simpa using hb
    have hle : s1.heap.objs.size ≤ b := by
      rcases e' with z | z
      · rw [z]; exact Nat.le_add_right _ _
      · rw [z]; exact Nat.le_refl _
    exact I1.fpOk hle (I1.hok.fresh hle)
theorem pi_enumS (hg : Gl X "enumerate") (hm : X.mg "enumerate" = none) (ha : PA X [e] ta) (hs : starEach [e] X.env = [(false, eval e X.env)] := by rfl) :
    PI X (.Tuple elts kk tpos) (.Call (.Name "enumerate" p) [e] [] pos) (iEnumS ta) := by
  refine ⟨fun pins s σ H R I h => ?_⟩
  refine Call_ (ld_blt I hg hm boot_enumerate (PyProof.Rows.callWith_type1 (thn (ha.run pos pins s σ H _ I h) fun us s1 ⟨vs, H1, I1, r1, q1⟩ => ?_) hs rfl))
  obtain ⟨x, ex, q⟩ := q1
  subst ex
  cases r1 with
  | cons r rr =>
    cases rr
    obtain ⟨t, rfl⟩ := r
    refine enum_begins1 (begins_text x t) trivial fun h' he hit hsz hk => wpAny_pyIter_enum he ?_
    have I2 : Inv X pins σ H1 { s1 with heap := h' } := I1.kept (t' := s1.toks) hk
    refine ⟨s1.heap.objs.size + 1, [s1.heap.objs.size + 1, s1.heap.objs.size], _, _, H1, rfl, I2, turn_en (e := s1.heap.objs.size + 1) (src_str s1.heap.objs.size x t), ⟨⟨.none, he⟩, ⟨_, hit, rfl, rfl⟩, Nat.succ_ne_self _⟩, fun b hb => ?_, q⟩
    have e' : b = s1.heap.objs.size + 1 ∨ b = s1.heap.objs.size := by simpa using hb
    have hle : s1.heap.objs.size ≤ b := by
      rcases e' with z | z
      · rw [z]; exact Nat.le_add_right _ _
      · rw [z]; exact Nat.le_refl _
    exact I1.fpOk hle (I1.hok.fresh hle)
end
def pairsFrom : Nat → List D → List Val
  | _, [] => []
  | i, d :: ds => .d (.tup [.int i, d]) :: pairsFrom (i + 1) ds
theorem pairs_get : ∀ {ds : List D} {k i : Nat} {v : Val}, (pairsFrom k ds)[i]? = some v → ∃ d, ds[i]? = some d ∧ v = .d (.tup [.int ((k + i : Nat) : Int), d])
  | [], k, i, v, h => by simp [pairsFrom] at h
  | d :: ds, k, 0, v, h => by
    simp only [pairsFrom, List.getElem?_cons_zero, Option.some.injEq] at h
    exact ⟨d, rfl, h.symm⟩
  | d :: ds, k, i + 1, v, h => by
    simp only [pairsFrom, List.getElem?_cons_succ] at h
    obtain ⟨d', h1, h2⟩ := pairs_get h
    refine ⟨d', by simpa using h1, ?_⟩
    rw [h2]
    have : k + 1 + i = k + (i + 1) := by omega
    rw [this]
theorem pairs_length : ∀ (ds : List D) (k : Nat), (pairsFrom k ds).length = ds.length
  | [], _ => rfl
  | d :: ds, k => by simp only [pairsFrom, List.length_cons, pairs_length ds (k + 1)]
theorem pair_rep {K : PySem.W.Frag} {w' : Wd} {H' : Hp} {t' : T} (r : RelT K w' t' H') {T : Addr} {x : V} {d : D} {i : Nat} (hT : H' T = none) (rx : Rep K (Fz w' H') x d) : RepV K w' (upd H' T (.tup [.int (i : Nat), x])) (.ref T) (.d (.tup [.int ((i : Nat) : Int), d])) :=
  Rep.tup (SqT.of (Fz.new r hT)) (.cons (.int _) (.cons (rx.mono (step_new r hT).fz) .nil))
theorem reps_get {K : PySem.W.Frag} {F : Hp} : ∀ {xs : List V} {ds : List D} {i : Nat} {d : D}, Reps K F xs ds → ds[i]? = some d → ∃ x, xs[i]? = some x ∧ Rep K F x d
  | _, _, i, d, .nil, e => by simp at e
  | _, _, 0, d, .cons h hs, e => by
    simp only [List.getElem?_cons_zero, Option.some.injEq] at e
    subst e
    exact ⟨_, rfl, h⟩
  | _, _, i + 1, d, .cons h hs, e => by
    simp only [List.getElem?_cons_succ] at e ⊢
    exact reps_get hs e
theorem ItOk.enumL {K : PySem.W.Frag} {w : Wd} {H : Hp} {a : Addr} {xs : List V} {ds : List D} (h : Fz w H a = some (.lst xs)) (hs : Reps K (Fz w H) xs ds) : ItOk K w H (Ite K a) (pairsFrom 0 ds) where
  go := fun i v w' H' t' e s r => by
    have h' := (Fz.of (s _ _ h)).1
    obtain ⟨d, ed, rfl⟩ := pairs_get e
    obtain ⟨x, ex, rx⟩ := reps_get (hs.mono s) ed
    refine ⟨⟨xs, x, SqL.of h', ex⟩, fun y H'' q => ?_⟩
    obtain ⟨T, x2, rfl, hT, rfl, q⟩ := q
    have ey := q xs (SqL.of h')
    rw [ex] at ey
    cases ey
    rw [Nat.zero_add]
    exact ⟨.inr ⟨T, _, hT, rfl⟩, pair_rep r hT rx⟩
  stop := fun w' H' t' s r => ⟨xs, SqL.of (Fz.of (s _ _ h)).1, by rw [pairs_length, hs.length]; exact Nat.le_refl _⟩
theorem ItOk.enumT {K : PySem.W.Frag} {w : Wd} {H : Hp} {a : Addr} {xs : List V} {ds : List D} (h : SqT K (Fz w H) a xs) (hs : Reps K (Fz w H) xs ds) : ItOk K w H (Ien (goT K a) (elT K a) (stT K a)) (pairsFrom 0 ds) where
  go := fun i v w' H' t' e s r => by
    have h' : SqT K H' a xs := Fz.ex.sqT (s.sqT h)
    obtain ⟨d, ed, rfl⟩ := pairs_get e
    obtain ⟨x, ex, rx⟩ := reps_get (hs.mono s) ed
    refine ⟨⟨xs, x, h', ex⟩, fun y H'' q => ?_⟩
    obtain ⟨T, x2, rfl, hT, rfl, q⟩ := q
    have ey := q xs h'
    rw [ex] at ey
    cases ey
    rw [Nat.zero_add]
    exact ⟨.inr ⟨T, _, hT, rfl⟩, pair_rep r hT rx⟩
  stop := fun w' H' t' s r => ⟨xs, Fz.ex.sqT (s.sqT h), by rw [pairs_length, hs.length]⟩
def charsD (x : Str) : List D := x.cps.toList.map fun c => .str ⟨#[c]⟩
theorem ItOk.enumS {K : PySem.W.Frag} {w : Wd} {H : Hp} {x : Str} : ItOk K w H (Ien (goS x) (elS x) (stS x)) (pairsFrom 0 (charsD x)) where
  go := fun i v w' H' t' e s r => by
    obtain ⟨d, ed, rfl⟩ := pairs_get e
    simp only [charsD, List.getElem?_map, Option.map_eq_some_iff] at ed
    obtain ⟨c, ec, rfl⟩ := ed
    have hc : x.cps[i]? = some c := by simpa using ec
    refine ⟨(Array.getElem?_eq_some_iff.mp hc).1, fun y H'' q => ?_⟩
    obtain ⟨T, x2, rfl, hT, rfl, c2, q, rfl⟩ := q
    rw [hc] at q
    cases q
    rw [Nat.zero_add]
    exact ⟨.inr ⟨T, _, hT, rfl⟩, pair_rep r hT (.str _)⟩
  stop := fun w' H' t' s r => by
    show _ = _
    rw [pairs_length]
    simp [charsD]
def fEnum (vs : List Val) (t : T) : R (List Val) := match vs with
  | [.d (.str x)] => .ok (pairsFrom 0 (charsD x)) t
  | [.d (.tup ds)] => .ok (pairsFrom 0 ds) t
  | [v] => (fFreeze v t).bind fun v t => match v with
    | .d (.lst ds) => .ok (pairsFrom 0 ds) t
    | _ => .stuck
  | _ => .stuck
theorem ji_enum {X : Cx} {W : WX} {e : Expr} {m : ME (List Val)} {p pos tpos : Pos} {elts : List Expr} {kk : Nat} (hm : X.mg "enumerate" = none) (ha : JA X W [e] m) (hg : Gl X "enumerate" := by rfl) (hs : starEach [e] X.env = [(false, eval e X.env)] := by rfl) :
    JI X W (.Tuple elts kk tpos) (.Call (.Name "enumerate" p) [e] [] pos) (mL fEnum m) :=
  PI.imp (pi_or (pi_enumS hg hm ha hs) (pi_or (pi_enumT hg hm ha hs) (pi_enum hg hm ha hs))) fun σ H R ⟨w, ρ, t, rt, rr, p⟩ => by
    have p2 := PostE.bind p
    cases em : m ρ t with
    | stuck => rw [em] at p2; exact p2.elim
    | exc x tx =>
      refine .inl ⟨w, ρ, t, rt, rr, ?_⟩
      rw [em] at p2 ⊢
      exact p2
    | ok v tv =>
      have kind : (∃ s, v = [.d (.str s)]) ∨ (∃ ds, v = [.d (.tup ds)]) ∨ ((∀ s, v ≠ [.d (.str s)]) ∧ ∀ ds, v ≠ [.d (.tup ds)]) := by
        by_cases h1 : ∃ s, v = [.d (.str s)]
        · exact .inl h1
        · by_cases h2 : ∃ ds, v = [.d (.tup ds)]
          · exact .inr (.inl h2)
          · exact .inr (.inr ⟨fun s z => h1 ⟨s, z⟩, fun s z => h2 ⟨s, z⟩⟩)
      rcases kind with ⟨s, rfl⟩ | ⟨ds, rfl⟩ | ⟨n1, n2⟩
      · refine .inl ⟨w, ρ, t, rt, rr, PostE.imp p2 fun w1 H1 v t1 e1 s1 r1 q x rx => ?_⟩
        rw [em] at e1
        cases e1
        obtain ⟨y, rfl, ry⟩ := rx.one
        cases ry
        exact ⟨s, rfl, (q tv em r1).here r1 _ ItOk.enumS⟩
      · refine .inr (.inl ⟨w, ρ, t, rt, rr, PostE.imp p2 fun w1 H1 v t1 e1 s1 r1 q x rx => ?_⟩)
        rw [em] at e1
        cases e1
        obtain ⟨y, rfl, ry⟩ := rx.one
        have rx' : Rep X.K (Fz w1 H1) y (.tup ds) := ry
        cases rx' with
        | tup h hs => exact ⟨_, _, rfl, Fz.ex.sqT h, (q tv em r1).here r1 _ (ItOk.enumT h hs)⟩
      · refine .inr (.inr ⟨w, ρ, t, rt, rr, PostE.imp p2 fun w1 H1 v' t1 e1 s1 r1 q x rx => ?_⟩)
        rw [em] at e1
        cases e1
        have q1 := q tv em r1
        unfold fEnum at q1
        split at q1
        · exact absurd rfl (n1 _)
        · exact absurd rfl (n2 _)
        · obtain ⟨y, rfl, ry⟩ := rx.one
          obtain ⟨d, w2, t2, s2, r2, rd, q2⟩ := fFreeze_ok r1 ry q1
          split at q2
          · rename_i ds ed
            cases ed
            cases rd with
            | lst h hs => exact ⟨_, _, rfl, SqL.of (Fz.of h).1, q2.here r2 _ (ItOk.enumL h hs)⟩
          · exact q2.elim
        · exact q1.elim
end En
set_option Elab.async false
set_option linter.all false
set_option maxRecDepth 100000
set_option maxHeartbeats 2000000
namespace En
open PySem PySem.Spec PyProof.Rows L2
theorem Reps.flat {K : PySem.W.Frag} {F : Hp} {xs : List V} {ds : List D} (h : Reps K F xs ds) : ∀ n : Nat, Reps K F (List.replicate n xs).flatten (List.replicate n ds).flatten
  | 0 => .nil
  | n + 1 => by
    rw [List.replicate_succ, List.replicate_succ, List.flatten_cons, List.flatten_cons]
    exact h.app (Reps.flat h n)
theorem RepVs.flat {K : PySem.W.Frag} {w : Wd} {H : Hp} {xs : List V} {ds : List Val} (h : RepVs K w H xs ds) : ∀ n : Nat, RepVs K w H (List.replicate n xs).flatten (List.replicate n ds).flatten
  | 0 => .nil
  | n + 1 => by
    rw [List.replicate_succ, List.replicate_succ, List.flatten_cons, List.flatten_cons]
    exact h.app (RepVs.flat h n)
def rMulAll (K : PySem.W.Frag) : R2 := fun x y H Q => rI CMul (fun i j => .int (i * j)) x y H Q ∨ rMulS x y H Q ∨ rRep x y H Q ∨ rRepT K x y H Q
theorem op_mulAll {X : Cx} : OpR X (binaryOp .Mult) (rMulAll X.K) := op_mul.or (op_mulS.or (op_rep.or op_repT))
def okK (n : Nat) (k : Int) : Bool := decide (-1000 ≤ k) && decide (k ≤ 1000) && decide (n ≤ 1000)
theorem okK_of {n : Nat} {k : Int} (h : okK n k = true) : -1000 ≤ k ∧ k ≤ 1000 ∧ n ≤ 1000 := by
  unfold okK at h
  simp only [Bool.and_eq_true, decide_eq_true_eq] at h
  exact ⟨h.1.1, h.1.2, h.2⟩
theorem okK_mul {n : Nat} {k : Int} (h : okK n k = true) : n * k.toNat ≤ 1000000 := by
  obtain ⟨h1, h2, h3⟩ := okK_of h
  have : k.toNat ≤ 1000 := by omega
  calc n * k.toNat ≤ 1000 * 1000 := Nat.mul_le_mul h3 this
    _ = 1000000 := by decide
def fMul (a b : Val) (t : T) : R Val := match a, b with
  | .d (.int i), .d (.int j) => if cMul i j then retI (i * j) t else .stuck
  | .d (.str x), .d (.int k) => if okK x.length k then .ok (.d (.str (strMul x k))) t else .stuck
  | .d (.tup xs), .d (.int k) => if okK xs.length k && decide (2 ≤ k) && !xs.isEmpty then .ok (.d (.tup (List.replicate k.toNat xs).flatten)) t else .stuck
  | a, .d (.int k) => (match asList a t with
    | some vs => if okK vs.length k then (match datas (List.replicate k.toNat vs).flatten with
      | some ds => .ok (.d (.lst ds)) t
      | none => .stuck) else .stuck
    | none => .stuck)
  | _, _ => .stuck
theorem big_lim {n : Nat} (h : n ≤ 1000000) : n ≤ sizeLine := by
  rw [sizeLine_eq]; omega
theorem s_mul {K : PySem.W.Frag} {W : WX} : OpS K W (rMulAll K) fMul := by
  intro w t σ H x y a b Q r rx ry p
  unfold fMul at p
  split at p
  · cases rx; cases ry
    split at p
    · rename_i hc
      exact .inl ⟨_, _, rfl, rfl, cMulOk hc, p.here r _ (Rep.int _)⟩
    · exact p.elim
  · cases rx; cases ry
    split at p
    · rename_i hc
      obtain ⟨h1, h2, h3⟩ := okK_of hc
      exact .inr (.inl ⟨_, _, rfl, rfl, h1, h2, h3, p.here r _ (Rep.str _)⟩)
    · exact p.elim
  · rename_i xs k
    split at p
    · rename_i hc
      simp only [Bool.and_eq_true, decide_eq_true_eq] at hc
      obtain ⟨⟨hc, h4⟩, h5⟩ := hc
      obtain ⟨h1, h2, h3⟩ := okK_of hc
      obtain ⟨a1, us, rfl, q1, hs1⟩ := asTup_rep (v := .d (.tup xs)) rx rfl
      cases ry
      refine .inr (.inr (.inr ⟨a1, k, us, rfl, rfl, q1, ?_, h4, h2, by rw [hs1.length]; exact h3, new_tup r (hs1.flat _) p⟩))
      intro e
      subst e
      cases hs1
      simp at h5
    · exact p.elim
  · rename_i a' k _ _ _
    split at p
    · rename_i vs ev
      split at p
      · rename_i hc
        split at p
        · rename_i ds ed
          obtain ⟨a1, us, rfl, q1, hs1⟩ := asList_rep r rx ev
          cases ry
          obtain ⟨h1, h2, h3⟩ := okK_of hc
          refine .inr (.inr (.inl ⟨a1, k, us, rfl, rfl, q1, by omega, by omega, ?_, new_lst r (datas_rep ed (hs1.flat _)) p⟩))
          rw [hs1.length]
          exact big_lim (okK_mul hc)
        · exact p.elim
      · exact p.elim
    · exact p.elim
  · exact p.elim
def fMulL (a b : Val) (t : T) : R (List Val) := match b with
  | .d (.int k) => (match asList a t with
    | some vs => if okK vs.length k then .ok (List.replicate k.toNat vs).flatten t else .stuck
    | none => .stuck)
  | _ => .stuck
theorem jl_mul {X : Cx} {W : WX} {a b : Expr} {ma mb : ME Val} {pos : Pos} (ha : JE X W a ma) (hb : JE X W b mb) : JL X W (.BinOp a .Mult b pos) (m2 fMulL ma mb) :=
  PE.imp (pe_op op_rep ha hb) fun σ H Q ⟨w, ρ, t, rt, rr, p⟩ => by
    refine ⟨w, ρ, t, rt, rr, PostE.imp (PostE.bind p) fun w1 H1 x t1 e1 s1 r1 q1 vx rx => ?_⟩
    refine ⟨w1, ρ, t1, r1, rr.mono s1, PostE.imp (PostE.bind (q1 t1 e1 r1)) fun w2 H2 y t2 e2 s2 r2 q2 vy ry => ?_⟩
    have q := q2 t2 e2 r2
    have rx2 := rx.mono s2
    unfold fMulL at q
    split at q
    · rename_i k
      split at q
      · rename_i vs ev
        split at q
        · rename_i hc
          obtain ⟨a1, us, rfl, q1, hs1⟩ := asList_rep r2 rx2 ev
          cases ry
          obtain ⟨h1, h2, h3⟩ := okK_of hc
          refine ⟨a1, k, us, rfl, rfl, q1, by omega, by omega, ?_, fun p hp => q.here r2 p _ hp (hs1.flat _)⟩
          rw [hs1.length]
          exact big_lim (okK_mul hc)
        · exact q.elim
      · exact q.elim
    · exact q.elim
def cPow (i j : Int) : Bool := decide (0 ≤ j) && decide (j ≤ 1000000) && decide (i.natAbs < 2 ^ 64)
def fPow := fInt2 (fun i j => i ^ j.toNat) cPow
theorem s_pow {K : PySem.W.Frag} {W : WX} : OpS K W (rI CPow fun i j => .int (i ^ j.toNat)) fPow := s_int2 fun i j h => by
  unfold cPow at h
  simp only [Bool.and_eq_true, decide_eq_true_eq] at h
  exact ⟨h.1.1, h.1.2, h.2⟩
def tyS (v : Val) (t : T) : Option String := match v with
  | .d .non => some "NoneType"
  | .d (.bl _) => some "bool"
  | .d (.int _) => some "int"
  | .d (.str _) => some "str"
  | .d (.tup _) => some "tuple"
  | .d (.lst _) => some "list"
  | .d (.scr _) => some "list"
  | .loc n => (match t.st[n]? with
    | some (.lst _) => some "list"
    | some (.dK _) => some "dict"
    | _ => none)
  | _ => none
theorem sqL_ty {K : PySem.W.Frag} {H : Hp} {a : Addr} {xs : List V} (h : SqL K H a xs) : TyX K H (.ref a) (.type "list") := by
  rcases h with (h | ⟨o, h⟩) | ⟨o, its, n, hk, hc, _⟩
  · exact .base (.lst h)
  · exact .base (.frz h)
  · exact .kList hk hc
theorem sqT_ty {K : PySem.W.Frag} {H : Hp} {a : Addr} {xs : List V} (h : SqT K H a xs) : TyX K H (.ref a) (.type "tuple") := by
  rcases h with (h | ⟨o, h⟩) | ⟨o, its, n, hk, hc, _⟩
  · exact .base (.tup h)
  · exact .fTuple h
  · exact .kTuple hk hc
theorem tyS_ok {K : PySem.W.Frag} {w : Wd} {t : T} {H : Hp} {x : V} {v : Val} {n : String} (r : RelT K w t H) (rx : RepV K w H x v) (e : tyS v t = some n) : TyX K H x (.type n) := by
  unfold tyS at e
  split at e
  · cases rx; cases e; exact .base .non
  · cases rx; cases e; exact .base (.bl _)
  · cases rx; cases e; exact .base (.int _)
  · cases rx; cases e; exact .base (.str _)
  · rename_i ds
    cases e
    have rx' : Rep K (Fz w H) x (.tup ds) := rx
    cases rx' with
    | tup h hs => exact sqT_ty (Fz.ex.sqT h)
  · rename_i ds
    cases e
    have rx' : Rep K (Fz w H) x (.lst ds) := rx
    cases rx' with
    | lst h hs => exact .base (.lst (Fz.of h).1)
  · rename_i ds
    cases e
    have rx' : Rep K (Fz w H) x (.scr ds) := rx
    cases rx' with
    | scr h => exact sqL_ty (Fz.ex.sqL h)
  · split at e
    · rename_i xs ec
      cases e
      obtain ⟨a, rfl, _, ys, h, _⟩ := loc_live r rx ec (fun z => nomatch z)
      exact .base (.lst h)
    · rename_i xs ec
      cases e
      obtain ⟨a, rfl, _, ys, h, _⟩ := loc_live r rx ec (fun z => nomatch z)
      exact .base (.dK h)
    · cases e
  · cases e
def kitTab : List String := ["NoneType", "bool", "int", "str", "tuple", "list", "dict"]
def kitT (a b : String) : Bool := decide (a = b) || (decide (a = "bool") && decide (b = "int"))
theorem kitT_ok : ∀ a ∈ kitTab, ∀ b ∈ kitTab, kitB a b = some (kitT a b) := by decide +kernel
theorem tyS_mem {v : Val} {t : T} {n : String} (e : tyS v t = some n) : n ∈ kitTab := by
  unfold tyS at e
  split at e
  all_goals first
    | (cases e; decide)
    | (split at e <;> first | (cases e; decide) | cases e)
    | cases e
def kitAnyT (a : String) (bs : List String) : Bool := bs.any fun b => kitT a b
theorem kitAnyT_ok {K : PySem.W.Frag} {a : String} (ha : a ∈ kitTab) : ∀ {bs : List String}, (∀ b ∈ bs, b ∈ kitTab) → PySem.W.kitAny K (.type a) (bs.map Value.type) = some (kitAnyT a bs)
  | [], _ => rfl
  | b :: bs, h => by
    refine kitAny_cons (kit_ty (kitT_ok a ha b (h b (List.mem_cons_self ..)))) (fun e => ?_) fun e => ?_
    · rw [kitAnyT_ok ha fun c hc => h c (List.mem_cons_of_mem _ hc)]
      simp only [kitAnyT, List.any_cons, e, Bool.false_or]
    · simp only [kitAnyT, List.any_cons, e, Bool.true_or]
def fIsi (bs : List String) (v : Val) (t : T) : R Val := match tyS v t with
  | some a => retB (kitAnyT a bs) t
  | none => .stuck
theorem je_isi {X : Cx} {W : WX} {e : Expr} {m : ME Val} {b : String} {bn : Str} {p p2 pos : Pos} (hm : X.mg "isinstance" = none) (hmb : X.mg bn = none) (he : JE X W e m) (hb : b ∈ kitTab := by decide) (hg : Gl X "isinstance" := by rfl) (hgb : Gl X bn := by rfl) (hbn : bootBuiltins bn = some (.type b) := by decide +kernel)
    (hn : bn ≠ "__name__" := by decide) (hdb : (bn == ("__debug__" : Str)) = false := by decide)
    (hs1 : starEach [e, .Name bn p2] X.env = (false, eval e X.env) :: starEach [.Name bn p2] X.env := by rfl) (hs2 : starEach [.Name bn p2] X.env = (false, eval (.Name bn p2) X.env) :: starEach [] X.env := by rfl) (hpl : (backTo pos (starEach [.Name bn p2] X.env)).any (·.1) = false := by rfl) :
    JE X W (.Call (.Name "isinstance" p) [e, .Name bn p2] [] pos) (m1 (fIsi [b]) m) :=
  PE.imp (pe_callB call_isi hg hm (by decide +kernel) (pa_cons he (pa_cons (pe_bltn (v := .ty b) hgb hmb hbn rfl hn hdb) pa_nil hs2) hs1) (by decide) (by decide) hs1 hpl) fun σ H Q ⟨w, ρ, t, rt, rr, p⟩ => by
    refine ⟨w, ρ, t, rt, rr, PostE.imp (PostE.bind p) fun w1 H1 v t1 e1 s1 r1 q1 x rx => ?_⟩
    have q := q1 t1 e1 r1
    unfold fIsi at q
    split at q
    · rename_i a ea
      refine ⟨x, .ty b, .type a, .type b, kitAnyT a [b], rfl, .ty b, tyS_ok r1 rx ea, ?_, q.here r1 _ (Rep.bl _)⟩
      rw [kit_ty (kitT_ok a (tyS_mem ea) b hb)]
      simp [kitAnyT]
    · exact q.elim
theorem je_isi2 {X : Cx} {W : WX} {e : Expr} {m : ME Val} {b c : String} {bn cn : Str} {k : Nat} {p p2 p3 p4 pos : Pos} (hm : X.mg "isinstance" = none) (hmb : X.mg bn = none) (hmc : X.mg cn = none) (he : JE X W e m) (hb : b ∈ kitTab := by decide) (hc : c ∈ kitTab := by decide) (hg : Gl X "isinstance" := by rfl) (hgb : Gl X bn := by rfl) (hgc : Gl X cn := by rfl)
    (hbn : bootBuiltins bn = some (.type b) := by decide +kernel) (hcn : bootBuiltins cn = some (.type c) := by decide +kernel)
    (hn : bn ≠ "__name__" := by decide) (hdb : (bn == ("__debug__" : Str)) = false := by decide) (hnc : cn ≠ "__name__" := by decide) (hdc : (cn == ("__debug__" : Str)) = false := by decide)
    (hs1 : starEach [e, .Tuple [.Name bn p2, .Name cn p3] k p4] X.env = (false, eval e X.env) :: starEach [.Tuple [.Name bn p2, .Name cn p3] k p4] X.env := by rfl) (hs2 : starEach [.Tuple [.Name bn p2, .Name cn p3] k p4] X.env = (false, eval (.Tuple [.Name bn p2, .Name cn p3] k p4) X.env) :: starEach [] X.env := by rfl)
    (hpl : (backTo pos (starEach [.Tuple [.Name bn p2, .Name cn p3] k p4] X.env)).any (·.1) = false := by rfl)
    (hs3 : starEach [.Name bn p2, .Name cn p3] X.env = (false, eval (.Name bn p2) X.env) :: starEach [.Name cn p3] X.env := by rfl) (hs4 : starEach [.Name cn p3] X.env = (false, eval (.Name cn p3) X.env) :: starEach [] X.env := by rfl) :
    JE X W (.Call (.Name "isinstance" p) [e, .Tuple [.Name bn p2, .Name cn p3] k p4] [] pos) (m1 (fIsi [b, c]) m) :=
  PE.imp (pe_callB call_isiT hg hm (by decide +kernel) (pa_cons he (pa_cons (pe_tup (pa_cons (pe_bltn (v := .ty b) hgb hmb hbn rfl hn hdb) (pa_cons (pe_bltn (v := .ty c) hgc hmc hcn rfl hnc hdc) pa_nil hs4) hs3)) pa_nil hs2) hs1) (by decide) (by decide) hs1 hpl) fun σ H Q ⟨w, ρ, t, rt, rr, p⟩ => by
    refine ⟨w, ρ, t, rt, rr, PostE.imp (PostE.bind p) fun w1 H1 v t1 e1 s1 r1 q1 x rx => ?_⟩
    have q := q1 t1 e1 r1
    unfold fIsi at q
    split at q
    · rename_i a ea
      refine ⟨lim_ok (by show 2 ≤ lim; decide), fun tp htp => ?_⟩
      have st := step_new (o := .tup [.ty b, .ty c]) r1 htp
      have rn := r1.new (o := .tup [.ty b, .ty c]) htp
      refine ⟨x, tp, [.ty b, .ty c], .type a, [.type b, .type c], kitAnyT a [b, c], rfl, upd_same, .cons (.ty b) (.cons (.ty c) .nil), tyS_ok rn (rx.mono st) ea, kitAnyT_ok (tyS_mem ea) (bs := [b, c]) (fun z hz => ?_), q _ _ st rn _ (Rep.bl _)⟩
      have hz' : z = b ∨ z = c := by simpa using hz
      rcases hz' with rfl | rfl
      · exact hb
      · exact hc
    · exact q.elim
def rSortD (K : PySem.W.Frag) : List V → Hp → VK → Prop := fun vs H Q => ∃ (a : Addr) (bs : List (V × PyData)), vs = [.ref a] ∧ SqL K H a (bs.map (·.1)) ∧ (∀ b ∈ bs, Dp K H b.1 b.2) ∧ PySem.W.AllAlike (bs.map (·.2)) ∧ PySem.W.Sortable (bs.map (·.2)) ∧ (∀ b ∈ bs, b.2.depth ≤ 60) ∧
  ∀ p, H p = none → Q (.ref p) (upd H p (.lst ((bs.mergeSort (PySem.W.dataLe false (·.2))).map (·.1))))
theorem eachR {R : Value → (V × PyData) → Prop} : ∀ {bs : List (V × PyData)} {its : List Value}, Vals (bs.map (·.1)) its → (∀ b ∈ bs, ∀ u, RelV b.1 u → R u b) → PySem.W.EachIs R its bs
  | [], _, .nil, _ => .nil
  | b :: bs, _, .cons r rs, h => .cons (h b (List.mem_cons_self ..) _ r) (eachR rs fun c hc u ru => h c (List.mem_cons_of_mem _ hc) u ru)
theorem each_vals : ∀ {out : List Value} {cs : List (V × PyData)}, PySem.W.EachIs (fun u (b : V × PyData) => RelV b.1 u) out cs → Vals (cs.map (·.1)) out
  | _, _, .nil => .nil
  | _, _, .cons h hs => .cons h (each_vals hs)
theorem cr_sortD {X : Cx} (hu : X.A.units + 65 < cLine) : CallR X (.builtin "sorted") (rSortD X.K) := by
  intro pins s σ H vs us Q I r h
  obtain ⟨a, bs, rfl, hs, hd, hal, hk, hdep, q⟩ := h
  obtain ⟨its, rv, hl, hz⟩ := I.list hs
  rw [Vals.ref1 r]
  refine PySem.W.sorted_data (R := fun u (b : V × PyData) => RelV b.1 u) (enc := (·.2)) hl.isList (eachR rv fun b _ u ru => ru) (eachR rv fun b hb u ru => Dp.reads I b.2 b.1 u (hd b hb) ru) hal hk (by rw [List.length_map] at hz; exact hz) (fun b hb => by have := hdep b hb; show X.A.units + 2 + b.2.depth < cLine; omega) fun out ho eo => ?_
  obtain ⟨ep, he'⟩ := PyProof.Rows.sortedAll_at s.heap its out.toArray
  have hlen : ((bs.mergeSort (PySem.W.dataLe false (·.2))).map (·.1)).length ≤ sizeLine := by
    rw [List.length_map, List.length_mergeSort]
    rw [List.length_map] at hz
    exact hz
  exact ⟨.ref _, upd H (s.heap.objs.size + 1) (.lst ((bs.mergeSort (PySem.W.dataLe false (·.2))).map (·.1))), I.laid (t' := s.toks) (fun _ _ => PyProof.Rows.sortedAll_old) (Nat.le_succ _) ⟨hlen, out, ep, each_vals eo, he'⟩, rfl, q _ (I.hok.fresh (Nat.le_succ _))⟩
def withPy : List D → Option (List (D × PyData))
  | [] => some []
  | d :: ds => match toPy d, withPy ds with
    | some y, some ys => some ((d, y) :: ys)
    | _, _ => none
def alikeB (ds : List PyData) : Bool := ds.all fun d => ds.all fun d' => PySem.W.alike d d'
def isTup1 : PyData → Bool
  | .tuple (_ :: _) => true
  | _ => false
def notTN : PyData → Bool
  | .none => false
  | .tuple _ => false
  | _ => true
def sortB (ds : List PyData) : Bool := ds.all isTup1 || ds.all notTN
theorem alikeB_ok {ds : List PyData} (h : alikeB ds = true) : PySem.W.AllAlike ds := fun d hd d' hd' => by
  have := List.all_eq_true.mp (List.all_eq_true.mp h d hd) d' hd'
  exact this
theorem sortB_ok {ds : List PyData} (h : sortB ds = true) : PySem.W.Sortable ds := by
  rcases Bool.or_eq_true_iff.mp h with h | h
  · refine .inl fun d hd => ?_
    have := List.all_eq_true.mp h d hd
    unfold isTup1 at this
    split at this
    · exact ⟨_, _, rfl⟩
    · cases this
  · refine .inr fun d hd => ?_
    have := List.all_eq_true.mp h d hd
    unfold notTN at this
    split at this
    · cases this
    · cases this
    · rename_i n1 n2
      exact ⟨n1, fun xs e => n2 xs e⟩
def sortD (bs : List (D × PyData)) : List D := (bs.mergeSort (PySem.W.dataLe false (·.2))).map (·.1)
def okSort (bs : List (D × PyData)) : Bool := alikeB (bs.map (·.2)) && (sortB (bs.map (·.2)) && bs.all fun b => decide (b.2.depth ≤ 60))
def sortV (us : List Val) : Option (List D) := match datas us with
  | some ds => (match withPy ds with
    | some bs => if okSort bs then some (sortD bs) else none
    | none => none)
  | none => none
theorem withPy_rep {K : PySem.W.Frag} {F H : Hp} (e : Ex F H) : ∀ {ds : List D} {bs : List (D × PyData)} {xs : List V}, withPy ds = some bs → Reps K F xs ds → ∃ cs : List ((V × PyData) × D), cs.map (fun c => c.1.1) = xs ∧ cs.map (fun c => (c.2, c.1.2)) = bs ∧ ∀ c ∈ cs, Dp K H c.1.1 c.1.2 ∧ Rep K F c.1.1 c.2
  | [], _, _, h, .nil => by cases h; exact ⟨[], rfl, rfl, fun _ z => nomatch z⟩
  | d :: ds, _, _, h, .cons (v := x) hr hs => by
    simp only [withPy] at h
    split at h
    · rename_i y ys ey eys
      cases h
      obtain ⟨cs, h1, h2, h3⟩ := withPy_rep e eys hs
      refine ⟨((x, y), d) :: cs, by simp [h1], by simp [h2], fun c hc => ?_⟩
      rcases List.mem_cons.mp hc with rfl | hc
      · exact ⟨toPy_dp e ey hr, hr⟩
      · exact h3 c hc
    · cases h
theorem reps_of {K : PySem.W.Frag} {F : Hp} : ∀ {cs : List ((V × PyData) × D)}, (∀ c ∈ cs, Rep K F c.1.1 c.2) → Reps K F (cs.map fun c => c.1.1) (cs.map fun c => c.2)
  | [], _ => .nil
  | c :: cs, h => .cons (h c (List.mem_cons_self ..)) (reps_of fun d hd => h d (List.mem_cons_of_mem _ hd))
theorem sortV_ok {K : PySem.W.Frag} {w : Wd} {H : Hp} {us : List Val} {xs : List V} {ds : List D} {a : Addr} {Q : VK} (hs : RepVs K w H xs us) (hq : SqL K H a xs) (e : sortV us = some ds)
    (q : ∀ p ys, H p = none → Reps K (Fz w H) ys ds → Q (.ref p) (upd H p (.lst ys))) : rSortD K [.ref a] H Q := by
  unfold sortV at e
  split at e
  · rename_i es ee
    split at e
    · rename_i bs eb
      split at e
      · rename_i hok
        cases e
        obtain ⟨cs, h1, h2, h3⟩ := withPy_rep (Fz.ex (w := w) (H := H)) eb (datas_rep ee hs)
        unfold okSort at hok
        simp only [Bool.and_eq_true] at hok
        obtain ⟨o1, o2, o3⟩ := hok
        have m2 : (cs.map fun c => c.1).map (·.2) = bs.map (·.2) := by rw [← h2]; simp [Function.comp_def]
        have m1 : (cs.map fun c => c.1).map (·.1) = xs := by rw [← h1]; simp [Function.comp_def]
        refine ⟨a, cs.map fun c => c.1, rfl, by rw [m1]; exact hq, fun b hb => ?_, by rw [m2]; exact alikeB_ok o1, by rw [m2]; exact sortB_ok o2, fun b hb => ?_, fun p hp => ?_⟩
        · obtain ⟨c, hc, rfl⟩ := List.mem_map.mp hb
          exact (h3 c hc).1
        · obtain ⟨c, hc, rfl⟩ := List.mem_map.mp hb
          have hm : (c.2, c.1.2) ∈ bs := by rw [← h2]; exact List.mem_map.mpr ⟨c, hc, rfl⟩
          exact of_decide_eq_true (List.all_eq_true.mp o3 _ hm)
        · have e1 : ((cs.map fun c => c.1).mergeSort (PySem.W.dataLe false (·.2))) = (cs.mergeSort (PySem.W.dataLe false fun c => c.1.2)).map fun c => c.1 := (List.map_mergeSort (f := fun c : (V × PyData) × D => c.1) (fun _ _ _ _ => rfl)).symm
          have e2 : sortD bs = (cs.mergeSort (PySem.W.dataLe false fun c => c.1.2)).map fun c => c.2 := by
            unfold sortD
            rw [← h2, ← List.map_mergeSort (r := PySem.W.dataLe false fun c => c.1.2) (f := fun c : (V × PyData) × D => (c.2, c.1.2)) (fun _ _ _ _ => rfl), List.map_map]
            rfl
          rw [e1, List.map_map]
          refine q p _ hp ?_
          rw [e2]
          exact reps_of fun c hc => (h3 c ((List.mergeSort_perm ..).mem_iff.mp hc)).2
      · cases e
    · cases e
  · cases e
def fSorted (vs : List Val) (t : T) : R Val := match vs with
  | [v] => (match asList v t with
    | some us => (match sortV us with
      | some ds => .ok (.d (.lst ds)) t
      | none => .stuck)
    | none => .stuck)
  | _ => .stuck
theorem c_sorted {K : PySem.W.Frag} {W : WX} : CallS K W (rSortD K) fSorted := by
  intro w t σ H xs vs Q r rx p
  unfold fSorted at p
  split at p
  · split at p
    · rename_i us eu
      split at p
      · rename_i ds ed
        obtain ⟨x, rfl, rx1⟩ := rx.one
        obtain ⟨a, ys, rfl, hq, hs⟩ := asList_rep r rx1 eu
        exact sortV_ok hs (SqL.of hq) ed fun p' zs hp hz => new_lst r hz p p' hp
      · exact p.elim
    · exact p.elim
  · exact p.elim
end En
set_option Elab.async false
set_option linter.all false
set_option maxRecDepth 100000
set_option maxHeartbeats 2000000
namespace En
open PySem PySem.Spec PyProof.Rows L2
theorem contains_own {M : Model} {A : Around} {E : Value → Shared → Prop} {s : Shared} {K : PySem.W.Frag} {x C f : Addr} {ox : Obj} {od : Option Obj} {v : Value} {Q : Bool → Shared → Prop} (X : K.In s.heap) (I : PySem.W.InstAt s.heap x ox C od) (hs : PySem.W.findIn K (.ref C) "__contains__" = some (some (.ref f))) (hf : PySem.W.isFn K (.ref f) = true)
    (h : wpAny M A (call (.ref f) [.ref x, v]) (fun r s' => wpAny M A (truthy r) Q E s') E s) : wpAny M A (contains (.ref x) v) Q E s := by
  unfold contains
  refine wpAny_holding (wpAny_bind (wpAny_bind (I.type.here ((PySem.W.looks_findIn X hs).here ?_))))
  rw [if_neg (by simp)]
  exact wpAny_bind (PySem.W.unlessNone_K X I hs hf h)
def rInO (K : PySem.W.Frag) (c : Str) (sp : Sp) (neg : Bool) : R2 := fun x y H Q => ∃ a dx fs, y = .ref a ∧ H a = some (.ins (He.ga K c) dx fs) ∧ sp [.ref a, x] H (fun v H' => ∃ b, v = .bl b ∧ Q (.bl (xor neg b)) H') E0
section
variable {X : Cx} {k : Nat} {f : Addr} {fd : FuncData} {ps : List Str} {c : Str} {sp : Sp} {mf : MF}
theorem op_inO (hm : Meth X.K (He.ga X.K c) "__contains__" f) (F : FnOk X.prog X.w X.K X.mg X.base (L2.CX X.prog X.w) k f fd ps sp) (hr : Room k X.A) (hb : Binds X.K fd ps []) : OpR X (compareOp .In) (rInO X.K c sp false) := by
  intro pins s σ H x y v u Q I rx ry h
  obtain ⟨a, dx, fs, rfl, ha, q⟩ := h
  obtain rfl : u = Value.ref a := ry
  obtain ⟨mA, O, _, _, _, _⟩ := ins_get I.hok ha
  obtain ⟨od, J, _⟩ := O.look
  refine wpAny_bind (contains_own I.kIn J hm.at_ hm.fn (thn (run_fn (us := [.ref a, v]) (vs := [.ref a, x]) (dvs := []) F hr hb .nil passL I (.cons rfl (.cons rx .nil)) q) fun r s1 ⟨z, H1, I1, rz, b, ez, q1⟩ => ?_))
  subst ez
  obtain rfl : r = Value.bool b := rz
  refine wpAny_truthy_bool (wpAny_pure ⟨.bl b, H1, I1, rfl, ?_⟩)
  have e : xor false b = b := by cases b <;> rfl
  rw [e] at q1
  exact q1
theorem op_notInO (hm : Meth X.K (He.ga X.K c) "__contains__" f) (F : FnOk X.prog X.w X.K X.mg X.base (L2.CX X.prog X.w) k f fd ps sp) (hr : Room k X.A) (hb : Binds X.K fd ps []) : OpR X (compareOp .NotIn) (rInO X.K c sp true) := by
  intro pins s σ H x y v u Q I rx ry h
  obtain ⟨a, dx, fs, rfl, ha, q⟩ := h
  obtain rfl : u = Value.ref a := ry
  obtain ⟨mA, O, _, _, _, _⟩ := ins_get I.hok ha
  obtain ⟨od, J, _⟩ := O.look
  refine wpAny_bind (contains_own I.kIn J hm.at_ hm.fn (thn (run_fn (us := [.ref a, v]) (vs := [.ref a, x]) (dvs := []) F hr hb .nil passL I (.cons rfl (.cons rx .nil)) q) fun r s1 ⟨z, H1, I1, rz, b, ez, q1⟩ => ?_))
  subst ez
  obtain rfl : r = Value.bool b := rz
  refine wpAny_truthy_bool (wpAny_pure ⟨.bl (!b), H1, I1, rfl, ?_⟩)
  have e : xor true b = !b := by cases b <;> rfl
  rw [e] at q1
  exact q1
end
def fInO (c : Str) (mf : MF) (neg : Bool) (a b : Val) (t : T) : R Val := match clsOf b with
  | some c' => if c' = c then (noX (fCall mf [b, a] t)).bind fun v t => (match v with
    | .d (.bl k) => .ok (.d (.bl (xor neg k))) t
    | _ => .stuck) else .stuck
  | none => .stuck
theorem s_inO {K : PySem.W.Frag} {W : WX} {c : Str} {mf : MF} {neg : Bool} : OpS K W (rInO K c (spF K 2 mf) neg) (fInO c mf neg) := by
  intro w t σ H x y a b Q r rx ry p
  unfold fInO at p
  split at p
  · rename_i c' ec
    split at p
    · rename_i hcc
      subst hcc
      obtain ⟨_, a1, dx, fs, rfl, ha⟩ := clsOf_rep ry ec
      refine ⟨a1, dx, fs, rfl, ha, ?_⟩
      refine call_sim0 (K := K) (W := W) (σ := σ) rfl r (.cons ry (.cons rx .nil)) ?_
      refine PostE.imp (PostE.bind p) fun w1 H1 v t1 e1 s1 r1 q1 z rz => ?_
      have q := q1 t1 e1 r1
      split at q
      · rename_i k
        cases rz
        exact ⟨k, rfl, q.here r1 _ (Rep.bl _)⟩
      · exact q.elim
    · exact p.elim
  · exact p.elim
def tMethS (C : Addr) (m : Str) (sp : Sp) (E : L2.St → XK) (ta : TE) (t : TA) : TE := fun σ H Q => ta σ H fun x H1 => ∃ a dx fs, x = .ref a ∧ H1 a = some (.ins C dx fs) ∧ fs.lookup m = none ∧ t σ H1 fun vs H2 => sp (x :: vs) H2 Q (E σ)
section
variable {X : Cx} {W : WX} {k : Nat} {f C : Addr} {fd : FuncData} {ps : List Str} {sp : Sp} {x m : Str} {p pos apos : Pos} {e o : Expr} {es : List Expr} {ta : TE} {t : TA}
theorem pe_methS {pl : Sem Bool} (he : PE X o ta) (c : Cls X.K C) (hm : Meth X.K C m f) (F : FnOk X.prog X.w X.K X.mg X.base (L2.CX X.prog X.w) k f fd ps sp) (hr : Room k X.A) (hb : Binds X.K fd ps []) (tk : Takes X W) (ha : PA X (e :: es) t)
    (hst : starEach (e :: es) X.env = (false, eval e X.env) :: starEach es X.env := by rfl) (hpl : (backTo pos (starEach es X.env)).any (·.1) = false := by rfl)
    (ht : eval (.Call (.Attribute o m apos) (e :: es) [] pos) X.env = (do
      let ov ← eval o X.env
      standAt apos.atName
      let (f, first) ← holding [ov] (getMethod ov m pl)
      callWith pos f first (backTo pos (starEach (e :: es) X.env)) (backToKw pos (keywordEach [] X.env))) := by rfl) :
    PE X (.Call (.Attribute o m apos) (e :: es) [] pos) (tMethS C m sp (WE W) ta t) := by
  refine ⟨fun pins s σ H Q I h => ?_⟩
  refine PySem.W.methodCall_KW (pl := pl) (thn (he.run pins s σ H _ I h) fun u s1 ⟨x, H1, I1, rx, a, dx, fs, ex, ea, l, q⟩ => ?_) ht
  subst ex
  obtain rfl : u = Value.ref a := rx
  refine getmeth_ok I1 ea c hm l ?_
  refine PySem.W.callWith_K (first := [.ref a]) (h₀ := X.base) I.ok.mod.kin hm.kp (thn (ha.run pos pins s1 σ H1 _ I1 q) fun us s2 ⟨vs, H2, I2, r, q2⟩ => ⟨I2.kIn, ?_⟩) hst hpl
  exact run_fnSD (us := .ref a :: us) (vs := .ref a :: vs) (dvs := []) F hr hb .nil (passAt tk σ) I2 (.cons rfl r) (by rw [List.append_nil]; exact q2)
theorem pe_methS0 {pl : Sem Bool} (he : PE X o ta) (c : Cls X.K C) (hm : Meth X.K C m f) (F : FnOk X.prog X.w X.K X.mg X.base (L2.CX X.prog X.w) k f fd ps sp) (hr : Room k X.A) (hb : Binds X.K fd ps []) (tk : Takes X W)
    (ht : eval (.Call (.Attribute o m apos) [] [] pos) X.env = (do
      let ov ← eval o X.env
      standAt apos.atName
      let (f, first) ← holding [ov] (getMethod ov m pl)
      callWith pos f first (backTo pos (starEach [] X.env)) (backToKw pos (keywordEach [] X.env))) := by rfl) :
    PE X (.Call (.Attribute o m apos) [] [] pos) (tMethS C m sp (WE W) ta tNil) := by
  refine ⟨fun pins s σ H Q I h => ?_⟩
  refine PySem.W.methodCall_KW (pl := pl) (thn (he.run pins s σ H _ I h) fun u s1 ⟨x, H1, I1, rx, a, dx, fs, ex, ea, l, q⟩ => ?_) ht
  subst ex
  obtain rfl : u = Value.ref a := rx
  refine getmeth_ok I1 ea c hm l ?_
  exact PySem.W.callWith_K0 (first := [.ref a]) I1.kIn hm.kp (run_fnSD (us := [.ref a]) (vs := [.ref a]) (dvs := []) F hr hb .nil (passAt tk σ) I1 (.cons rfl .nil) q)
end
theorem meth_sim {K : PySem.W.Frag} {W : WX} {c m : Str} {mf : MF} {mo : ME Val} {ma : ME (List Val)} {n : Nat} (hla : ∀ ρ t vs t', ma ρ t = .ok vs t' → vs.length = n) : ∀ σ H Q, tM K W (mMethO c m mf mo ma) σ H Q → tMethS (He.ga K c) m (spF K (n + 1) mf) (WE W) (tM K W mo) (tMA K W ma) σ H Q := fun σ H Q ⟨w, ρ, t, rt, rr, p⟩ => by
  refine ⟨w, ρ, t, rt, rr, PostE.imp (PostE.bind p) fun w1 H1 o t1 e1 s1 r1 q1 x rx => ?_⟩
  have q := q1 t1 e1 r1
  split at q
  · rename_i c' fs
    split at q
    · rename_i hc
      obtain ⟨rfl, hl⟩ := hc
      have rx' : Rep K (Fz w1 H1) x (.ins c' fs) := rx
      cases rx' with
      | ins h hs =>
        refine ⟨_, _, _, rfl, (Fz.of h).1, repF_none hs hl, w1, ρ, t1, r1, rr.mono s1, PostE.imp (PostE.bind q) fun w2 H2 vs t2 e2 s2 r2 q2 xs rxs => ?_⟩
        exact call_sim (by rw [List.length_cons, rxs.length, hla ρ t1 vs t2 e2]) r2 (.cons (rx.mono s2) rxs) (q2 t2 e2 r2)
    · exact q.elim
  · exact q.elim
section
variable {X : Cx} {W : WX} {k n : Nat} {f : Addr} {fd : FuncData} {ps : List Str} {c m : Str} {p pos apos : Pos} {e o : Expr} {es : List Expr} {mf : MF} {mo : ME Val} {ma : ME (List Val)}
theorem je_meth {pl : Sem Bool} (he : JE X W o mo) (hc : Cls X.K (He.ga X.K c)) (hm : Meth X.K (He.ga X.K c) m f) (F : FnOk X.prog X.w X.K X.mg X.base (L2.CX X.prog X.w) k f fd ps (spF X.K (n + 1) mf)) (hr : Room k X.A) (hb : Binds X.K fd ps []) (tk : Takes X W) (ha : JA X W (e :: es) ma)
    (hla : ∀ ρ t vs t', ma ρ t = .ok vs t' → vs.length = n)
    (hst : starEach (e :: es) X.env = (false, eval e X.env) :: starEach es X.env := by rfl) (hpl : (backTo pos (starEach es X.env)).any (·.1) = false := by rfl)
    (ht : eval (.Call (.Attribute o m apos) (e :: es) [] pos) X.env = (do
      let ov ← eval o X.env
      standAt apos.atName
      let (f, first) ← holding [ov] (getMethod ov m pl)
      callWith pos f first (backTo pos (starEach (e :: es) X.env)) (backToKw pos (keywordEach [] X.env))) := by rfl) :
    JE X W (.Call (.Attribute o m apos) (e :: es) [] pos) (mMethO c m mf mo ma) := PE.imp (pe_methS (pl := pl) he hc hm F hr hb tk ha hst hpl ht) (meth_sim hla)
theorem je_meth0 {pl : Sem Bool} (he : JE X W o mo) (hc : Cls X.K (He.ga X.K c)) (hm : Meth X.K (He.ga X.K c) m f) (F : FnOk X.prog X.w X.K X.mg X.base (L2.CX X.prog X.w) k f fd ps (spF X.K 1 mf)) (hr : Room k X.A) (hb : Binds X.K fd ps []) (tk : Takes X W)
    (ht : eval (.Call (.Attribute o m apos) [] [] pos) X.env = (do
      let ov ← eval o X.env
      standAt apos.atName
      let (f, first) ← holding [ov] (getMethod ov m pl)
      callWith pos f first (backTo pos (starEach [] X.env)) (backToKw pos (keywordEach [] X.env))) := by rfl) :
    JE X W (.Call (.Attribute o m apos) [] [] pos) (mMethO c m mf mo mNil) :=
  PE.imp (pe_methS0 (pl := pl) he hc hm F hr hb tk ht) fun σ H Q h => by
    obtain ⟨w, ρ, t, rt, rr, p⟩ := meth_sim (n := 0) mNil_len σ H Q h
    refine ⟨w, ρ, t, rt, rr, PostE.imp p fun w1 H1 o t1 e1 s1 r1 q1 x rx => ?_⟩
    obtain ⟨a, dx, fs, h1, h2, h3, w2, ρ2, t2, rt2, rr2, p2⟩ := q1 x rx
    exact ⟨a, dx, fs, h1, h2, h3, p2.here rt2 [] .nil⟩
end
def fRepl (y z : Str) (v : Val) (t : T) : R Val := match v with
  | .d (.str x) => if x.length + (x.length + 1) * z.length ≤ 16777216 then .ok (.d (.str (Txt.replace x y z))) t else .stuck
  | _ => .stuck
theorem je_joinRepl {X : Cx} {W : WX} {e : Expr} {ma : ME (List Val)} {a y z : Str} {i j k : Nat} {p0 ap cp c0 c1 apos pos : Pos} (ha : JA X W [e] ma) (hyz : (y == z) = false := by decide)
    (hst : starEach [.Constant (.str y) j c0, .Constant (.str z) k c1] X.env = [(false, eval (.Constant (.str y) j c0) X.env), (false, eval (.Constant (.str z) k c1) X.env)] := by rfl)
    (hbase : attributeBase (.Call (.Attribute (.Constant (.str a) i p0) "join" ap) [e] [] cp) "replace" X.env (eval (.Call (.Attribute (.Constant (.str a) i p0) "join" ap) [e] [] cp) X.env) = eval (.Call (.Attribute (.Constant (.str a) i p0) "join" ap) [e] [] cp) X.env := by rfl)
    (hline : (apos.endLine == pos.line) = true := by rfl)
    (hbase1 : attributeBase (.Constant (.str a) i p0) "join" X.env (eval (.Constant (.str a) i p0) X.env) = eval (.Constant (.str a) i p0) X.env := by rfl)
    (hfew : ((backTo cp (starEach [e] X.env)).all (fun x => !x.1) && (backToKw cp (keywordEach [] X.env)).all (fun x => x.1.isSome)
      && decide ([e].length + ([] : List Keyword).length + (if ([] : List Keyword).isEmpty then 0 else 1) < 30)) = true := by rfl)
    (hline1 : (ap.endLine == cp.line) = true := by rfl) (hs : starEach [e] X.env = (false, eval e X.env) :: starEach [] X.env := by rfl) (hplain : (backTo cp (starEach [] X.env)).any (·.1) = false := by rfl) :
    JE X W (.Call (.Attribute (.Call (.Attribute (.Constant (.str a) i p0) "join" ap) [e] [] cp) "replace" apos) [.Constant (.str y) j c0, .Constant (.str z) k c1] [] pos) (m1 (fRepl y z) (mMeth isStrB fJoin (mC (.str a)) ma)) := by
  refine PE.imp (t := fun σ H Q => (tMA X.K W ma) σ H fun xs H2 => rJoin X.K (.str a) xs H2 fun v H3 => ∃ x, v = .str x ∧ x.length + (x.length + 1) * z.length ≤ 16777216 ∧ Q (.str (Txt.replace x y z)) H3) ⟨fun pins s σ H Q I h => ?_⟩ fun σ H Q ⟨w, ρ, t, rt, rr, p⟩ => ?_
  · refine PySem.Call_method2 hbase hst hline ?_
    refine wpAny_Call_method_late hbase1 hfew hline1 rfl (Calls.Constant_str ?_)
    refine ⟨"str", _, PySem.F.plainAttrs_str, PySem.F.slot_str_join, PySem.F.type_str_join, typeIs_str _ _ _, (fun _ e => nomatch e), ?_⟩
    have hA := ha.run cp pins { s with toks := s.toks + 1 } σ H _ (I.tok _) h
    rw [hs] at hA ⊢
    refine Calls.callWith_builtin (by show (false || (backTo cp (starEach [] X.env)).any (·.1)) = false; rw [hplain] <;> rfl) (Calls.evalArgs_plain ?_)
    refine wpAny_mono (PySem.wpAny_toks hA) (fun us s2 q => ?_) fun _ _ z => z.2
    obtain ⟨hk, vs, H2, I2, r2, q2⟩ := q
    refine wpAny_mono (PySem.wpAny_toks (mt_join pins s2 σ H2 (.str a) vs (.str a s.toks) us (fun v H3 => ∃ x, v = .str x ∧ x.length + (x.length + 1) * z.length ≤ 16777216 ∧ Q (.str (Txt.replace x y z)) H3) I2 ⟨_, rfl⟩ r2 q2)) (fun v s3 q => ?_) fun _ _ z => z.2
    obtain ⟨hk3, v', H3, I3, r3, x, e3, hb, q3⟩ := q
    subst e3
    obtain ⟨tx, rfl⟩ := r3
    have hk' : s.toks + 1 ≤ s2.toks := hk
    refine ⟨"str", _, PySem.F.plainAttrs_str, PySem.F.slot_str_replace, PySem.F.type_str_replace, typeIs_str _ _ _, (fun _ e => nomatch e), Calls.callWith_builtin rfl (Calls.evalArgs_plain (Calls.spliced_cons ?_))⟩
    refine Calls.Constant_str (Calls.spliced_cons (Calls.Constant_str (Calls.spliced_nil ?_)))
    exact PySem.SC.replace (by show s3.toks ≠ 0; omega) (by show s3.toks + 1 ≠ 0; omega) (by show s3.toks ≠ s3.toks + 1; omega) hyz hb fun t' k => ⟨.str (Txt.replace x y z), H3, I3.tok k, ⟨t', rfl⟩, q3⟩
  · have p2 : PostE X.K W σ w H (fun w1 H1 v => ∀ t2, ((ma ρ t).bind fun vs t => fJoin (.d (.str a)) vs t) = .ok v t2 → RelT X.K w1 t2 H1 → PostE X.K W σ w1 H1 (fun w' H' v => ∀ x, RepV X.K w' H' x v → Q x H') (fRepl y z v t2)) ((ma ρ t).bind fun vs t => fJoin (.d (.str a)) vs t) := PostE.bind p
    refine ⟨w, ρ, t, rt, rr, PostE.imp (PostE.bind p2) fun w1 H1 vs t1 e1 s1 r1 q1 xs rxs => ?_⟩
    have q := q1 t1 e1 r1
    refine m_join (W := W) (σ := σ) w1 t1 H1 (.str a) xs (.d (.str a)) vs _ r1 (Rep.str a) rxs (PostE.imp q fun w2 H2 v t2 e2 s2 r2 q2 x rx => ?_)
    have q3 := q2 t2 (by rw [e1]; exact e2) r2
    unfold fRepl at q3
    split at q3
    · rename_i x'
      cases rx
      split at q3
      · rename_i hl
        exact ⟨x', rfl, hl, q3.here r2 _ (Rep.str _)⟩
      · exact q3.elim
    · exact q3.elim
end En
set_option Elab.async false
set_option linter.all false
set_option maxRecDepth 100000
set_option maxHeartbeats 2000000
namespace En
open PySem PySem.Spec PyProof.Rows L2
mutual
def repKB (K : PySem.W.Frag) : D → Value → Bool
  | .non, .none => true
  | .bl b, .bool c => b == c
  | .int i, .int j _ => decide (i = j)
  | .str x, .str y _ => decide (x = y)
  | .tup ds, .ref a => (match K.lookup a with
    | some ⟨.type c, _, .seq its _, _⟩ => decide (c = "tuple") && (decide (its.size ≤ sizeLine) && repKBs K ds its.toList)
    | _ => false)
  | _, _ => false
def repKBs (K : PySem.W.Frag) : List D → List Value → Bool
  | [], [] => true
  | d :: ds, u :: us => repKB K d u && repKBs K ds us
  | _, _ => false
end
mutual
theorem repKB_ok {K : PySem.W.Frag} : ∀ (d : D) (u : Value), repKB K d u = true → ∃ v, RelV v u ∧ ∀ F, Rep K F v d
  | .non, u, h => by
    cases u <;> simp only [repKB] at h <;> first | (cases h; done) | exact ⟨.non, rfl, fun _ => .non⟩
  | .bl b, u, h => by
    cases u <;> simp only [repKB] at h <;> first | (cases h; done) | skip
    rename_i c
    have e : b = c := eq_of_beq h
    subst e
    exact ⟨.bl b, rfl, fun _ => .bl b⟩
  | .int i, u, h => by
    cases u <;> simp only [repKB] at h <;> first | (cases h; done) | skip
    rename_i j t
    have e : i = j := of_decide_eq_true h
    subst e
    exact ⟨.int i, ⟨t, rfl⟩, fun _ => .int i⟩
  | .str x, u, h => by
    cases u <;> simp only [repKB] at h <;> first | (cases h; done) | skip
    rename_i y t
    have e : x = y := of_decide_eq_true h
    subst e
    exact ⟨.str x, ⟨t, rfl⟩, fun _ => .str x⟩
  | .tup ds, u, h => by
    cases u <;> simp only [repKB] at h <;> first | (cases h; done) | skip
    rename_i a
    split at h
    · rename_i c od its n sl hl
      simp only [Bool.and_eq_true, decide_eq_true_eq] at h
      obtain ⟨h1, h2, h3⟩ := h
      obtain ⟨vs, hv, hr⟩ := repKBs_ok ds its.toList h3
      exact ⟨.ref a, rfl, fun F => .tup (.inr ⟨_, its, n, hl, congrArg Value.type h1, rfl, h2, hv⟩) (hr F)⟩
    · cases h
  | .lst _, u, h => by cases u <;> simp only [repKB] at h <;> cases h
  | .ins _ _, u, h => by cases u <;> simp only [repKB] at h <;> cases h
  | .dK _, u, h => by cases u <;> simp only [repKB] at h <;> cases h
  | .dT _, u, h => by cases u <;> simp only [repKB] at h <;> cases h
  | .scr _, u, h => by cases u <;> simp only [repKB] at h <;> cases h
theorem repKBs_ok {K : PySem.W.Frag} : ∀ (ds : List D) (us : List Value), repKBs K ds us = true → ∃ vs, Vals vs us ∧ ∀ F, Reps K F vs ds
  | [], [], _ => ⟨[], .nil, fun _ => .nil⟩
  | [], _ :: _, h => by simp only [repKBs] at h; cases h
  | _ :: _, [], h => by simp only [repKBs] at h; cases h
  | d :: ds, u :: us, h => by
    simp only [repKBs, Bool.and_eq_true] at h
    obtain ⟨v, h1, h2⟩ := repKB_ok d u h.1
    obtain ⟨vs, h3, h4⟩ := repKBs_ok ds us h.2
    exact ⟨v :: vs, .cons h1 h3, fun F => .cons (h2 F) (h4 F)⟩
end
def GlobD (mg : Str → Option Value) (K : PySem.W.Frag) (x : Str) (d : D) : Prop := ∃ u v, mg x = some u ∧ RelV v u ∧ ∀ F, Rep K F v d
def globB (K : PySem.W.Frag) (x : Str) (d : D) : Bool := match PySem.W.nsIn K mainGlobals x with
  | some (some u) => repKB K d u
  | _ => false
theorem globB_ok {K : PySem.W.Frag} {h : Heap} {mg : Str → Option Value} (X : K.In h) (G : h.Ns mainGlobals mg) {x : Str} {d : D} (c : globB K x d = true) : GlobD mg K x d := by
  unfold globB at c
  split at c
  · rename_i u eu
    obtain ⟨v, h1, h2⟩ := repKB_ok d u c
    exact ⟨u, v, PySem.W.mg_of X G eu, h1, h2⟩
  · cases c
theorem je_gc {X : Cx} {W : WX} {x : Str} {d : D} {pos : Pos} (h : GlobD X.mg X.K x d) (hg : Gl X x := by rfl) (hd : (x == ("__debug__" : Str)) = false := by decide) : JE X W (.Name x pos) (mC d) := by
  obtain ⟨u, v, h1, h2, h3⟩ := h
  exact je_glob h3 hg h1 h2 hd
def TabD (mg : Str → Option Value) (K : PySem.W.Frag) (w : World) (x : Str) (kvs : List (Str × D)) : Prop := mg x = some (.ref (He.ga K x)) ∧ (∃ es n, KDict K w (He.ga K x) es n) ∧ ∀ q ∈ kvs, ∃ u v, PySem.W.nsIn K (He.ga K x) q.1 = some (some u) ∧ RelV v u ∧ ∀ F, Rep K F v q.2
def tabB (K : PySem.W.Frag) (x : Str) (kvs : List (Str × D)) : Bool := He.eqO (PySem.W.nsIn K mainGlobals x) (some (some (.ref (He.ga K x)))) && kvs.all fun q => match PySem.W.nsIn K (He.ga K x) q.1 with
  | some (some u) => repKB K q.2 u
  | _ => false
theorem tabB_ok {K : PySem.W.Frag} {h : Heap} {w : World} {mg : Str → Option Value} (X : K.In h) (G : h.Ns mainGlobals mg) {x : Str} {kvs : List (Str × D)} (c : tabB K x kvs = true) (t : ∃ es n, KDict K w (He.ga K x) es n) : TabD mg K w x kvs := by
  obtain ⟨c1, c2⟩ := He.ba c
  refine ⟨PySem.W.mg_of X G (He.eqO_ok c1), t, fun q hq => ?_⟩
  have h2 := List.all_eq_true.mp c2 q hq
  split at h2
  · rename_i u eu
    obtain ⟨v, h3, h4⟩ := repKB_ok q.2 u h2
    exact ⟨u, v, eu, h3, h4⟩
  · cases h2
def fTab (kvs : List (Str × D)) (v : Val) (t : T) : R Val := match v with
  | .d (.str z) => (match kvs.lookup z with
    | some d => .ok (.d d) t
    | none => .stuck)
  | _ => .stuck
theorem lookup_mem {z : Str} {d : D} : ∀ {kvs : List (Str × D)}, kvs.lookup z = some d → (z, d) ∈ kvs
  | [], h => by cases h
  | (k, e) :: r, h => by
    rw [List.lookup_cons] at h
    cases q : z == k with
    | true =>
      rw [q] at h
      have e1 : z = k := eq_of_beq q
      cases h
      rw [e1]
      exact List.mem_cons_self ..
    | false =>
      rw [q] at h
      exact List.mem_cons_of_mem _ (lookup_mem h)
def rTab (K : PySem.W.Frag) (d : Addr) : R2 := fun x y H Q => ∃ (z : Str) (u0 : Value) (v0 : V), x = .ref d ∧ y = .str z ∧ PySem.W.nsIn K d z = some (some u0) ∧ RelV v0 u0 ∧ Q v0 H
theorem ix_kd {X : Cx} {d : Addr} {es : Array DictEntry} {n : Nat} (D : KDict X.K X.w d es n) : IxR X (rTab X.K d) := by
  intro value slice pins s σ H x y v u Q I rx ry h hs
  obtain ⟨z, u0, v0, rfl, rfl, e, r, q⟩ := h
  obtain rfl : v = Value.ref d := rx
  obtain ⟨t, rfl⟩ := ry
  exact subscriptTail_builtinR (x := u0) (kd_type D I) slot_dict_getitem.lookup
    (wpAny_getItem_of (PySem.strKind_is X.prog X.w z t) (PySem.W.mapOf_K (prog := X.prog) I.kIn D.at_ D.lit) (PySem.W.find_K D.at_ e) ⟨rfl, v0, H, I.tok _, r, q⟩) hs
theorem je_tab {X : Cx} {W : WX} {x : Str} {kvs : List (Str × D)} {b : Expr} {mb : ME Val} {p pos : Pos} (h : TabD X.mg X.K X.w x kvs) (hb : JE X W b mb) (hg : Gl X x := by rfl) (hd : (x == ("__debug__" : Str)) = false := by decide) (hs : PlainIx b := by exact fun _ _ => rfl) : JE X W (.Subscript (.Name x p) b pos) (m1 (fTab kvs) mb) := by
  obtain ⟨h1, ⟨es, n, h2⟩, h3⟩ := h
  refine PE.imp (pe_ix (ix_kd h2) (pe_glob (v := .ref (He.ga X.K x)) hg h1 rfl hd) hb hs) fun σ H Q ⟨w, ρ, t, rt, rr, p⟩ => ?_
  refine ⟨w, ρ, t, rt, rr, PostE.imp (PostE.bind p) fun w1 H1 v t1 e1 s1 r1 q1 y ry => ?_⟩
  have q := q1 t1 e1 r1
  unfold fTab at q
  split at q
  · rename_i z
    cases ry
    split at q
    · rename_i d ed
      obtain ⟨u, v, h4, h5, h6⟩ := h3 _ (lookup_mem ed)
      exact ⟨z, u, v, rfl, rfl, h4, h5, q.here r1 _ (h6 _)⟩
    · exact q.elim
  · exact q.elim
structure DefX where
  adr : PySem.W.Frag → Addr
  name : Str
  qual : Str
  params : Arguments
  body : List Stmt
  scope : Scope
  dfl : List He.Dv := []
  kwd : List (Str × He.Dv) := []
def fnX (K : PySem.W.Frag) (a : Addr) : He.FnW := match K.lookup a with
  | some ⟨_, _, .func fd, _⟩ => some (fd.name, fd.qualname, fd.params, fd.body, fd.scope, fd.globals, fd.closure, fd.builtins)
  | _ => none
def DefX.val (d : DefX) : He.FnW := some (d.name, d.qual, d.params, .stmts d.body, d.scope, mainGlobals, [], builtinsNs)
def DefX.dvs (K : PySem.W.Frag) (d : DefX) : List V := d.dfl.map (He.Dv.v K)
def DefX.kws (K : PySem.W.Frag) (d : DefX) : List (Str × V) := d.kwd.map fun q => (q.1, q.2.v K)
def DefX.ok (K : PySem.W.Frag) (d : DefX) : Bool := PySem.W.keepIn K (.ref (d.adr K)) && (match K.lookup (d.adr K) with
  | some ⟨_, _, .func fd, _⟩ => PySem.W.codeIn K fd.code d.qual && (He.dflB K fd.defaults (d.dvs K) && He.kwdB K fd.kwdefaults (d.kws K))
  | _ => false)
theorem DefX.funD {K : PySem.W.Frag} {d : DefX} (e : fnX K (d.adr K) = d.val) (c : d.ok K = true) : ∃ fd, FunD K d.name d.qual d.params d.body d.scope (d.dvs K) (d.kws K) (d.adr K) fd := by
  obtain ⟨kp, c2⟩ := He.ba c
  unfold fnX at e
  cases q : K.lookup (d.adr K) with
  | none =>
    rw [q] at c2
    cases c2
  | some o =>
    obtain ⟨oc, od, dt, osl⟩ := o
    rw [q] at c2 e
    cases dt with
    | func fd =>
      obtain ⟨n1, n2, n3, n4, n5, n6, n7, n8, n9, n10, n11, n12, n13, n14, n15⟩ := fd
      have e2 : (some (n1, n2, n3, n4, n5, n6, n7, n15) : He.FnW) = some (d.name, d.qual, d.params, .stmts d.body, d.scope, mainGlobals, [], builtinsNs) := e
      simp only [Option.some.injEq, Prod.mk.injEq] at e2
      obtain ⟨h1, h2, h3, h4, h5, h6, h7, h8⟩ := e2
      subst h1 h2 h3 h4 h5 h6 h7 h8
      have c3 : (PySem.W.codeIn K n13 d.qual && (He.dflB K n8 (d.dvs K) && He.kwdB K n9 (d.kws K))) = true := c2
      obtain ⟨k1, k2⟩ := He.ba c3
      obtain ⟨k3, k4⟩ := He.ba k2
      exact ⟨_, ⟨oc, od, n8, n9, n10, n11, n12, n13, n14, osl, rfl, q, k1, He.dflB_ok k3, He.kwdB_ok k4⟩, kp⟩
    | _ => cases c2
abbrev AlX : Type := (Bool × Bool × Bool) × List He.FnW × List (Option (List (Option (Str × Int))))
def obsX (fa : List He.Fa) (fn : List DefX) (ts : List He.Tab) (xb : PySem.W.Frag → Bool) (K : PySem.W.Frag) : AlX := ((fa.all fun f => f.ok K, fn.all fun d => d.ok K, xb K), fn.map fun d => fnX K (d.adr K), ts.map fun t => He.dicW K (t.1 K))
def valX (fn : List DefX) (ts : List He.Tab) (w : World) : AlX := ((true, true, true), fn.map DefX.val, ts.map fun t => some (He.keysIn w.params t.2))
def obsXG (n : Nat) (fa : List He.Fa) (fn : List DefX) (ts : List He.Tab) (xb : PySem.W.Frag → Bool) (g : Addr → Option Obj) : AlX := obsX fa fn ts xb (He.frG g (He.asD g n))
def SaysX (fa : List He.Fa) (fn : List DefX) (ts : List He.Tab) (xb : PySem.W.Frag → Bool) (w : World) (K : PySem.W.Frag) : Prop := obsX fa fn ts xb K = valX fn ts w
def hookX (n : Nat) (fa : List He.Fa) (fn : List DefX) (ts : List He.Tab) (xb : PySem.W.Frag → Bool) : PySem.W.Hook where
  α := AlX
  obs := fun s => obsXG n fa fn ts xb s.heap.get?
  val := fun w => valX fn ts w
  says := fun w h => ∃ K : PySem.W.Frag, K.In h ∧ SaysX fa fn ts xb w K
  of := fun _ _ e => ⟨_, He.frG_in, e⟩
  keeps := fun _ _ _ ⟨K, hK, c⟩ k => ⟨K, PySem.W.Frag.In.keeps hK k, c⟩
theorem obsXG_eq {n : Nat} {fa : List He.Fa} {fn : List DefX} {ts : List He.Tab} {xb : PySem.W.Frag → Bool} {g : Addr → Option Obj} {s : Shared} (h : ∀ a, g a = s.heap.get? a) : obsXG n fa fn ts xb g = (hookX n fa fn ts xb).obs s := by
  have e : g = s.heap.get? := funext h
  rw [e] <;> rfl
section
variable {fa : List He.Fa} {fn : List DefX} {ts : List He.Tab} {xb : PySem.W.Frag → Bool} {w : World} {K : PySem.W.Frag}
theorem SaysX.fact (c : SaysX fa fn ts xb w K) (i : Nat) {f : He.Fa} (h : fa[i]? = some f := by rfl) : f.ok K = true :=
  List.all_eq_true.mp (congrArg (fun z : AlX => z.1.1) c) f (List.mem_of_getElem? h)
theorem SaysX.x (c : SaysX fa fn ts xb w K) : xb K = true := congrArg (fun z : AlX => z.1.2.2) c
theorem SaysX.def_ (c : SaysX fa fn ts xb w K) (i : Nat) {d : DefX} (h : fn[i]? = some d := by rfl) : ∃ fd, FunD K d.name d.qual d.params d.body d.scope (d.dvs K) (d.kws K) (d.adr K) fd := by
  have c2 : (fn.all fun d => d.ok K) = true := congrArg (fun z : AlX => z.1.2.1) c
  have e : fn.map (fun d => fnX K (d.adr K)) = fn.map DefX.val := congrArg (fun z : AlX => z.2.1) c
  have e2 : (fn.map fun d => fnX K (d.adr K))[i]? = (fn.map DefX.val)[i]? := by rw [e]
  rw [List.getElem?_map, List.getElem?_map, h] at e2
  exact DefX.funD (Option.some.inj e2) (List.all_eq_true.mp c2 d (List.mem_of_getElem? h))
theorem SaysX.tab (c : SaysX fa fn ts xb w K) (i : Nat) {t : He.Tab} (h : ts[i]? = some t := by rfl) : ∃ es n, KDict K w (t.1 K) es n := by
  have e : ts.map (fun t => He.dicW K (t.1 K)) = ts.map fun t => some (He.keysIn w.params t.2) := congrArg (fun z : AlX => z.2.2) c
  have e2 : (ts.map fun t => He.dicW K (t.1 K))[i]? = (ts.map fun t => some (He.keysIn w.params t.2))[i]? := by rw [e]
  rw [List.getElem?_map, List.getElem?_map, h] at e2
  exact He.dicW_ok (Option.some.inj e2)
end
theorem all_at {α : Type} {l : List α} {p : α → Bool} (h : l.all p = true) (i : Nat) {x : α} (e : l[i]? = some x) : p x = true := List.all_eq_true.mp h x (List.mem_of_getElem? e)
theorem u65 {k : Nat} {A : Around} (r : Room k A) : A.units + 65 < cLine := by have := r.un; omega
def propB (K : PySem.W.Frag) (c f : Str) : Bool := match PySem.W.findIn K (.ref (He.ga K c)) f with
  | some (some (.ref p)) => He.eqO (PySem.W.specialIn K (.ref p) "__get__") (some (some (.builtin "property.__get__"))) && (decide (PySem.W.takesIn K (.ref p) = some true) && (match PySem.W.recIn K p "property" with
    | some (.ref _ :: _) => true
    | _ => false))
  | _ => false
def pgAt (K : PySem.W.Frag) (c f : Str) : Addr := match PySem.W.findIn K (.ref (He.ga K c)) f with
  | some (some (.ref p)) => (match PySem.W.recIn K p "property" with
    | some (.ref g :: _) => g
    | _ => 0)
  | _ => 0
theorem propB_ok {K : PySem.W.Frag} {c f : Str} (h : propB K c f = true) : ∃ p, PropOf K (He.ga K c) f p (pgAt K c f) := by
  unfold propB at h
  split at h
  · rename_i p ep
    simp only [Bool.and_eq_true, decide_eq_true_eq] at h
    obtain ⟨h1, h2, h3⟩ := h
    split at h3
    · rename_i g rest eg
      refine ⟨p, ep, He.eqO_ok h1, h2, rest, ?_⟩
      unfold pgAt
      rw [ep]
      simp only [eg]
    · cases h3
  · cases h
end En
set_option Elab.async false
set_option linter.all false
set_option maxRecDepth 100000
set_option maxHeartbeats 2000000
namespace En
open PySem PySem.Spec PyProof.Rows L2
theorem freeze_eq {K : PySem.W.Frag} {w : Wd} {t : T} {H : Hp} {x : V} {v a : Val} {t1 : T} (r : RelT K w t H) (rx : RepV K w H x v) (e : fFreeze v t = .ok a t1) : ∃ d w', a = .d d ∧ Step w H w' H ∧ RelT K w' t1 H ∧ Rep K (Fz w' H) x d := by
  have p : PostE K (fun _ _ _ _ => False) [] w H (fun _ _ (q : Val × T) => fFreeze v t = .ok q.1 q.2) ((fFreeze v t).bind fun v' t' => .ok (v', t') t') := by
    rw [e]
    exact fun _ _ _ _ => rfl
  obtain ⟨d, w', t', s, r', rd, q⟩ := fFreeze_ok r rx p
  have e2 := q.here r'
  rw [e] at e2
  cases e2
  exact ⟨d, w', rfl, s, r', rd⟩
def sFz (i : Nat) (m : MS) : MS := fun ρ t => match ρ[i]? with
  | some (some v) => (match fFreeze v t with
    | .ok a t1 => m (ρ.set i (some a)) t1
    | _ => .stuck)
  | _ => m ρ t
theorem set_same {σ : L2.St} {i : Nat} {o : Option V} (h : σ[i]? = some o) : σ.set i o = σ := by
  refine List.ext_getElem? fun j => ?_
  rw [List.getElem?_set]
  split
  · rename_i e
    subst e
    rw [h]
    simp [(List.getElem?_eq_some_iff.mp h).1]
  · rfl
theorem jss_fz {X : Cx} {W : WX} {st : List Stmt} {m : MS} (i : Nat) (h : JSs X W st m) : JSs X W st (sFz i m) :=
  PSs.imp h fun D σ H ⟨w, ρ, t, rt, rr, p⟩ => by
    unfold sFz at p
    split at p
    · rename_i v ev
      split at p
      · rename_i a t1 ea
        obtain ⟨x, hx, rx⟩ := rr.at_ i v ev
        obtain ⟨d, w', rfl, s, r', rd⟩ := freeze_eq rt rx ea
        refine ⟨w', ρ.set i (some (.d d)), t1, r', ?_, PostS.from s p⟩
        have := (rr.mono s).set (x := x) (v := .d d) i rd
        rw [set_same hx] at this
        exact this
      · exact p.elim
    · exact ⟨w, ρ, t, rt, rr, p⟩
theorem spF_stuck {K : PySem.W.Frag} {n : Nat} {vs : List V} {H : Hp} {Q : VK} {E : XK} (h : spF K n (fun _ _ => .stuck) vs H Q E) : False := by
  obtain ⟨w, b, us, _, _, _, _, p⟩ := h
  exact p
theorem fnOk0 {P : Program} {wd : World} {K : PySem.W.Frag} {mg : Str → Option Value} {base : Heap} {CX : CXT} {k n : Nat} {f : Addr} {fd : FuncData} {ps : List Str} : FnOk P wd K mg base CX k f fd ps (spF K n fun _ _ => .stuck) :=
  ⟨fun _ _ _ _ h => (spF_stuck h).elim, fun _ _ _ _ _ _ _ _ _ _ _ _ _ h => (spF_stuck h).elim⟩
end En
set_option Elab.async false
set_option linter.all false
set_option maxRecDepth 100000
set_option maxHeartbeats 2000000
namespace En
open PySem PySem.Spec PyProof.Rows L2
def clsB : Stmt → List Stmt
  | .ClassDef (body := b) .. => b
  | _ => []
def drCell (b : Box) : Int := (b.ns ++ [0]).getD (b.ix % max 1 (b.ns.length : Int)).toNat 0
def drNext : Draw := ⟨false, fun b n => if 10 ^ 18 ≤ drCell b then (drCell b % n, { b with ns := b.ns.set (b.ix % (b.ns.length : Int)).toNat (drCell b / n) })
  else (((b.st * 48271 + drCell b * 69621 + 11) % 2147483647) / 7 % n, { b with st := (b.st * 48271 + drCell b * 69621 + 11) % 2147483647, ix := b.ix + 1 })⟩
def mixSt (ns : List Int) (seed : Int) : Int := ns.foldl (fun st c => (st * 48271 + c % 2147483629 + 1) % 2147483647) seed
def bg_law_mix (vs : List Val) : Option Box := match vs with
  | [.d (.scr ns), .d (.int seed)] => if ns.length ≤ 1000 then some ⟨true, false, mixSt ns seed, ns, 0⟩ else none
  | _ => none
end En
set_option Elab.async false
set_option linter.all false
set_option maxRecDepth 100000
set_option maxHeartbeats 1000000
set_option autoImplicit false
namespace En
open PySem PySem.Spec PyProof.Rows L2
mutual
def toKey : D → Option NestedKey
  | .non => some .none
  | .int i => some (.num i)
  | .tup ds => (toKeys ds).map .tup
  | .bl _ => none
  | .str _ => none
  | .lst _ => none
  | .ins _ _ => none
  | .dK _ => none
  | .dT _ => none
  | .scr _ => none
def toKeys : List D → Option (List NestedKey)
  | [] => some []
  | d :: ds => match toKey d, toKeys ds with
    | some k, some ks => some (k :: ks)
    | _, _ => none
end
mutual
theorem toKey_ok {K : PySem.W.Frag} {F : Hp} : ∀ (d : D) {x : V} {k : NestedKey}, toKey d = some k → Rep K F x d → KeyV K F x k
  | .non, x, k, e, r => by simp only [toKey] at e; cases e; cases r; exact .non
  | .int i, x, k, e, r => by simp only [toKey] at e; cases e; cases r; exact .int i
  | .tup ds, x, k, e, r => by
    simp only [toKey] at e
    obtain ⟨ks, e1, rfl⟩ := Option.map_eq_some_iff.mp e
    cases r with
    | tup h hs => exact .tup h (toKeys_ok ds e1 hs)
  | .bl _, x, k, e, r => by simp only [toKey] at e; cases e
  | .str _, x, k, e, r => by simp only [toKey] at e; cases e
  | .lst _, x, k, e, r => by simp only [toKey] at e; cases e
  | .ins _ _, x, k, e, r => by simp only [toKey] at e; cases e
  | .dK _, x, k, e, r => by simp only [toKey] at e; cases e
  | .dT _, x, k, e, r => by simp only [toKey] at e; cases e
  | .scr _, x, k, e, r => by simp only [toKey] at e; cases e
theorem toKeys_ok {K : PySem.W.Frag} {F : Hp} : ∀ (ds : List D) {xs : List V} {ks : List NestedKey}, toKeys ds = some ks → Reps K F xs ds → KeyVs K F xs ks
  | [], xs, ks, e, r => by simp only [toKeys] at e; cases e; cases r; exact .nil
  | d :: ds, xs, ks, e, r => by
    simp only [toKeys] at e
    split at e
    · rename_i k ks' e1 e2
      cases e
      cases r with
      | cons h hs => exact .cons (toKey_ok d e1 h) (toKeys_ok ds e2 hs)
    · cases e
end
mutual
theorem keyV_is {X : Cx} {pins : List (Addr × Obj)} {σ : L2.St} {H : Hp} {s : Shared} (I : Inv X pins σ H s) : ∀ {x : V} {k : NestedKey} {u : Value}, KeyV X.K H x k → RelV x u → NestedIs s.heap k u
  | _, _, u, .non, r => by cases r; exact .none
  | _, _, u, .int i, r => by obtain ⟨t, rfl⟩ := r; exact .int i t
  | _, _, u, .tup h hs, r => by
    cases r
    obtain ⟨its, rv, ⟨o, ho, hc, n, hd⟩, _⟩ := I.tuple h
    exact .tup ho hc hd (keyVs_is I hs rv)
theorem keyVs_is {X : Cx} {pins : List (Addr × Obj)} {σ : L2.St} {H : Hp} {s : Shared} (I : Inv X pins σ H s) : ∀ {xs : List V} {ks : List NestedKey} {us : List Value}, KeyVs X.K H xs ks → Vals xs us → NestedAll s.heap ks us
  | _, _, _, .nil, .nil => .nil
  | _, _, _, .cons h hs, .cons r rs => .cons (keyV_is I h r) (keyVs_is I hs rs)
end
mutual
theorem KeyV.hash {K : PySem.W.Frag} {F : Hp} (w w' : World) : ∀ {x : V} {k : NestedKey}, KeyV K F x k → k.hash w = k.hash w'
  | _, _, .non => rfl
  | _, _, .int i => rfl
  | _, _, .tup h hs => by simp only [NestedKey.hash, KeyVs.hash w w' hs]
theorem KeyVs.hash {K : PySem.W.Frag} {F : Hp} (w w' : World) : ∀ {xs : List V} {ks : List NestedKey}, KeyVs K F xs ks → NestedKey.hashes w ks = NestedKey.hashes w' ks
  | _, _, .nil => rfl
  | _, _, .cons h hs => by simp only [NestedKey.hashes, KeyV.hash w w' h, KeyVs.hash w w' hs]
end
section
variable {κ α : Type} [DecidableEq κ]
def lookK (kvs : List (κ × α)) (k : κ) : Option α := (kvs.find? fun p => decide (p.1 = k)).map (·.2)
def putKV (kvs : List (κ × α)) (k : κ) (v : α) : List (κ × α) := if kvs.any fun kv => decide (kv.1 = k) then kvs.map fun kv => if kv.1 = k then (kv.1, v) else kv else kvs ++ [(k, v)]
theorem lookK_cons (p : κ × α) (r : List (κ × α)) (k : κ) : lookK (p :: r) k = if p.1 = k then some p.2 else lookK r k := by
  unfold lookK
  rw [List.find?_cons]
  by_cases h : p.1 = k
  · rw [decide_eq_true h, if_pos h]; rfl
  · rw [decide_eq_false h, if_neg h]
end
theorem valV_look {κ : Type} [DecidableEq κ] (kvs : List (κ × V)) (k : κ) : valV kvs k = lookK kvs k := rfl
theorem repVK_val {K : PySem.W.Frag} {w : Wd} {H : Hp} {κ : Type} [DecidableEq κ] {k : κ} {xs : List (κ × V)} {kvs : List (κ × Val)} (h : RepVK K w H xs kvs) : (lookK xs k = none ∧ lookK kvs k = none) ∨ ∃ x v, lookK xs k = some x ∧ lookK kvs k = some v ∧ RepV K w H x v := by
  induction h with
  | nil => exact .inl ⟨rfl, rfl⟩
  | @cons k' x xs v vs h _ ih =>
    rw [lookK_cons, lookK_cons]
    by_cases e : k' = k
    · rw [if_pos e, if_pos e]; exact .inr ⟨_, _, rfl, rfl, h⟩
    · rw [if_neg e, if_neg e]; exact ih
theorem repVK_any {K : PySem.W.Frag} {w : Wd} {H : Hp} {κ : Type} [DecidableEq κ] {k : κ} {xs : List (κ × V)} {kvs : List (κ × Val)} (h : RepVK K w H xs kvs) : (xs.any fun kv => decide (kv.1 = k)) = kvs.any fun kv => decide (kv.1 = k) := by
  induction h with
  | nil => rfl
  | cons h _ ih => simp only [List.any_cons, ih]
theorem RepVK.snoc {K : PySem.W.Frag} {w : Wd} {H : Hp} {κ : Type} {k : κ} {x : V} {v : Val} {xs : List (κ × V)} {kvs : List (κ × Val)} (h : RepVK K w H xs kvs) (r : RepV K w H x v) : RepVK K w H (xs ++ [(k, x)]) (kvs ++ [(k, v)]) := by
  induction h with
  | nil => exact .cons r .nil
  | cons h _ ih => exact .cons h ih
theorem repVK_map2 {K : PySem.W.Frag} {w : Wd} {H : Hp} {κ : Type} [DecidableEq κ] {k : κ} {x : V} {v : Val} (r : RepV K w H x v) {xs : List (κ × V)} {kvs : List (κ × Val)} (h : RepVK K w H xs kvs) : RepVK K w H (xs.map fun kv => if kv.1 = k then (kv.1, x) else kv) (kvs.map fun kv => if kv.1 = k then (kv.1, v) else kv) := by
  induction h with
  | nil => exact .nil
  | @cons k' y ys u us h _ ih =>
    simp only [List.map_cons]
    by_cases e : k' = k
    · simp only [if_pos e]
      exact .cons r ih
    · simp only [if_neg e]
      exact .cons h ih
theorem repVK_put2 {K : PySem.W.Frag} {w : Wd} {H : Hp} {κ : Type} [DecidableEq κ] {k : κ} {x : V} {v : Val} (r : RepV K w H x v) {xs : List (κ × V)} {kvs : List (κ × Val)} (h : RepVK K w H xs kvs) : RepVK K w H (putK xs k x) (putKV kvs k v) := by
  unfold putK putKV
  rw [repVK_any h]
  split
  · exact repVK_map2 r h
  · exact h.snoc r
section
variable {X : Cx} {pins : List (Addr × Obj)} {σ : L2.St} {H : Hp} {s : Shared}
theorem ents_xs (I : Inv X pins σ H s) : ∀ {es : List DictEntry} {kvs : List (NestedKey × V)}, EntsOk X.K H es kvs → ∃ xs : List (NestedKey × Addr × Value), es = xs.map (entryOfKey (nestedKind X.prog X.w)) ∧ xs.map (·.1) = kvs.map (·.1) ∧
    (∀ y ∈ xs, (nestedKind X.prog X.w).is s.heap y.1 y.2.1 ∧ KeyV X.K H (.ref y.2.1) y.1 ∧ y.1.depth ≤ 8) ∧ Paired (fun (p : NestedKey × V) (q : NestedKey × Addr × Value) => p.1 = q.1 ∧ RelV p.2 q.2.2) kvs xs
  | _, _, .nil => ⟨[], rfl, rfl, fun _ h => (by cases h), .nil⟩
  | _, _, .cons (en := en) (k := k) (v := v) (b := b) h1 h2 h3 h4 h5 hs => by
    obtain ⟨xs, e1, e2, e3, e4⟩ := ents_xs I hs
    refine ⟨(k, b, en.val) :: xs, ?_, by simp [e2], fun y hy => ?_, .cons ⟨rfl, h5⟩ e4⟩
    · rw [List.map_cons, ← e1]
      congr 1
      obtain ⟨eh, ek, ev⟩ := en
      have h1' : ek = .ref b := h1
      have h2' : eh = k.hash X.w := h2 X.w
      subst h1' h2'
      rfl
    · rcases List.mem_cons.mp hy with rfl | hy
      · exact ⟨⟨keyV_is I h3 rfl, h4⟩, h3, h4⟩
      · exact e3 y hy
theorem dic_of (I : Inv X pins σ H s) {a : Addr} {o : Obj} {es : Array DictEntry} {ep : Nat} {kvs : List (NestedKey × V)} (h : H a = some (dicO a o)) (ok : DicOk a o es ep (kvs.map (·.1))) (en : EntsOk X.K H es.toList kvs) :
    ∃ xs : List (NestedKey × Addr × Value), s.heap.DictOfH (nestedKind X.prog X.w) a xs ∧ (∀ y ∈ xs, KeyV X.K H (.ref y.2.1) y.1 ∧ y.1.depth ≤ 8) ∧ Paired (fun (p : NestedKey × V) (q : NestedKey × Addr × Value) => p.1 = q.1 ∧ RelV p.2 q.2.2) kvs xs := by
  obtain ⟨xs, e1, e2, e3, e4⟩ := ents_xs I en
  have ho : s.heap.get? a = some o := (I.hok a _ h).1
  exact ⟨xs, ⟨o, es, ep, ho, ok.exact_, ok.data, e1, fun y hy => (e3 y hy).1, by rw [e2]; exact ok.nodup⟩, fun y hy => (e3 y hy).2, e4⟩
theorem paired_val {k : NestedKey} : ∀ {kvs : List (NestedKey × V)} {xs : List (NestedKey × Addr × Value)}, Paired (fun (p : NestedKey × V) (q : NestedKey × Addr × Value) => p.1 = q.1 ∧ RelV p.2 q.2.2) kvs xs → RelO (valV kvs k) ((atKey xs k).map (·.2))
  | _, _, .nil => True.intro
  | (k', v) :: _, (k2, b, u) :: _, .cons ⟨h1, h2⟩ hs => by
    have h1 : k' = k2 := h1
    subst h1
    by_cases e : k' = k
    · rw [valV_pos e]
      have : ∀ r : List (NestedKey × Addr × Value), atKey ((k', b, u) :: r) k = some (b, u) := fun r => by unfold atKey; rw [List.find?_cons, decide_eq_true e]; rfl
      rw [this]
      exact h2
    · rw [valV_neg e]
      have : ∀ r : List (NestedKey × Addr × Value), atKey ((k', b, u) :: r) k = atKey r k := fun r => by unfold atKey; rw [List.find?_cons, decide_eq_false e]
      rw [this]
      exact paired_val hs
theorem paired_len {kvs : List (NestedKey × V)} {xs : List (NestedKey × Addr × Value)} (h : Paired (fun (p : NestedKey × V) (q : NestedKey × Addr × Value) => p.1 = q.1 ∧ RelV p.2 q.2.2) kvs xs) : kvs.length = xs.length := Paired.length h
def GetN (K : PySem.W.Frag) (H : Hp) (a : Addr) (y : V) (r : Option V) : Prop := ∃ (o : Obj) (es : Array DictEntry) (ep : Nat) (kvs : List (NestedKey × V)) (k : NestedKey) (b : Addr),
  H a = some (dicO a o) ∧ DicOk a o es ep (kvs.map (·.1)) ∧ EntsOk K H es.toList kvs ∧ y = .ref b ∧ KeyV K H (.ref b) k ∧ k.depth ≤ 8 ∧ r = valV kvs k
def DG (K : PySem.W.Frag) (H : Hp) (a : Addr) (y : V) (r : Option V) : Prop := DGet H a y r ∨ GetN K H a y r
variable {a : Addr} {y v d : V} {u r : Value} {o : Option V} {A : Around} {E : Value → Shared → Prop}
theorem room8 (hu : A.units + 9 < cLine) : (nestedKind X.prog X.w).room A.in1 := by
  show A.units + 1 + 8 < cLine
  omega
theorem dg_getItem {Q : Value → Shared → Prop} (hu : A.units + 9 < cLine) (I : Inv X pins σ H s) (g : DG X.K H a y (some v)) (ry : RelV y u) (h : ∀ w' s', Inv X pins σ H s' → RelV v w' → Q w' s') :
    wpAny (model X.prog X.w) A (getItem (.ref a) u) Q E s := by
  rcases g with g | ⟨o, es, ep, kvs, k, b, h1, h2, h3, rfl, h5, h6, h7⟩
  · exact d_getItem (by omega) I g ry h
  · cases ry
    obtain ⟨xs, dd, _, pr⟩ := dic_of I h1 h2 h3
    have q := paired_val (k := k) pr
    rw [← h7] at q
    obtain ⟨w', hw, rw'⟩ := RelO.some_of q
    obtain ⟨p, hp, hp2⟩ := Option.map_eq_some_iff.mp hw
    refine wpAny_getItem_heap (room8 hu) ⟨keyV_is I h5 rfl, h6⟩ dd hp ?_
    rw [hp2]
    exact h w' _ (I.tok _) rw'
theorem dg_in {Q : Value → Shared → Prop} (hu : A.units + 9 < cLine) (I : Inv X pins σ H s) (g : DG X.K H a y o) (ry : RelV y u) (h : ∀ s', Inv X pins σ H s' → Q (.bool o.isSome) s') :
    wpAny (model X.prog X.w) A (compareOp .In u (.ref a)) Q E s := by
  rcases g with g | ⟨ob, es, ep, kvs, k, b, h1, h2, h3, rfl, h5, h6, h7⟩
  · exact d_in (by omega) I g ry h
  · cases ry
    obtain ⟨xs, dd, _, pr⟩ := dic_of I h1 h2 h3
    have q := (paired_val (k := k) pr).isSome_eq
    rw [Option.isSome_map, ← h7] at q
    refine wpAny_in_heap (room8 hu) ⟨keyV_is I h5 rfl, h6⟩ h2.sys dd ?_
    rw [← q]
    exact h _ (I.tok _)
theorem dg_notIn {Q : Value → Shared → Prop} (hu : A.units + 9 < cLine) (I : Inv X pins σ H s) (g : DG X.K H a y o) (ry : RelV y u) (h : ∀ s', Inv X pins σ H s' → Q (.bool (!o.isSome)) s') :
    wpAny (model X.prog X.w) A (compareOp .NotIn u (.ref a)) Q E s := by
  rcases g with g | ⟨ob, es, ep, kvs, k, b, h1, h2, h3, rfl, h5, h6, h7⟩
  · exact d_notIn (by omega) I g ry h
  · cases ry
    obtain ⟨xs, dd, _, pr⟩ := dic_of I h1 h2 h3
    have q := (paired_val (k := k) pr).isSome_eq
    rw [Option.isSome_map, ← h7] at q
    refine wpAny_notIn_heap (room8 hu) ⟨keyV_is I h5 rfl, h6⟩ h2.sys dd ?_
    rw [← q]
    exact h _ (I.tok _)
theorem dg_get2 {Q : Value → Shared → Prop} (hu : A.units + 9 < cLine) (I : Inv X pins σ H s) (g : DG X.K H a y o) (ry : RelV y u) (rd : RelV d r) (h : ∀ w' s', Inv X pins σ H s' → RelV (o.getD d) w' → Q w' s') :
    wpAny (model X.prog X.w) A (call (.builtin "dict.get") [.ref a, u, r]) Q E s := by
  rcases g with g | ⟨ob, es, ep, kvs, k, b, h1, h2, h3, rfl, h5, h6, h7⟩
  · exact d_get2 (by omega) I g ry rd h
  · cases ry
    obtain ⟨xs, dd, _, pr⟩ := dic_of I h1 h2 h3
    refine call_meetsIn PySem.F.slot_dict_get dd.typeIs PySem.F.entry_dict_get (PySem.F.args_dict_get_3 _ _ _) (meetsH_dict_get_default (nestedKind X.prog X.w) a b h2.sys r) ⟨room8 hu, k, xs, ⟨keyV_is I h5 rfl, h6⟩, dd, h _ _ (I.tok _) ?_⟩
    rw [h7]
    exact (paired_val (k := k) pr).getD rd
theorem dg_typeIs (I : Inv X pins σ H s) (g : DG X.K H a y o) : s.TypeIs (.ref a) "dict" := by
  rcases g with g | ⟨ob, es, ep, kvs, k, b, h1, h2, h3, _⟩
  · exact dict_typeIs I g
  · obtain ⟨xs, dd, _⟩ := dic_of I h1 h2 h3
    exact dd.typeIs
def IsDN (K : PySem.W.Frag) (H : Hp) (a : Addr) : Prop := IsD H a ∨ ∃ (o : Obj) (es : Array DictEntry) (ep : Nat) (kvs : List (NestedKey × V)), H a = some (dicO a o) ∧ DicOk a o es ep (kvs.map (·.1)) ∧ EntsOk K H es.toList kvs
theorem isDN_at (I : Inv X pins σ H s) (d : IsDN X.K H a) : s.TypeIs (.ref a) "dict" ∧ (∀ b, Value.ref a = .ref b → ∃ ob, s.heap.get? b = some ob ∧ ob.dict = none) ∧ (a == sysModules) = false := by
  rcases d with d | ⟨o, es, ep, kvs, h1, h2, h3⟩
  · exact isD_at I d
  · obtain ⟨xs, dd, _⟩ := dic_of I h1 h2 h3
    refine ⟨dd.typeIs, fun b q => ?_, h2.sys⟩
    cases q
    exact ⟨o, (I.hok a _ h1).1, h2.exact_.2.1⟩
end
end En
set_option Elab.async false
set_option linter.all false
set_option maxRecDepth 100000
set_option maxHeartbeats 1000000
set_option autoImplicit false
namespace En
open PySem PySem.Spec PyProof.Rows L2
section
variable {X : Cx} {pins : List (Addr × Obj)} {σ : L2.St} {H : Hp} {s : Shared}
theorem ents_xsF {F : Hp} (ex : Ex F H) (I : Inv X pins σ H s) : ∀ {es : List DictEntry} {kvs : List (NestedKey × V)}, EntsOk X.K F es kvs → ∃ xs : List (NestedKey × Addr × Value), es = xs.map (entryOfKey (nestedKind X.prog X.w)) ∧ xs.map (·.1) = kvs.map (·.1) ∧
    (∀ y ∈ xs, (nestedKind X.prog X.w).is s.heap y.1 y.2.1 ∧ KeyV X.K F (.ref y.2.1) y.1 ∧ y.1.depth ≤ 8) ∧ Paired (fun (p : NestedKey × V) (q : NestedKey × Addr × Value) => p.1 = q.1 ∧ RelV p.2 q.2.2) kvs xs
  | _, _, .nil => ⟨[], rfl, rfl, fun _ h => (by cases h), .nil⟩
  | _, _, .cons (en := en) (k := k) (v := v) (b := b) h1 h2 h3 h4 h5 hs => by
    obtain ⟨xs, e1, e2, e3, e4⟩ := ents_xsF ex I hs
    refine ⟨(k, b, en.val) :: xs, ?_, by simp [e2], fun y hy => ?_, .cons ⟨rfl, h5⟩ e4⟩
    · rw [List.map_cons, ← e1]
      congr 1
      obtain ⟨eh, ek, ev⟩ := en
      have h1' : ek = .ref b := h1
      have h2' : eh = k.hash X.w := h2 X.w
      subst h1' h2'
      rfl
    · rcases List.mem_cons.mp hy with rfl | hy
      · exact ⟨⟨keyV_is I (h3.mono ex) rfl, h4⟩, h3, h4⟩
      · exact e3 y hy
theorem ents_back {P : Program} {w : World} {K : PySem.W.Frag} {F : Hp} : ∀ {xs : List (NestedKey × Addr × Value)} {kvs : List (NestedKey × V)}, Paired (fun (p : NestedKey × V) (q : NestedKey × Addr × Value) => p.1 = q.1 ∧ RelV p.2 q.2.2) kvs xs → (∀ y ∈ xs, KeyV K F (.ref y.2.1) y.1 ∧ y.1.depth ≤ 8) → EntsOk K F (xs.map (entryOfKey (nestedKind P w))) kvs
  | _, _, .nil, _ => .nil
  | (k2, b, u) :: xs, (k, v) :: kvs, .cons ⟨h1, h2⟩ hs, hy => by
    have h1 : k = k2 := h1
    subst h1
    obtain ⟨y1, y2⟩ := hy (k, b, u) (List.mem_cons_self ..)
    exact .cons rfl (fun w' => y1.hash w w') y1 y2 h2 (ents_back hs fun y h => hy y (List.mem_cons_of_mem _ h))
theorem paired_putmap {k : NestedKey} {v : V} {u : Value} (r : RelV v u) : ∀ {kvs : List (NestedKey × V)} {xs : List (NestedKey × Addr × Value)}, Paired (fun (p : NestedKey × V) (q : NestedKey × Addr × Value) => p.1 = q.1 ∧ RelV p.2 q.2.2) kvs xs →
    Paired (fun (p : NestedKey × V) (q : NestedKey × Addr × Value) => p.1 = q.1 ∧ RelV p.2 q.2.2) (kvs.map fun kv => if kv.1 = k then (kv.1, v) else kv) (xs.map (putAt k u))
  | _, _, .nil => .nil
  | (k1, v1) :: _, (k2, b, u2) :: _, .cons ⟨h1, h2⟩ hs => by
    have h1 : k1 = k2 := h1
    subst h1
    refine .cons ?_ (paired_putmap r hs)
    unfold putAt
    by_cases e : k1 = k
    · simp only [if_pos e]; exact ⟨trivial, r⟩
    · simp only [if_neg e]; exact ⟨trivial, h2⟩
theorem paired_snoc {k : NestedKey} {b : Addr} {v : V} {u : Value} (r : RelV v u) : ∀ {kvs : List (NestedKey × V)} {xs : List (NestedKey × Addr × Value)}, Paired (fun (p : NestedKey × V) (q : NestedKey × Addr × Value) => p.1 = q.1 ∧ RelV p.2 q.2.2) kvs xs →
    Paired (fun (p : NestedKey × V) (q : NestedKey × Addr × Value) => p.1 = q.1 ∧ RelV p.2 q.2.2) (kvs ++ [(k, v)]) (xs ++ [(k, b, u)])
  | _, _, .nil => .cons ⟨rfl, r⟩ .nil
  | _, _, .cons h hs => .cons h (paired_snoc r hs)
theorem paired_stored {k : NestedKey} {b : Addr} {v : V} {u : Value} (r : RelV v u) {kvs : List (NestedKey × V)} {xs : List (NestedKey × Addr × Value)} (h : Paired (fun (p : NestedKey × V) (q : NestedKey × Addr × Value) => p.1 = q.1 ∧ RelV p.2 q.2.2) kvs xs) :
    Paired (fun (p : NestedKey × V) (q : NestedKey × Addr × Value) => p.1 = q.1 ∧ RelV p.2 q.2.2) (putK kvs k v) (storedH xs k b u) := by
  have q := (paired_val (k := k) h).isSome_eq
  rw [Option.isSome_map] at q
  unfold putK storedH
  rw [valV_any, q]
  split
  · exact paired_putmap r h
  · exact paired_snoc r h
theorem stored_keys {K : PySem.W.Frag} {F : Hp} {xs : List (NestedKey × Addr × Value)} {k : NestedKey} {b : Addr} {u : Value} (h : ∀ y ∈ xs, KeyV K F (.ref y.2.1) y.1 ∧ y.1.depth ≤ 8) (hk : KeyV K F (.ref b) k) (hd : k.depth ≤ 8) : ∀ y ∈ storedH xs k b u, KeyV K F (.ref y.2.1) y.1 ∧ y.1.depth ≤ 8 := by
  intro y hy
  unfold storedH at hy
  split at hy
  · obtain ⟨z, hz, rfl⟩ := List.mem_map.mp hy
    have := h z hz
    unfold putAt
    split <;> exact this
  · rcases List.mem_append.mp hy with hy | hy
    · exact h y hy
    · rw [List.mem_singleton.mp hy]; exact ⟨hk, hd⟩
theorem dicO_ok {P : Program} {w : World} {H' : Hp} {h' : Heap} {a : Addr} {o : Obj} (ho : h'.get? a = some o) : ObjOk P w H' h' a (dicO a o) := ⟨ho, ⟨o, ho⟩, fun _ _ p k => k _ p⟩
def PutN (K : PySem.W.Frag) (F H : Hp) (a : Addr) (y v : V) (Q : Hp → Prop) : Prop := ∃ (o : Obj) (es : Array DictEntry) (ep : Nat) (kvs : List (NestedKey × V)) (k : NestedKey) (b : Addr),
  H a = some (dicO a o) ∧ DicOk a o es ep (kvs.map (·.1)) ∧ EntsOk K F es.toList kvs ∧ Ex F H ∧ y = .ref b ∧ KeyV K F (.ref b) k ∧ k.depth ≤ 8 ∧ kvs.length < sizeLine ∧
  ∀ (o' : Obj) (es' : Array DictEntry) (ep' : Nat), DicOk a o' es' ep' ((putK kvs k v).map (·.1)) → EntsOk K F es'.toList (putK kvs k v) → Q (upd H a (dicO a o'))
def PutA (K : PySem.W.Frag) (H : Hp) (a : Addr) (y v : V) (Q : Hp → Prop) : Prop := (∃ H', DPut H a y v H' ∧ Q H') ∨ ∃ F, PutN K F H a y v Q
theorem paired_keys : ∀ {kvs : List (NestedKey × V)} {xs : List (NestedKey × Addr × Value)}, Paired (fun (p : NestedKey × V) (q : NestedKey × Addr × Value) => p.1 = q.1 ∧ RelV p.2 q.2.2) kvs xs → kvs.map (·.1) = xs.map (·.1)
  | _, _, .nil => rfl
  | _, _, .cons ⟨h, _⟩ hs => by simp only [List.map_cons, paired_keys hs, h]
variable {a : Addr} {y v d : V} {u r : Value} {o : Option V} {A : Around} {E : Value → Shared → Prop}
theorem dg_setItem {R : Hp → Prop} {Q : Unit → Shared → Prop} (hu : A.units + 9 < cLine) (I : Inv X pins σ H s) (g : PutA X.K H a y v R) (ry : RelV y u) (rv : RelV v r) (h : ∀ s' H', Inv X pins σ H' s' → R H' → Q () s') :
    wpAny (model X.prog X.w) A (setItem (.ref a) u r) Q E s := by
  rcases g with ⟨H', g, q⟩ | ⟨F, o, es, ep, kvs, k, b, h1, h2, h3, ex, rfl, h5, h6, hz, q⟩
  · exact d_setItem (by omega) I g ry rv fun s' I' => h s' H' I' q
  · cases ry
    obtain ⟨xs, e1, e2, e3, pr⟩ := ents_xsF ex I h3
    have ho : s.heap.get? a = some o := (I.hok a _ h1).1
    have dd : s.heap.DictOfH (nestedKind X.prog X.w) a xs := ⟨o, es, ep, ho, h2.exact_, h2.data, e1, fun y hy => (e3 y hy).1, by rw [e2]; exact h2.nodup⟩
    have hl : kvs.length = xs.length := Paired.length pr
    refine wpAny_setItem_heap (hsz := by omega) (room8 hu) ⟨keyV_is I (h5.mono ex) rfl, h6⟩ dd fun h' dd' hs => ?_
    have pr' := paired_stored (k := k) (b := b) rv pr
    have kk := stored_keys (u := r) (fun y hy => (e3 y hy).2) h5 h6
    obtain ⟨o', es', ep', ho', hx', hd', he', _, hn'⟩ := dd'
    have sz : (putK kvs k v).length ≤ kvs.length + 1 := length_putK kvs k v
    refine h _ (upd H a (dicO a o')) (d_write I (by rw [h1]; exact True.intro) hs ⟨o', ho'⟩ (dicO_ok ho')) (q o' es' ep' ⟨hx', hd', h2.sys, ?_, ?_⟩ ?_)
    · rw [paired_keys pr']; exact hn'
    · rw [List.length_map]; omega
    · rw [he']; exact ents_back pr' kk
end
section
variable {X : Cx} {o i e f value : Expr} {pos pos' tpos apos cpos : Pos} {td ty tv tx : TE}
def rDG (K : PySem.W.Frag) : R2 := fun x y H Q => ∃ a v, x = .ref a ∧ DG K H a y (some v) ∧ Q v H
theorem ix_dg (hu : X.A.units + 65 < cLine) : IxR X (rDG X.K) := by
  intro value slice pins s σ H x y v u Q I rx ry h hs
  obtain ⟨a, z, rfl, g, q⟩ := h
  obtain rfl : v = Value.ref a := rx
  exact tail_any (dg_typeIs I g) PySem.F.slot_dict_getitem.lookup (dg_getItem (by omega) I g ry fun w' s' I' rw' => ⟨z, H, I', rw', q⟩) hs
def rDIn (K : PySem.W.Frag) (neg : Bool) : R2 := fun x y H Q => ∃ a o, y = .ref a ∧ DG K H a x o ∧ Q (.bl (xor neg o.isSome)) H
theorem op_din (hu : X.A.units + 65 < cLine) : OpR X (compareOp .In) (rDIn X.K false) := by
  intro pins s σ H x y v u Q I rx ry h
  obtain ⟨a, o, rfl, g, q⟩ := h
  cases ry
  refine dg_in (by omega) I g rx fun s' I' => ⟨.bl o.isSome, H, I', rfl, ?_⟩
  simpa using q
theorem op_dnotin (hu : X.A.units + 65 < cLine) : OpR X (compareOp .NotIn) (rDIn X.K true) := by
  intro pins s σ H x y v u Q I rx ry h
  obtain ⟨a, o, rfl, g, q⟩ := h
  cases ry
  refine dg_notIn (by omega) I g rx fun s' I' => ⟨.bl (!o.isSome), H, I', rfl, ?_⟩
  simpa using q
def tDGet2N (K : PySem.W.Frag) (td ty tx : TE) : TE := fun σ H Q => td σ H fun x H1 => ∃ a, x = .ref a ∧ IsDN K H1 a ∧ ty σ H1 fun y H2 => tx σ H2 fun z H3 => ∃ o, DG K H3 a y o ∧ Q (o.getD z) H3
theorem pe_dget2N (hu : X.A.units + 65 < cLine) (ho : PE X o td) (he : PE X e ty) (hf : PE X f tx) (m : M2 X o "get" apos e f cpos) : PE X (.Call (.Attribute o "get" apos) [e, f] [] cpos) (tDGet2N X.K td ty tx) := by
  refine ⟨fun pins s σ H Q I h => ?_⟩
  refine wpAny_Call_method m.base m.few m.line PySem.F.plainAttrs_dict PySem.F.slot_dict_get PySem.F.type_dict_get (thn (ho.run pins s σ H _ I h) fun u s1 ⟨x, H1, I1, rx, a, ex, d, q1⟩ => ?_)
  subst ex
  obtain rfl : u = Value.ref a := rx
  obtain ⟨t1, t2, _⟩ := isDN_at I1 d
  refine ⟨t1, t2, ?_⟩
  rw [m.trees]
  refine Calls.callWith_builtin rfl (Calls.evalArgs_plain (Calls.spliced_cons (thn (he.run pins s1 σ H1 _ I1 q1) fun iv s2 ⟨y, H2, I2, ry, q2⟩ =>
    Calls.spliced_cons (thn (hf.run pins s2 σ H2 _ I2 q2) fun fv s3 ⟨z, H3, I3, rz, ov, g, q3⟩ => Calls.spliced_nil ?_))))
  exact dg_get2 (by omega) I3 g ry rz fun w' s4 I4 rw' => ⟨_, H3, I4, rw', q3⟩
def sDPutA (K : PySem.W.Frag) (td ty tv : TE) : TS := fun D σ H => tv σ H fun v H1 => td σ H1 fun x H2 => ty σ H2 fun y H3 => ∃ a, x = .ref a ∧ PutA K H3 a y v (D.nx σ)
theorem ps_dputA (hu : X.A.units + 65 < cLine) (ho : PE X o td) (hi : PE X i ty) (hv : PE X value tv) (hs : swapsWith value (some (.Subscript o i pos')) pos.line X.env = pure false) :
    PS X (.Assign [.Subscript o i pos'] value pos) (sDPutA X.K td ty tv) := by
  refine ⟨fun pins s σ H D I h => ?_⟩
  refine wpAny_Assign_Subscript (thn (hv.run pins s σ H _ I h) fun r s1 ⟨v, H1, I1, rv, q1⟩ => thn (ho.run pins s1 σ H1 _ I1 q1) fun u s2 ⟨x, H2, I2, rx, q2⟩ => thn (hi.run pins s2 σ H2 _ I2 q2) fun iv s3 ⟨y, H3, I3, ry, a, ex, g⟩ => ?_) hs
  subst ex
  obtain rfl : u = Value.ref a := rx
  exact dg_setItem (by omega) I3 g ry rv fun s4 H4 I4 q => ⟨σ, H4, I4, q⟩
theorem sys_new {pins : List (Addr × Obj)} {σ : L2.St} {H : Hp} {s : Shared} (I : Inv X pins σ H s) : (s.heap.objs.size == sysModules) = false := beq_eq_false_iff_ne.mpr (Ne.symm (Nat.ne_of_lt I.big))
def tDNewN : TE := fun _ H Q => ∀ p o, H p = none → DicOk p o #[] 0 [] → Q (.ref p) (upd H p (dicO p o))
theorem pe_dnewN : PE X (.Dict [] [] pos) tDNewN := ⟨fun pins s σ H Q I h =>
  wpAny_Dict_empty ⟨.ref s.heap.objs.size, _, I.laid (a := s.heap.objs.size) (o := dicO s.heap.objs.size { cls := .type "dict", data := .dict #[] }) (t' := s.toks) (fun _ _ q => Heap.get?_push_of_some _ q) (Nat.le_refl _) (dicO_ok (Heap.get?_push_size _ rfl)), rfl,
    h _ _ (I.hok.fresh (Nat.le_refl _)) ⟨⟨rfl, rfl, rfl⟩, rfl, sys_new I, List.nodup_nil, Nat.zero_le _⟩⟩⟩
def tDisp1 (K : PySem.W.Frag) (tk tv : TE) : TE := fun σ H Q => ∀ p o, H p = none → DicOk p o #[] 0 [] → tk σ (upd H p (dicO p o)) fun x H1 => tv σ H1 fun v H2 => H2 p = some (dicO p o) ∧ ∃ (F : Hp) (k : NestedKey) (b : Addr), Ex F H2 ∧ x = .ref b ∧ KeyV K F (.ref b) k ∧ k.depth ≤ 8 ∧
  ∀ (o' : Obj) (es' : Array DictEntry) (ep' : Nat), DicOk p o' es' ep' [k] → EntsOk K F es'.toList [(k, v)] → Q (.ref p) (upd H2 p (dicO p o'))
end
end En
set_option Elab.async false
set_option linter.all false
set_option maxRecDepth 100000
set_option maxHeartbeats 1000000
set_option autoImplicit false
namespace En
open PySem PySem.Spec PyProof.Rows L2
section
variable {X : Cx} {k v : Expr} {pos : Pos} {tk tv : TE}
theorem pe_disp1 (hu : X.A.units + 65 < cLine) (hk : PE X k tk) (hv : PE X v tv) : PE X (.Dict [some k] [v] pos) (tDisp1 X.K tk tv) := by
  refine ⟨fun pins s σ H Q I q => ?_⟩
  have hn := I.hok.fresh (Nat.le_refl s.heap.objs.size)
  have I1 := I.laid (a := s.heap.objs.size) (o := dicO s.heap.objs.size { cls := .type "dict", data := .dict #[] }) (h' := s.heap.push { cls := .type "dict", data := .dict #[] }) (t' := s.toks) (fun _ _ q => Heap.get?_push_of_some _ q) (Nat.le_refl _) (dicO_ok (Heap.get?_push_size _ rfl))
  have q1 := q _ { cls := .type "dict", data := .dict #[] } hn ⟨⟨rfl, rfl, rfl⟩, rfl, sys_new I, List.nodup_nil, Nat.zero_le _⟩
  rw [arm_eval_Dict, zip_pairTrees [some k] [v] X.env pos rfl rfl, dictDisplay_pairs (pairTrees [some k] [v] X.env pos) (by simp [pairTrees]) (by simp [pairTrees])]
  refine wpAny_bind (wpAny_standAt (wpAny_bind (wpAny_subDictH (knd := nestedKind X.prog X.w) (Q := fun d s' => wpAny (model X.prog X.w) X.A (pure (Value.ref d)) (EP X pins σ Q) X.xe s') (by show X.A.units + 8 < cLine; omega) (by simp [pairTrees]) ?_)))
  refine pairTrees_cons_walk (thn (hk.run pins _ σ _ _ I1 q1) fun u s1 ⟨x, H1, J1, rx, q2⟩ => thn (hv.run pins s1 σ H1 _ J1 q2) fun w2 s2 ⟨y, H2, J2, ry, e2, F, kk, b, ex, ex2, kv, kd, q3⟩ => pairTrees_nil_walk ?_)
  subst ex2
  obtain rfl : u = Value.ref b := rx
  have ho := (J2.hok _ _ e2).1
  refine ⟨[(kk, b, w2)], ⟨rfl, rfl, ⟨keyV_is J2 (kv.mono ex) rfl, kd⟩, trivial⟩, ⟨_, #[], 0, ho, ⟨rfl, rfl, rfl⟩, rfl, rfl, fun _ z => (by cases z), List.nodup_nil⟩, fun h' tk dd' hs => ?_⟩
  obtain ⟨o', es', ep', ho', hx', hd', he', _, hn'⟩ := dd'
  have es2 : storedAllH ([] : List (NestedKey × Addr × Value)) [(kk, b, w2)] = [(kk, b, w2)] := rfl
  rw [es2] at he' hn'
  refine wpAny_pure ⟨.ref s.heap.objs.size, _, d_write J2 (by rw [e2]; exact True.intro) hs ⟨o', ho'⟩ (dicO_ok ho'), rfl, q3 o' es' ep' ⟨hx', hd', sys_new I, by simp, by show 1 ≤ sizeLine; decide⟩ ?_⟩
  rw [he']
  exact .cons rfl (fun w' => kv.hash X.w w') kv kd ry .nil
end
def tListVals (te : TE) : TE := fun σ H Q => te σ H fun x H1 => ∃ d kvs, x = .ref d ∧ Rd H1 d (.dK kvs) ∧ ∀ p, H1 p = none → Q (.ref p) (upd H1 p (.lst (kvs.map (·.2))))
theorem vals_get : ∀ {xs : List V} {us : List Value}, xs.length = us.length → (∀ (j : Nat) (x : V) (u : Value), xs[j]? = some x → us[j]? = some u → RelV x u) → Vals xs us
  | [], [], _, _ => .nil
  | x :: xs, u :: us, h, q => .cons (q 0 x u rfl rfl) (vals_get (by simpa using h) fun j y z e1 e2 => q (j + 1) y z (by simpa using e1) (by simpa using e2))
  | [], _ :: _, h, _ => by simp at h
  | _ :: _, [], h, _ => by simp at h
section
variable {X : Cx} {e : Expr} {te : TE} {p apos cpos pos : Pos}
theorem pe_listVals (hc : X.calm = true) (he : PE X e te) (hg : Gl X "list") (hm : X.mg "list" = none) (hv : bootBuiltins "list" = some (.type "list") := by decide +kernel) (hbase : attributeBase e "values" X.env (eval e X.env) = eval e X.env := by rfl) (hline : (apos.endLine == cpos.line) = true := by rfl)
    (hs : starEach [.Call (.Attribute e "values" apos) [] [] cpos] X.env = (false, eval (.Call (.Attribute e "values" apos) [] [] cpos) X.env) :: starEach [] X.env := by rfl) :
    PE X (.Call (.Name "list" p) [.Call (.Attribute e "values" apos) [] [] cpos] [] pos) (tListVals te) := by
  refine ⟨fun pins s σ H Q I hq => ?_⟩
  refine wpAny_Call_Name_kw (ld_blt I hg hm hv ?_)
  refine PyProof.Rows.callWith_type1 ?_ hs rfl
  rw [hs]
  show wpAny _ _ (spliced ((false, eval (.Call (.Attribute e "values" apos) [] [] cpos) X.env) :: backTo pos (starEach [] X.env))) _ _ s
  refine Calls.spliced_cons ?_
  refine wpAny_Call_method (T := "dict") (id := "dict.values") hbase rfl hline F.plainAttrs_dict F.slot_dict_values F.type_dict_values (thn (he.run pins s σ H _ I hq) fun u s1 ⟨x, H1, I1, rx, d, kvs, ex, hd, q⟩ => ?_)
  subst ex
  obtain rfl : u = Value.ref d := rx
  obtain ⟨hz, hs0, vs, kv, hdo⟩ := hd.ok I1.hok
  obtain ⟨ep, hat⟩ := hdo.dictAt
  have lk : kvs.length = vs.length := Paired.length kv
  have I2 : Inv X pins σ H1 { s1 with heap := s1.heap.push { cls := .type "dict_values", data := .fields #[.ref d] } } := I1.kept (t' := s1.toks) fun b ob q => Heap.get?_push_of_some _ q
  refine ⟨hdo.typeIs, hdo.mapOf.noDict, ?_⟩
  show wpAny _ _ (callWith cpos (.builtin "dict.values") [.ref d] [] []) _ X.xe s1
  refine method_meetsIn F.slot_dict_values F.entry_dict_values rfl (PySem.evalArgs_none ⟨rfl, hdo.typeIs, F.args_dict_values_1 _, _, meets_dict_values (mixKind X.prog X.w) d hs0, ⟨vs, hdo⟩, ?_⟩)
  refine Calls.spliced_nil ?_
  refine PySem.W.kdl_call (PySem.W.kdl_values (knd := mixKind X.prog X.w) (kvs := vs) (ep := ep)) (I1.ok.hd hc) ⟨⟨_, Heap.get?_push_size _ rfl, rfl, rfl⟩, hat.push _⟩ (by omega) fun h' tk acc c hk hS hacc => ?_
  have fresh := I2.hok.fresh (Nat.le_refl _)
  refine ⟨.ref _, _, I2.laid (o := .lst (kvs.map (·.2))) (t' := tk) hk (Nat.le_refl _) ⟨by rw [List.length_map]; omega, acc.toList, c, vals_get ?_ fun j y z e1 e2 => ?_, ?_⟩, rfl, q _ fresh⟩
  · have z := hacc.1
    simp only [List.length_map, Array.length_toList]
    omega
  · rw [Array.getElem?_toList] at e2
    obtain ⟨k, ek⟩ := hacc.2 j z e2
    rw [List.getElem?_map] at e1
    obtain ⟨⟨k2, y2⟩, e3, rfl⟩ := Option.map_eq_some_iff.mp e1
    obtain ⟨u, eu, ru⟩ := kv_get kv e3
    rw [ek] at eu
    cases eu
    exact ru
  · rw [Array.toArray_toList]; exact hS
end
theorem pss_lock {X : Cx} {st : List Stmt} {t : TS} (h : PSs X st t) : PSs X st (fun D σ H => ∃ (d : Addr) (kvs : List (Key × V)), H d = some (.dK kvs) ∧ ∀ od, t D σ (upd H d (.frz od (.dK kvs)))) :=
  ⟨fun pins s σ H D I ⟨d, kvs, e, q⟩ => by
    obtain ⟨od, I'⟩ := I.lock e True.intro
    exact h.run pins s σ _ D I' (q od)⟩
section
variable {K : PySem.W.Frag} {w : Wd} {t : T} {H : Hp}
theorem step_cutwr (r : RelT K w t H) {n : Nat} {a : Addr} {o : HO} (h : w.as[n]? = some (some a)) : Step w H (w.cut n) (upd H a o) := (step_wr r h).trans (step_cut n)
theorem RelT.cutwr (r : RelT K w t H) {n : Nat} {a : Addr} {o : HO} (h : w.as[n]? = some (some a)) : RelT K (w.cut n) { t with st := t.st.set n .dead } (upd H a o) ∧ ¬ (w.cut n).mut a := by
  obtain ⟨r1, nm⟩ := r.cut h
  refine ⟨⟨fun b hb => (step_wr r h).there b _ (r.hidn b hb).choose_spec, r1.len, r1.inj, r1.out, fun m c' e => ?_, r1.bon, fun b l e => ?_⟩, nm⟩
  · have e' : (t.st.set n .dead)[m]? = some c' := e
    by_cases hm : n = m
    · subst hm
      have hl : n < t.st.length := by rw [← r.len]; exact as_len h
      rw [List.getElem?_set_self hl] at e'
      cases e'
      refine .inl ⟨rfl, ?_⟩
      show (w.as.set n none)[n]? = _
      rw [List.getElem?_set_self (as_len h)]
    · rw [List.getElem?_set_ne hm] at e'
      have ea : (w.cut n).as[m]? = w.as[m]? := by show (w.as.set n none)[m]? = _; rw [List.getElem?_set_ne hm]
      rcases r.cell m c' e' with ⟨q1, q2⟩ | ⟨b, hb, ok'⟩
      · exact .inl ⟨q1, by rw [ea]; exact q2⟩
      · have nb : b ≠ a := fun z => hm (r.inj n m a h (by rw [← z]; exact hb))
        exact .inr ⟨b, by rw [ea]; exact hb, ok'.mono (step_cutwr r h) (by rw [upd_ne nb])⟩
  · obtain ⟨h1, h2, h3, h4⟩ := r.box b l e
    have no := (r.out a (List.mem_of_getElem? h)).2
    exact ⟨h1, h2, h3, h4.mono (by rw [upd_ne (fun z => no ⟨b, l, e, .inr z.symm⟩)]) (by rw [upd_ne (fun z => no ⟨b, l, e, .inl z.symm⟩)])⟩
end
def sFzD (i : Nat) (m : MS) : MS := fun ρ t => match ρ[i]? with
  | some (some (.loc n)) => (match t.st[n]? with
    | some (.dK kvs) => (match datas (kvs.map (·.2)) with
      | some ds => m (ρ.set i (some (.d (.dK ((kvs.map (·.1)).zip ds))))) { t with st := t.st.set n .dead }
      | none => .stuck)
    | some (.dT kvs) => (match datas (kvs.map (·.2)) with
      | some ds => m (ρ.set i (some (.d (.dT ((kvs.map (·.1)).zip ds))))) { t with st := t.st.set n .dead }
      | none => .stuck)
    | _ => .stuck)
  | _ => m ρ t
theorem pss_or {X : Cx} {st : List Stmt} {t t' : TS} (h : PSs X st t) (h' : PSs X st t') : PSs X st (fun D σ H => t D σ H ∨ t' D σ H) := ⟨fun pins s σ H D I q => q.elim (h.run pins s σ H D I) (h'.run pins s σ H D I)⟩
theorem jss_fzD {X : Cx} {W : WX} {st : List Stmt} {m : MS} (i : Nat) (h : JSs X W st m) : JSs X W st (sFzD i m) :=
  PSs.imp (pss_or (pss_lock h) h) fun D σ H ⟨w, ρ, t, rt, rr, p⟩ => by
    unfold sFzD at p
    split at p
    · rename_i n ev
      obtain ⟨x, hx, rx⟩ := rr.at_ i _ ev
      split at p
      · rename_i kvs en
        split at p
        · rename_i ds ed
          obtain ⟨a, rfl, ha, xs, h1, h2⟩ := loc_live rt rx en (by intro z; cases z)
          refine .inl ⟨a, xs, h1, fun od => ?_⟩
          obtain ⟨rc, nm⟩ := rt.cutwr (o := .frz od (.dK xs)) ha
          have s := step_cutwr (o := .frz od (.dK xs)) rt ha
          refine ⟨w.cut n, ρ.set i _, _, rc, ?_, PostS.from s p⟩
          have := (rr.mono s).set (x := .ref a) (v := .d (.dK ((kvs.map (·.1)).zip ds))) i (Rep.dK ⟨od, Fz.to upd_same nm⟩ ((repVK_K ed h2).mono s.fz))
          rw [set_same hx] at this
          exact this
        · exact p.elim
      · rename_i kvs en
        split at p
        · rename_i ds ed
          obtain ⟨a, rfl, ha, o, es, ep, xs, h1, h3, h4, h2⟩ := loc_live rt rx en (by intro z; cases z)
          obtain ⟨rc, nm⟩ := rt.cut ha
          have s := step_cut (w := w) (H := H) n
          refine .inr ⟨w.cut n, ρ.set i _, _, rc, ?_, PostS.from s p⟩
          have := (rr.mono s).set (x := .ref a) (v := .d (.dT ((kvs.map (·.1)).zip ds))) i (Rep.dT (Fz.to h1 nm) h3 (h4.mono s.fz) ((repVK_T ed h2).mono s.fz))
          rw [set_same hx] at this
          exact this
        · exact p.elim
      · exact p.elim
    · exact .inr ⟨w, ρ, t, rt, rr, p⟩
end En
set_option Elab.async false
set_option linter.all false
set_option maxRecDepth 100000
set_option maxHeartbeats 1000000
set_option autoImplicit false
namespace En
open PySem PySem.Spec PyProof.Rows L2
def keyK : Val → Option Key
  | .d (.int i) => some (.inl i)
  | .d (.str x) => some (.inr x)
  | _ => none
def keyT : Val → Option NestedKey
  | .d (.tup ds) => (match toKey (.tup ds) with
    | some k => if k.depth ≤ 8 then some k else none
    | none => none)
  | _ => none
def dGet? (a k : Val) (t : T) : Option (Option Val) := match a with
  | .d (.dK kvs) => (keyK k).map fun k => lookK (kvs.map fun p => (p.1, Val.d p.2)) k
  | .d (.dT kvs) => (keyT k).map fun k => lookK (kvs.map fun p => (p.1, Val.d p.2)) k
  | .loc n => (match t.st[n]? with
    | some (.dK kvs) => (keyK k).map fun k => lookK kvs k
    | some (.dT kvs) => (keyT k).map fun k => lookK kvs k
    | _ => none)
  | _ => none
def isDicB (a : Val) (t : T) : Bool := match a with
  | .d (.dK _) => true
  | .d (.dT _) => true
  | .loc n => (match t.st[n]? with
    | some (.dK _) => true
    | some (.dT _) => true
    | _ => false)
  | _ => false
section
variable {K : PySem.W.Frag} {w : Wd} {t : T} {H : Hp}
theorem repK_V : ∀ {xs : List (Key × V)} {kvs : List (Key × D)}, RepK K (Fz w H) xs kvs → RepVK K w H xs (kvs.map fun p => (p.1, Val.d p.2))
  | _, _, .nil => .nil
  | _, _, .cons h hs => .cons h (repK_V hs)
theorem repT_V : ∀ {xs : List (NestedKey × V)} {kvs : List (NestedKey × D)}, RepT K (Fz w H) xs kvs → RepVK K w H xs (kvs.map fun p => (p.1, Val.d p.2))
  | _, _, .nil => .nil
  | _, _, .cons h hs => .cons h (repT_V hs)
theorem keyK_ok {y : V} {v : Val} {k : Key} (r : RepV K w H y v) (e : keyK v = some k) : y = kV k := by
  unfold keyK at e
  split at e
  · cases e; cases r; rfl
  · cases e; cases r; rfl
  · cases e
theorem keyT_ok {y : V} {v : Val} {k : NestedKey} (r : RepV K w H y v) (e : keyT v = some k) : ∃ b, y = .ref b ∧ KeyV K (Fz w H) (.ref b) k ∧ k.depth ≤ 8 := by
  unfold keyT at e
  split at e
  · rename_i ds
    split at e
    · rename_i k' ek
      split at e
      · rename_i hd
        cases e
        have r' : Rep K (Fz w H) y (.tup ds) := r
        have kv := toKey_ok _ ek r'
        cases r' with
        | tup h hs => exact ⟨_, rfl, kv, hd⟩
      · cases e
    · cases e
  · cases e
theorem dGet_ok {x y : V} {a k : Val} {o : Option Val} (r : RelT K w t H) (rx : RepV K w H x a) (ry : RepV K w H y k) (e : dGet? a k t = some o) :
    ∃ p ov, x = .ref p ∧ DG K H p y ov ∧ ((ov = none ∧ o = none) ∨ ∃ z v, ov = some z ∧ o = some v ∧ RepV K w H z v) := by
  unfold dGet? at e
  split at e
  · rename_i kvs
    obtain ⟨kk, ek, rfl⟩ := Option.map_eq_some_iff.mp e
    have hy := keyK_ok ry ek
    subst hy
    have rx' : Rep K (Fz w H) x (.dK kvs) := rx
    cases rx' with
    | @dK a xs _ h hs =>
      obtain ⟨ob, h⟩ := h
      exact ⟨a, lookK xs kk, rfl, .inl (.inl ⟨xs, kk, .inr ⟨ob, (Fz.of h).1⟩, rfl, rfl⟩), repVK_val (repK_V hs)⟩
  · rename_i kvs
    obtain ⟨kk, ek, rfl⟩ := Option.map_eq_some_iff.mp e
    obtain ⟨b, rfl, kv, hd⟩ := keyT_ok ry ek
    have rx' : Rep K (Fz w H) x (.dT kvs) := rx
    cases rx' with
    | @dT a ob es ep xs _ h h2 h3 hs =>
      exact ⟨a, lookK xs kk, rfl, .inr ⟨ob, es, ep, xs, kk, b, (Fz.of h).1, h2, h3.mono Fz.ex, rfl, kv.mono Fz.ex, hd, rfl⟩, repVK_val (repT_V hs)⟩
  · split at e
    · rename_i kvs en
      obtain ⟨kk, ek, rfl⟩ := Option.map_eq_some_iff.mp e
      have hy := keyK_ok ry ek
      subst hy
      obtain ⟨a, rfl, ha, xs, h1, h2⟩ := loc_live r rx en (by intro z; cases z)
      exact ⟨a, lookK xs kk, rfl, .inl (.inl ⟨xs, kk, .inl h1, rfl, rfl⟩), repVK_val h2⟩
    · rename_i kvs en
      obtain ⟨kk, ek, rfl⟩ := Option.map_eq_some_iff.mp e
      obtain ⟨b, rfl, kv, hd⟩ := keyT_ok ry ek
      obtain ⟨a, rfl, ha, ob, es, ep, xs, h1, h3, h4, h2⟩ := loc_live r rx en (by intro z; cases z)
      exact ⟨a, lookK xs kk, rfl, .inr ⟨ob, es, ep, xs, kk, b, h1, h3, h4.mono Fz.ex, rfl, kv.mono Fz.ex, hd, rfl⟩, repVK_val h2⟩
    · cases e
  · cases e
theorem isDic_ok {x : V} {a : Val} (r : RelT K w t H) (rx : RepV K w H x a) (e : isDicB a t = true) : ∃ p, x = .ref p ∧ IsDN K H p := by
  unfold isDicB at e
  split at e
  · rename_i kvs
    have rx' : Rep K (Fz w H) x (.dK kvs) := rx
    cases rx' with
    | @dK a xs _ h hs =>
      obtain ⟨ob, h⟩ := h
      exact ⟨a, rfl, .inl (.inl ⟨xs, .inr ⟨ob, (Fz.of h).1⟩⟩)⟩
  · rename_i kvs
    have rx' : Rep K (Fz w H) x (.dT kvs) := rx
    cases rx' with
    | @dT a ob es ep xs _ h h2 h3 hs => exact ⟨a, rfl, .inr ⟨ob, es, ep, xs, (Fz.of h).1, h2, h3.mono Fz.ex⟩⟩
  · split at e
    · rename_i kvs en
      obtain ⟨a, rfl, ha, xs, h1, h2⟩ := loc_live r rx en (by intro z; cases z)
      exact ⟨a, rfl, .inl (.inl ⟨xs, .inl h1⟩)⟩
    · rename_i kvs en
      obtain ⟨a, rfl, ha, ob, es, ep, xs, h1, h3, h4, h2⟩ := loc_live r rx en (by intro z; cases z)
      exact ⟨a, rfl, .inr ⟨ob, es, ep, xs, h1, h3, h4.mono Fz.ex⟩⟩
    · cases e
  · cases e
end
def fDGet (a k : Val) (t : T) : R Val := match dGet? a k t with
  | some (some v) => .ok v t
  | _ => .stuck
theorem s_dget {K : PySem.W.Frag} {W : WX} : OpS K W (rDG K) fDGet := by
  intro w t σ H x y a b Q r rx ry p
  unfold fDGet at p
  split at p
  · rename_i v ev
    obtain ⟨q, ov, rfl, g, ⟨_, z⟩ | ⟨z, v', rfl, ez, rz⟩⟩ := dGet_ok r rx ry ev
    · cases z
    · cases ez
      exact ⟨q, z, rfl, g, p.here r _ rz⟩
  · exact p.elim
theorem je_dget {X : Cx} {W : WX} {a b : Expr} {ma mb : ME Val} {pos : Pos} (hu : X.A.units + 65 < cLine) (ha : JE X W a ma) (hb : JE X W b mb) (hs : PlainIx b := by exact fun _ _ => rfl) : JE X W (.Subscript a b pos) (m2 fDGet ma mb) := PE.imp (pe_ix (ix_dg hu) ha hb hs) (sim2 s_dget)
def fDIn (a b : Val) (t : T) : R Val := match dGet? b a t with
  | some o => retB o.isSome t
  | none => .stuck
def fDNotIn (a b : Val) (t : T) : R Val := match dGet? b a t with
  | some o => retB (!o.isSome) t
  | none => .stuck
theorem some_same {K : PySem.W.Frag} {w : Wd} {H : Hp} {ov : Option V} {o : Option Val} (h : (ov = none ∧ o = none) ∨ ∃ z v, ov = some z ∧ o = some v ∧ RepV K w H z v) : ov.isSome = o.isSome := by
  rcases h with ⟨rfl, rfl⟩ | ⟨z, v, rfl, rfl, _⟩ <;> rfl
theorem s_din {K : PySem.W.Frag} {W : WX} : OpS K W (rDIn K false) fDIn := by
  intro w t σ H x y a b Q r rx ry p
  unfold fDIn at p
  split at p
  · rename_i o eo
    obtain ⟨q, ov, rfl, g, z⟩ := dGet_ok r ry rx eo
    refine ⟨q, ov, rfl, g, ?_⟩
    have := p.here r (.bl o.isSome) (Rep.bl _)
    rw [some_same z]
    simpa using this
  · exact p.elim
theorem s_dnotin {K : PySem.W.Frag} {W : WX} : OpS K W (rDIn K true) fDNotIn := by
  intro w t σ H x y a b Q r rx ry p
  unfold fDNotIn at p
  split at p
  · rename_i o eo
    obtain ⟨q, ov, rfl, g, z⟩ := dGet_ok r ry rx eo
    refine ⟨q, ov, rfl, g, ?_⟩
    have := p.here r (.bl (!o.isSome)) (Rep.bl _)
    rw [some_same z]
    simpa using this
  · exact p.elim
def mDGet2 (mo mk mx : ME Val) : ME Val := fun ρ t => (mo ρ t).bind fun a t => if isDicB a t then (mk ρ t).bind fun k t => (mx ρ t).bind fun x t => match dGet? a k t with
  | some o => .ok (o.getD x) t
  | none => .stuck
  else .stuck
theorem je_dget2 {X : Cx} {W : WX} {o e f : Expr} {mo mk mx : ME Val} {apos cpos : Pos} (hu : X.A.units + 65 < cLine) (ho : JE X W o mo) (he : JE X W e mk) (hf : JE X W f mx) (m : M2 X o "get" apos e f cpos := by exact ⟨rfl, rfl, rfl, rfl⟩) : JE X W (.Call (.Attribute o "get" apos) [e, f] [] cpos) (mDGet2 mo mk mx) :=
  PE.imp (pe_dget2N hu ho he hf m) fun σ H Q ⟨w, ρ, t, rt, rr, p⟩ => by
    refine ⟨w, ρ, t, rt, rr, PostE.imp (PostE.bind p) fun w1 H1 v t1 e1 s1 r1 q1 x rx => ?_⟩
    have q := q1 t1 e1 r1
    split at q
    · rename_i hb
      obtain ⟨a, rfl, isd⟩ := isDic_ok r1 rx hb
      refine ⟨a, rfl, isd, w1, ρ, t1, r1, rr.mono s1, PostE.imp (PostE.bind q) fun w2 H2 kv t2 e2 s2 r2 q2 y ry => ?_⟩
      refine ⟨w2, ρ, t2, r2, (rr.mono s1).mono s2, PostE.imp (PostE.bind (q2 t2 e2 r2)) fun w3 H3 xv t3 e3 s3 r3 q3 z rz => ?_⟩
      have q4 := q3 t3 e3 r3
      split at q4
      · rename_i ov eov
        obtain ⟨p', oV, ep, g, zz⟩ := dGet_ok r3 ((rx.mono s2).mono s3) (ry.mono s3) eov
        cases ep
        refine ⟨oV, g, ?_⟩
        rcases zz with ⟨rfl, rfl⟩ | ⟨z', v', rfl, rfl, rz'⟩
        · exact q4.here r3 _ rz
        · exact q4.here r3 _ rz'
      · exact q4.elim
    · exact q.elim
def sDPut (mo mi mv : ME Val) : MS := fun ρ t => (mv ρ t).toS ρ fun v t => (mo ρ t).toS ρ fun o t => (mi ρ t).toS ρ fun k t => match o with
  | .loc n => (match t.st[n]? with
    | some (.dK kvs) => (match keyK k with
      | some kk => if kvs.length < lim then .nx ρ { t with st := t.st.set n (.dK (putKV kvs kk v)) } else .stuck
      | none => .stuck)
    | some (.dT kvs) => (match keyT k with
      | some kk => if kvs.length < lim then .nx ρ { t with st := t.st.set n (.dT (putKV kvs kk v)) } else .stuck
      | none => .stuck)
    | _ => .stuck)
  | _ => .stuck
theorem js_dput {X : Cx} {W : WX} {o i e : Expr} {mo mi mv : ME Val} {pos' pos : Pos} (hu : X.A.units + 65 < cLine) (ho : JE X W o mo) (hi : JE X W i mi) (he : JE X W e mv) (hs : swapsWith e (some (.Subscript o i pos')) pos.line X.env = pure false := by rfl) :
    JS X W (.Assign [.Subscript o i pos'] e pos) (sDPut mo mi mv) :=
  PS.imp (ps_dputA hu ho hi he hs) fun D σ H ⟨w, ρ, t, rt, rr, p⟩ => by
    refine ⟨w, ρ, t, rt, rr, PostE.imp (PostS.expr rr p) fun w1 H1 v t1 e1 s1 r1 q x rx => ?_⟩
    refine ⟨w1, ρ, t1, r1, rr.mono s1, PostE.imp (PostS.expr (rr.mono s1) (q t1 e1)) fun w2 H2 ov t2 e2 s2 r2 q2 ox rox => ?_⟩
    refine ⟨w2, ρ, t2, r2, (rr.mono s1).mono s2, PostE.imp (PostS.expr ((rr.mono s1).mono s2) (q2 t2 e2)) fun w3 H3 iv t3 e3 s3 r3 q3 ix rix => ?_⟩
    have q4 := q3 t3 e3
    have rv := (rx.mono s2).mono s3
    split at q4
    · rename_i n
      split at q4
      · rename_i kvs en
        split at q4
        · rename_i kk ek
          split at q4
          · rename_i hl
            obtain ⟨a, rfl, ha, xs, h1, h2⟩ := loc_live r3 (rox.mono s3) en (by intro z; cases z)
            have hy := keyK_ok rix ek
            subst hy
            have s5 := step_wr (o := .dK (putK xs kk x)) r3 ha
            have r5 := r3.wr (o := .dK (putK xs kk x)) (c := .dK (putKV kvs kk v)) ha ⟨_, upd_same, (repVK_put2 rv h2).mono s5⟩
            exact ⟨a, rfl, .inl ⟨_, DPut.k h1 (by rw [h2.length]; exact lim_lt hl), q4 w3 _ σ s5 r5 ((((rr.mono s1).mono s2).mono s3).mono s5)⟩⟩
          · exact q4.elim
        · exact q4.elim
      · rename_i kvs en
        split at q4
        · rename_i kk ek
          split at q4
          · rename_i hl
            obtain ⟨a, rfl, ha, ob, es, ep, xs, h1, h3, h4, h2⟩ := loc_live r3 (rox.mono s3) en (by intro z; cases z)
            obtain ⟨b, rfl, kv, hd⟩ := keyT_ok rix ek
            refine ⟨a, rfl, .inr ⟨Fz w3 H3, ob, es, ep, xs, kk, b, h1, h3, h4, Fz.ex, rfl, kv, hd, by rw [h2.length]; exact lim_lt hl, fun o' es' ep' d' en' => ?_⟩⟩
            have s5 := step_wr (o := dicO a o') r3 ha
            have r5 := r3.wr (o := dicO a o') (c := .dT (putKV kvs kk v)) ha ⟨o', es', ep', _, upd_same, d', en'.mono s5.fz, (repVK_put2 rv h2).mono s5⟩
            exact q4 w3 _ σ s5 r5 ((((rr.mono s1).mono s2).mono s3).mono s5)
          · exact q4.elim
        · exact q4.elim
      · exact q4.elim
    · exact q4.elim
def mDNewK : ME Val := fun _ t => .ok (.loc t.st.length) { t with st := t.st ++ [.dK []] }
def mDNewT : ME Val := fun _ t => .ok (.loc t.st.length) { t with st := t.st ++ [.dT []] }
theorem je_dnewK {X : Cx} {W : WX} {pos : Pos} : JE X W (.Dict [] [] pos) mDNewK :=
  PE.imp pe_dnewK fun σ H Q ⟨w, ρ, t, rt, rr, p⟩ => fun a ha => by
    have ok : CellOk X.K (w.add a) (upd H a (.dK [])) a (.dK []) := ⟨[], upd_same, .nil⟩
    exact p (w.add a) _ (step_add rt ha) (rt.add ha ok) _ (.inr ⟨a, by rw [← rt.len]; exact add_last w a, rfl⟩)
theorem je_dnewT {X : Cx} {W : WX} {pos : Pos} : JE X W (.Dict [] [] pos) mDNewT :=
  PE.imp pe_dnewN fun σ H Q ⟨w, ρ, t, rt, rr, p⟩ => fun a o ha dok => by
    have ok : CellOk X.K (w.add a) (upd H a (dicO a o)) a (.dT []) := ⟨o, #[], 0, [], upd_same, dok, .nil, .nil⟩
    exact p (w.add a) _ (step_add rt ha) (rt.add ha ok) _ (.inr ⟨a, by rw [← rt.len]; exact add_last w a, rfl⟩)
def mDisp1 (mk mv : ME Val) : ME Val := fun ρ t => (mk ρ t).bindN fun k t => (mv ρ t).bindN fun v t => match keyT k with
  | some kk => .ok (.loc t.st.length) { t with st := t.st ++ [.dT [(kk, v)]] }
  | none => .stuck
theorem je_disp1 {X : Cx} {W : WX} {k v : Expr} {mk mv : ME Val} {pos : Pos} (hu : X.A.units + 65 < cLine) (hk : JE X W0 k mk) (hv : JE X W0 v mv) : JE X W (.Dict [some k] [v] pos) (mDisp1 mk mv) :=
  PE.imp (pe_disp1 hu hk hv) fun σ H Q ⟨w, ρ, t, rt, rr, p⟩ => fun pD o hp dok => by
    have hrem : rem (upd H pD (dicO pD o)) pD = H := by rw [rem_upd, rem_none hp]
    have rh : RelT X.K (w.hide pD) t (upd H pD (dicO pD o)) := RelT.hide (by rw [hrem]; exact rt) upd_same
    have rrh : RelR X.K (w.hide pD) ρ σ (upd H pD (dicO pD o)) := ⟨rr.len, fun j v e => let ⟨y, e1, r⟩ := rr.at_ j v e; ⟨y, e1, RepV.hide.mpr (by rw [hrem]; exact r)⟩⟩
    have stk : ¬ PostE X.K W σ w H (fun w' H' v => ∀ x, RepV X.K w' H' x v → Q x H') .stuck := fun z => z
    refine ⟨w.hide pD, ρ, t, rh, rrh, PostE.imp (PostE.bindN (fun r => PostE X.K W σ w H _ r) stk p) fun w1 H1 kv t1 e1 s1 r1 q1 x rx => ?_⟩
    refine ⟨w1, ρ, t1, r1, rrh.mono s1, PostE.imp (PostE.bindN (fun r => PostE X.K W σ w H _ r) stk (q1 t1 e1)) fun w2 H2 vv t2 e2 s2 r2 q2 y ry => ?_⟩
    have q3 := q2 t2 e2
    split at q3
    · rename_i kk ek
      have st := s1.trans s2
      have hD2 : H2 pD = some (dicO pD o) := st.keep pD _ upd_same fun z => by
        rcases z with z | z
        · obtain ⟨b, l, e, z⟩ := z
          obtain ⟨_, n1, n2, _⟩ := rh.box b l e
          rcases z with rfl | rfl
          · exact n1 (List.mem_cons_self ..)
          · exact n2 (List.mem_cons_self ..)
        · exact (rh.out pD z).1 (List.mem_cons_self ..)
      obtain ⟨w2', rfl, s2'⟩ := st.unhide
      rw [hrem] at s2'
      have hnD : ∀ a ∈ w2'.hid, a ≠ pD := fun a ha => by
        rw [s2'.hid] at ha
        intro z
        obtain ⟨u, eu⟩ := rt.hidn a ha
        rw [z, hp] at eu; cases eu
      have r2' : RelT X.K w2' t2 (rem H2 pD) := r2.unhide hnD
      obtain ⟨b, rfl, kv', kd⟩ := keyT_ok (RepV.hide.mp (rx.mono s2)) ek
      refine ⟨hD2, Fz w2' (rem H2 pD), kk, b, fun a u e => (rem_some (Fz.of e).1).2, rfl, kv', kd, fun o' es' ep' d' en' => ?_⟩
      have eu : upd H2 pD (dicO pD o') = upd (rem H2 pD) pD (dicO pD o') := by
        funext a
        by_cases e : a = pD
        · rw [e, upd_same, upd_same]
        · rw [upd_ne e, upd_ne e, rem_ne e]
      rw [eu]
      have sa := step_add (o := dicO pD o') r2' (p := pD) rem_self
      have ok : CellOk X.K (w2'.add pD) (upd (rem H2 pD) pD (dicO pD o')) pD (.dT [(kk, vv)]) := ⟨o', es', ep', [(kk, y)], upd_same, d', en'.mono sa.fz, .cons ((RepV.hide.mp ry).mono sa) .nil⟩
      exact q3 (w2'.add pD) _ (s2'.trans sa) (r2'.add rem_self ok) _ (.inr ⟨pD, by rw [← r2'.len]; exact add_last w2' pD, rfl⟩)
    · exact q3.elim
def fDVals (v : Val) (t : T) : R (List Val) := match v with
  | .d (.dK kvs) => .ok (kvs.map fun p => .d p.2) t
  | .loc n => (match t.st[n]? with
    | some (.dK kvs) => .ok (kvs.map (·.2)) t
    | _ => .stuck)
  | _ => .stuck
theorem repVK_vals {K : PySem.W.Frag} {w : Wd} {H : Hp} {κ : Type} {xs : List (κ × V)} {kvs : List (κ × Val)} (h : RepVK K w H xs kvs) : RepVs K w H (xs.map (·.2)) (kvs.map (·.2)) := by
  induction h with
  | nil => exact .nil
  | cons h _ ih => exact .cons h ih
theorem jl_vals {X : Cx} {W : WX} {e : Expr} {m : ME Val} {p apos cpos pos : Pos} (hc : X.calm = true) (hm : X.mg "list" = none) (he : JE X W e m) (hg : Gl X "list" := by rfl) (hv : bootBuiltins "list" = some (.type "list") := by decide +kernel) (hbase : attributeBase e "values" X.env (eval e X.env) = eval e X.env := by rfl) (hline : (apos.endLine == cpos.line) = true := by rfl)
    (hs : starEach [.Call (.Attribute e "values" apos) [] [] cpos] X.env = (false, eval (.Call (.Attribute e "values" apos) [] [] cpos) X.env) :: starEach [] X.env := by rfl) :
    JL X W (.Call (.Name "list" p) [.Call (.Attribute e "values" apos) [] [] cpos] [] pos) (m1 fDVals m) :=
  PE.imp (pe_listVals hc he hg hm hv hbase hline hs) fun σ H Q ⟨w, ρ, t, rt, rr, pp⟩ => by
    refine ⟨w, ρ, t, rt, rr, PostE.imp (PostE.bind pp) fun w1 H1 v t1 e1 s1 r1 q1 x rx => ?_⟩
    have q := q1 t1 e1 r1
    unfold fDVals at q
    split at q
    · rename_i kvs
      have rx' : Rep X.K (Fz w1 H1) x (.dK kvs) := rx
      cases rx' with
      | @dK a xs _ h hs' =>
        obtain ⟨ob, h⟩ := h
        refine ⟨a, xs, rfl, .inr ⟨ob, (Fz.of h).1⟩, fun l hl => ?_⟩
        have rv := repVK_vals (repK_V hs')
        rw [List.map_map] at rv
        exact q.here r1 l _ hl rv
    · split at q
      · rename_i kvs en
        obtain ⟨a, rfl, ha, xs, h1, h2⟩ := loc_live r1 rx en (by intro z; cases z)
        exact ⟨a, xs, rfl, .inl h1, fun l hl => q.here r1 l _ hl (repVK_vals h2)⟩
      · exact q.elim
    · exact q.elim
end En
set_option Elab.async false
set_option linter.all false
set_option maxRecDepth 100000
set_option maxHeartbeats 1000000
set_option autoImplicit false
namespace En
open PySem PySem.Spec PyProof.Rows L2
abbrev MG := List Val → T → R Val
theorem callG_sim {K : PySem.W.Frag} {W : WX} {w : Wd} {t : T} {H : Hp} {σ : L2.St} {xs : List V} {vs : List Val} {n : Nat} {mg : MG} {Q : VK} (hn : xs.length = n) (r : RelT K w t H) (rx : RepVs K w H xs vs) (p : PostE K W σ w H (fun w' H' v => ∀ z, RepV K w' H' z v → Q z H') (mg vs t)) : spG K n mg xs H Q (WE W σ) := by
  refine ⟨w, t, vs, hn, r, rx, ?_⟩
  revert p
  cases mg vs t with
  | ok v t' => exact fun p w' H' x s r' rv => p w' H' s r' x rv
  | exc x t' => exact fun p w' H' cls d s r' rv => p w' H' cls d s r' rv
  | stuck => exact fun p => p
theorem fnOk0G {P : Program} {wd : World} {K : PySem.W.Frag} {mg : Str → Option Value} {base : Heap} {CX : CXT} {k n : Nat} {f : Addr} {fd : FuncData} {ps : List Str} : FnOk P wd K mg base CX k f fd ps (spG K n fun _ _ => .stuck) :=
  ⟨fun _ _ _ _ h => by obtain ⟨w, b, us, _, _, _, p⟩ := h; exact p.elim, fun _ _ _ _ _ _ _ _ _ _ _ _ _ h => by obtain ⟨w, b, us, _, _, _, p⟩ := h; exact p.elim⟩
section
variable {X : Cx} {W : WX} {k n : Nat} {f : Addr} {fd : FuncData} {ps : List Str} {mg : MG} {x c m : Str} {p pos apos : Pos} {e o : Expr} {es : List Expr} {mo : ME Val} {ma : ME (List Val)}
theorem je_callG (F : FnOk X.prog X.w X.K X.mg X.base (L2.CX X.prog X.w) k f fd ps (spG X.K n mg)) (hr : Room k X.A) (hm : X.mg x = some (.ref f)) (hk : PySem.W.keepIn X.K (.ref f) = true) (hb : Binds X.K fd ps []) (tk : Takes X W) (ha : JA X W (e :: es) ma) (hl : (e :: es).length = n := by rfl)
    (hg : Gl X x := by rfl) (hdb : (x == ("__debug__" : Str)) = false := by decide) (he : starEach (e :: es) X.env = (false, eval e X.env) :: starEach es X.env := by rfl) (hpl : (backTo pos (starEach es X.env)).any (·.1) = false := by rfl)
    (hla : ∀ ρ t vs t', ma ρ t = .ok vs t' → vs.length = n) : JE X W (.Call (.Name x p) (e :: es) [] pos) (mL mg ma) :=
  PE.imp (pe_callSD (E := WE W) (dvs := []) F hr hg hm hk hb .nil (fun σ => passAt tk σ) ha hdb he hpl) fun σ H Q ⟨w, ρ, t, rt, rr, pp⟩ => by
    refine ⟨w, ρ, t, rt, rr, PostE.imp (PostE.bind pp) fun w1 H1 v t1 e1 s1 r1 q1 xs rx => ?_⟩
    show spG X.K n mg (xs ++ []) H1 Q (WE W σ)
    rw [List.append_nil]
    exact callG_sim (by rw [rx.length]; exact hla ρ t v t1 e1) r1 rx (q1 t1 e1 r1)
def fMakeG (c : Str) (mg : MG) (vs : List Val) (t : T) : R Val := match mg (.loc t.st.length :: vs) { t with st := t.st ++ [.ins c []] } with
  | .ok (.d .non) t' => .ok (.loc t.st.length) t'
  | .exc x t' => .exc x t'
  | _ => .stuck
theorem makeG_sim {K : PySem.W.Frag} {w : Wd} {t : T} {H : Hp} {σ : L2.St} {xs : List V} {vs : List Val} {Q : VK} (hn : xs.length = n) (r : RelT K w t H) (rx : RepVs K w H xs vs) (p : PostE K W σ w H (fun w' H' v => ∀ z, RepV K w' H' z v → Q z H') (fMakeG c mg vs t))
    {x dx : Addr} (hx : H x = none) (hdx : H dx = none) (ne : dx ≠ x) : spG K (n + 1) mg (.ref x :: xs) (upd (upd H dx (.own x)) x (.ins (He.ga K c) dx [])) (fun v H2 => v = .non ∧ Q (.ref x) H2) (WE W σ) := by
  have s1 := step_new (o := .own x) r hdx
  have r1 := r.new (o := .own x) hdx
  have hx1 : upd H dx (.own x) x = none := by rw [upd_ne (Ne.symm ne)]; exact hx
  have s2 := s1.trans (step_add (o := .ins (He.ga K c) dx []) r1 hx1)
  have r2 : RelT K (w.add x) { t with st := t.st ++ [.ins c []] } (upd (upd H dx (.own x)) x (.ins (He.ga K c) dx [])) := r1.add hx1 ⟨dx, [], upd_same, .nil⟩
  have rl : RepV K (w.add x) (upd (upd H dx (.own x)) x (.ins (He.ga K c) dx [])) (.ref x) (.loc t.st.length) := .inr ⟨x, by rw [← r.len]; exact add_last w x, rfl⟩
  refine ⟨w.add x, { t with st := t.st ++ [.ins c []] }, .loc t.st.length :: vs, by simp [hn], r2, .cons rl (rx.mono s2), ?_⟩
  unfold fMakeG at p
  split at p
  · rename_i t' e
    rw [e]
    intro w' H' y s r' rv
    cases rv
    exact ⟨rfl, p w' H' (s2.trans s) r' _ (rl.mono s)⟩
  · rename_i y t' e
    rw [e]
    intro w' H' cls d s r' rv
    exact p w' H' cls d (s2.trans s) r' rv
  · exact p.elim
theorem je_makeG (M : Mk X.K (He.ga X.K c) f) (F : FnOk X.prog X.w X.K X.mg X.base (L2.CX X.prog X.w) k f fd ps (spG X.K (n + 1) mg)) (hr : Room (k + 1) X.A) (hm : X.mg c = some (.ref (He.ga X.K c))) (hb : Binds X.K fd ps []) (tk : Takes X W) (ha : JA X W (e :: es) ma)
    (hla : ∀ ρ t vs t', ma ρ t = .ok vs t' → vs.length = n)
    (hg : Gl X c := by rfl) (hdb : (c == ("__debug__" : Str)) = false := by decide) (he : starEach (e :: es) X.env = (false, eval e X.env) :: starEach es X.env := by rfl) (hpl : (backTo pos (starEach es X.env)).any (·.1) = false := by rfl) : JE X W (.Call (.Name c p) (e :: es) [] pos) (mL (fMakeG c mg) ma) := by
  refine ⟨fun pins s σ H Q I ⟨w, ρ, t, rt, rr, pp⟩ => ?_⟩
  refine wpAny_Call_Name_kw (ld_glob I hg hm ?_ hdb)
  refine PySem.W.callWith_K (h₀ := X.base) I.ok.mod.kin M.kp (thn (ha.run pos pins s σ H (fun xs H1 => ∀ x dx, H1 x = none → H1 dx = none → dx ≠ x → spG X.K (n + 1) mg (.ref x :: xs) (upd (upd H1 dx (.own x)) x (.ins (He.ga X.K c) dx [])) (fun v H2 => v = .non ∧ Q (.ref x) H2) (WE W σ)) I
    ⟨w, ρ, t, rt, rr, PostE.imp (PostE.bind pp) fun w1 H1 v t1 e1 s1 r1 q1 xs rx x dx hx hdx ne => makeG_sim (by rw [rx.length]; exact hla ρ t v t1 e1) r1 rx (q1 t1 e1 r1) hx hdx ne⟩) fun us s1 ⟨vs, H1, I1, r, q⟩ => ⟨I1.kIn, ?_⟩) he hpl
  exact run_makeS M F hr hb tk I1 r q
def mMethG (c m : Str) (mg : MG) (mo : ME Val) (ma : ME (List Val)) : ME Val := fun ρ t => (mo ρ t).bind fun o t => match o with
  | .loc n => (match t.st[n]? with
    | some (.ins c' fs) => if c' = c ∧ fs.lookup m = none then (ma ρ t).bind fun vs t => mg (.loc n :: vs) t else .stuck
    | _ => .stuck)
  | .d (.ins c' fs) => if c' = c ∧ fs.lookup m = none then (ma ρ t).bind fun vs t => mg (.d (.ins c' fs) :: vs) t else .stuck
  | _ => .stuck
theorem repVK_none {K : PySem.W.Frag} {w : Wd} {H : Hp} {f : Str} : ∀ {xs : List (Str × V)} {fs : List (Str × Val)}, RepVK K w H xs fs → fs.lookup f = none → xs.lookup f = none
  | _, _, .nil, e => rfl
  | _, _, .cons (k := y) h hs, e => by
    rw [List.lookup_cons] at e ⊢
    cases q : (f == y) with
    | true => rw [q] at e; cases e
    | false => rw [q] at e; exact repVK_none hs e
theorem methG_sim {K : PySem.W.Frag} (hla : ∀ ρ t vs t', ma ρ t = .ok vs t' → vs.length = n) : ∀ σ H Q, tM K W (mMethG c m mg mo ma) σ H Q → tMethS (He.ga K c) m (spG K (n + 1) mg) (WE W) (tM K W mo) (tMA K W ma) σ H Q := fun σ H Q ⟨w, ρ, t, rt, rr, p⟩ => by
  refine ⟨w, ρ, t, rt, rr, PostE.imp (PostE.bind p) fun w1 H1 o t1 e1 s1 r1 q1 x rx => ?_⟩
  have q := q1 t1 e1 r1
  split at q
  · rename_i j
    split at q
    · rename_i c' fs en
      split at q
      · rename_i hc
        obtain ⟨rfl, hl⟩ := hc
        obtain ⟨a, rfl, ha, dx, ys, h1, h2⟩ := loc_live r1 rx en (fun z => by cases z)
        refine ⟨a, dx, ys, rfl, h1, repVK_none h2 hl, w1, ρ, t1, r1, rr.mono s1, PostE.imp (PostE.bind q) fun w2 H2 vs t2 e2 s2 r2 q2 xs rxs => ?_⟩
        exact callG_sim (by rw [List.length_cons, rxs.length, hla ρ t1 vs t2 e2]) r2 (.cons (rx.mono s2) rxs) (q2 t2 e2 r2)
      · exact q.elim
    · exact q.elim
  · rename_i c' fs
    split at q
    · rename_i hc
      obtain ⟨rfl, hl⟩ := hc
      have rx' : Rep K (Fz w1 H1) x (.ins c' fs) := rx
      cases rx' with
      | ins h hs =>
        refine ⟨_, _, _, rfl, (Fz.of h).1, repF_none hs hl, w1, ρ, t1, r1, rr.mono s1, PostE.imp (PostE.bind q) fun w2 H2 vs t2 e2 s2 r2 q2 xs rxs => ?_⟩
        exact callG_sim (by rw [List.length_cons, rxs.length, hla ρ t1 vs t2 e2]) r2 (.cons (rx.mono s2) rxs) (q2 t2 e2 r2)
    · exact q.elim
  · exact q.elim
theorem je_methG {pl : Sem Bool} (he : JE X W o mo) (hc : Cls X.K (He.ga X.K c)) (hm : Meth X.K (He.ga X.K c) m f) (F : FnOk X.prog X.w X.K X.mg X.base (L2.CX X.prog X.w) k f fd ps (spG X.K (n + 1) mg)) (hr : Room k X.A) (hb : Binds X.K fd ps []) (tk : Takes X W) (ha : JA X W (e :: es) ma)
    (hla : ∀ ρ t vs t', ma ρ t = .ok vs t' → vs.length = n)
    (hst : starEach (e :: es) X.env = (false, eval e X.env) :: starEach es X.env := by rfl) (hpl : (backTo pos (starEach es X.env)).any (·.1) = false := by rfl)
    (ht : eval (.Call (.Attribute o m apos) (e :: es) [] pos) X.env = (do
      let ov ← eval o X.env
      standAt apos.atName
      let (f, first) ← holding [ov] (getMethod ov m pl)
      callWith pos f first (backTo pos (starEach (e :: es) X.env)) (backToKw pos (keywordEach [] X.env))) := by rfl) :
    JE X W (.Call (.Attribute o m apos) (e :: es) [] pos) (mMethG c m mg mo ma) := PE.imp (pe_methS (pl := pl) he hc hm F hr hb tk ha hst hpl ht) (methG_sim hla)
end
def keyKD : Key → D
  | .inl i => .int i
  | .inr x => .str x
def fDValsI (v : Val) (t : T) : R (List Val) := match v with
  | .d (.dK kvs) => .ok (kvs.map fun p => .d p.2) t
  | _ => .stuck
def fDKeysI (v : Val) (t : T) : R (List Val) := match v with
  | .d (.dK kvs) => .ok (kvs.map fun p => .d (keyKD p.1)) t
  | _ => .stuck
theorem repK_get {K : PySem.W.Frag} {F : Hp} : ∀ {xs : List (Key × V)} {ds : List (Key × D)} {i : Nat} {p : Key × D}, RepK K F xs ds → ds[i]? = some p → ∃ x, xs[i]? = some (p.1, x) ∧ Rep K F x p.2
  | _, _, i, p, .nil, e => by simp at e
  | _, _, 0, p, .cons h hs, e => by
    simp only [List.getElem?_cons_zero, Option.some.injEq] at e
    subst e
    exact ⟨_, rfl, h⟩
  | _, _, i + 1, p, .cons h hs, e => by
    simp only [List.getElem?_cons_succ] at e ⊢
    exact repK_get hs e
theorem RepK.length {K : PySem.W.Frag} {F : Hp} : ∀ {xs : List (Key × V)} {ds : List (Key × D)}, RepK K F xs ds → xs.length = ds.length
  | _, _, .nil => rfl
  | _, _, .cons _ hs => by simp [RepK.length hs]
theorem ItOk.vals {K : PySem.W.Frag} {w : Wd} {H : Hp} {a : Addr} {o : Obj} {xs : List (Key × V)} {kvs : List (Key × D)} (h : Fz w H a = some (.frz o (.dK xs))) (hs : RepK K (Fz w H) xs kvs) : ItOk K w H (Itd a o xs) (kvs.map fun p => .d p.2) where
  go := fun i v w' H' t' e s r => by
    rw [List.getElem?_map] at e
    obtain ⟨p, ep, rfl⟩ := Option.map_eq_some_iff.mp e
    obtain ⟨x, ex, rx⟩ := repK_get (hs.mono s) ep
    refine ⟨⟨(Fz.of (s _ _ h)).1, (List.getElem?_eq_some_iff.mp ex).1⟩, fun y H'' q => ?_⟩
    obtain ⟨rfl, k, ek⟩ := q
    rw [ex] at ek
    cases ek
    exact ⟨.inl rfl, rx⟩
  stop := fun w' H' t' s r => ⟨(Fz.of (s _ _ h)).1, by rw [List.length_map, RepK.length hs]; exact Nat.le_refl _⟩
theorem ItOk.keys {K : PySem.W.Frag} {w : Wd} {H : Hp} {a : Addr} {o : Obj} {xs : List (Key × V)} {kvs : List (Key × D)} (h : Fz w H a = some (.frz o (.dK xs))) (hs : RepK K (Fz w H) xs kvs) : ItOk K w H (Itk a o xs) (kvs.map fun p => .d (keyKD p.1)) where
  go := fun i v w' H' t' e s r => by
    rw [List.getElem?_map] at e
    obtain ⟨p, ep, rfl⟩ := Option.map_eq_some_iff.mp e
    obtain ⟨x, ex, rx⟩ := repK_get (hs.mono s) ep
    refine ⟨⟨(Fz.of (s _ _ h)).1, (List.getElem?_eq_some_iff.mp ex).1⟩, fun y H'' q => ?_⟩
    obtain ⟨rfl, k, v, ek, rfl⟩ := q
    rw [ex] at ek
    cases ek
    refine ⟨.inl rfl, ?_⟩
    cases p.1 with
    | inl i => exact Rep.int i
    | inr x => exact Rep.str x
  stop := fun w' H' t' s r => ⟨(Fz.of (s _ _ h)).1, by rw [List.length_map, RepK.length hs]; exact Nat.le_refl _⟩
theorem ji_vals {X : Cx} {W : WX} {tg e : Expr} {m : ME Val} {apos cpos : Pos} (he : JE X W e m) (hbase : attributeBase e "values" X.env (eval e X.env) = eval e X.env := by rfl) (hline : (apos.endLine == cpos.line) = true := by rfl) : JI X W tg (.Call (.Attribute e "values" apos) [] [] cpos) (m1 fDValsI m) :=
  PI.imp (pi_values he hbase hline) fun σ H R ⟨w, ρ, t, rt, rr, p⟩ => by
    refine ⟨w, ρ, t, rt, rr, PostE.imp (PostE.bind p) fun w1 H1 v t1 e1 s1 r1 q x rx => ?_⟩
    have q1 := q t1 e1 r1
    unfold fDValsI at q1
    split at q1
    · rename_i kvs
      have rx' : Rep X.K (Fz w1 H1) x (.dK kvs) := rx
      cases rx' with
      | @dK a xs _ h hs =>
        obtain ⟨ob, h⟩ := h
        exact ⟨a, ob, xs, rfl, (Fz.of h).1, q1.here r1 _ (ItOk.vals h hs)⟩
    · exact q1.elim
theorem ji_keysK {X : Cx} {W : WX} {tg e : Expr} {m : ME Val} (he : JE X W e m) : JI X W tg e (m1 fDKeysI m) :=
  PI.imp (pi_keys he) fun σ H R ⟨w, ρ, t, rt, rr, p⟩ => by
    refine ⟨w, ρ, t, rt, rr, PostE.imp (PostE.bind p) fun w1 H1 v t1 e1 s1 r1 q x rx => ?_⟩
    have q1 := q t1 e1 r1
    unfold fDKeysI at q1
    split at q1
    · rename_i kvs
      have rx' : Rep X.K (Fz w1 H1) x (.dK kvs) := rx
      cases rx' with
      | @dK a xs _ h hs =>
        obtain ⟨ob, h⟩ := h
        exact ⟨a, ob, rfl, .inl ⟨xs, (Fz.of h).1, q1.here r1 _ (ItOk.keys h hs)⟩⟩
    · exact q1.elim
def intsOf : List Val → Option (List Int)
  | [] => some []
  | .d (.int i) :: vs => (intsOf vs).map (i :: ·)
  | _ => none
theorem intsOf_rep {K : PySem.W.Frag} {w : Wd} {H : Hp} : ∀ {xs : List V} {vs : List Val} {ns : List Int}, RepVs K w H xs vs → intsOf vs = some ns → xs = ns.map V.int
  | _, _, ns, .nil, e => by cases e; rfl
  | _, v :: vs, ns, .cons h hs, e => by
    unfold intsOf at e
    split at e
    · rename_i heq; cases heq
    · rename_i i vs' heq
      cases heq
      obtain ⟨ms, em, rfl⟩ := Option.map_eq_some_iff.mp e
      rw [List.map_cons, ← intsOf_rep hs em]
      cases h
      rfl
    · cases e
def maxL : List Int → Int
  | [] => 0
  | n :: ns => ns.foldl max n
def minL : List Int → Int
  | [] => 0
  | n :: ns => ns.foldl min n
theorem foldl_max (ns : List Int) : ∀ n : Int, n ≤ ns.foldl max n ∧ (∀ y ∈ ns, y ≤ ns.foldl max n) ∧ (ns.foldl max n = n ∨ ns.foldl max n ∈ ns) := by
  induction ns with
  | nil => intro n; exact ⟨Int.le_refl _, fun _ h => (by cases h), .inl rfl⟩
  | cons a ns ih =>
    intro n
    rw [List.foldl_cons]
    obtain ⟨h1, h2, h3⟩ := ih (max n a)
    refine ⟨by omega, fun y hy => ?_, ?_⟩
    · rcases List.mem_cons.mp hy with rfl | hy
      · omega
      · exact h2 y hy
    · rcases h3 with h3 | h3
      · by_cases hc : a ≤ n
        · left; rw [h3]; omega
        · right; rw [h3, show max n a = a by omega]; exact List.mem_cons_self ..
      · right; exact List.mem_cons_of_mem _ h3
theorem foldl_min (ns : List Int) : ∀ n : Int, ns.foldl min n ≤ n ∧ (∀ y ∈ ns, ns.foldl min n ≤ y) ∧ (ns.foldl min n = n ∨ ns.foldl min n ∈ ns) := by
  induction ns with
  | nil => intro n; exact ⟨Int.le_refl _, fun _ h => (by cases h), .inl rfl⟩
  | cons a ns ih =>
    intro n
    rw [List.foldl_cons]
    obtain ⟨h1, h2, h3⟩ := ih (min n a)
    refine ⟨by omega, fun y hy => ?_, ?_⟩
    · rcases List.mem_cons.mp hy with rfl | hy
      · omega
      · exact h2 y hy
    · rcases h3 with h3 | h3
      · by_cases hc : n ≤ a
        · left; rw [h3]; omega
        · right; rw [h3, show min n a = a by omega]; exact List.mem_cons_self ..
      · right; exact List.mem_cons_of_mem _ h3
theorem maxL_spec {n : Int} {ns : List Int} : maxL (n :: ns) ∈ n :: ns ∧ ∀ y ∈ n :: ns, y ≤ maxL (n :: ns) := by
  obtain ⟨h1, h2, h3⟩ := foldl_max ns n
  refine ⟨?_, fun y hy => ?_⟩
  · rcases h3 with h3 | h3
    · show ns.foldl max n ∈ _; rw [h3]; exact List.mem_cons_self ..
    · exact List.mem_cons_of_mem _ h3
  · rcases List.mem_cons.mp hy with rfl | hy
    · exact h1
    · exact h2 y hy
theorem minL_spec {n : Int} {ns : List Int} : minL (n :: ns) ∈ n :: ns ∧ ∀ y ∈ n :: ns, minL (n :: ns) ≤ y := by
  obtain ⟨h1, h2, h3⟩ := foldl_min ns n
  refine ⟨?_, fun y hy => ?_⟩
  · rcases h3 with h3 | h3
    · show ns.foldl min n ∈ _; rw [h3]; exact List.mem_cons_self ..
    · exact List.mem_cons_of_mem _ h3
  · rcases List.mem_cons.mp hy with rfl | hy
    · exact h1
    · exact h2 y hy
def fInts (f : List Int → Int) (one : Bool) (vs : List Val) (t : T) : R Val := match vs with
  | [v] => (match asList v t with
    | some us => (match intsOf us with
      | some ns => if one && ns.isEmpty then .stuck else retI (f ns) t
      | none => .stuck)
    | none => .stuck)
  | _ => .stuck
def fMax1 := fInts maxL true
def fMin1 := fInts minL true
def fSum1 := fInts List.sum false
theorem fInts_inv {K : PySem.W.Frag} {W : WX} {w : Wd} {t : T} {H : Hp} {σ : L2.St} {xs : List V} {vs : List Val} {Q : VK} {f : List Int → Int} {one : Bool} (r : RelT K w t H) (rx : RepVs K w H xs vs) (p : PostE K W σ w H (fun w' H' v => ∀ z, RepV K w' H' z v → Q z H') (fInts f one vs t)) :
    ∃ a ns, xs = [.ref a] ∧ SqL K H a (ns.map V.int) ∧ (one = true → ns ≠ []) ∧ Q (.int (f ns)) H := by
  unfold fInts at p
  split at p
  · split at p
    · rename_i us eu
      split at p
      · rename_i ns en
        split at p
        · exact p.elim
        · rename_i hc
          obtain ⟨x, rfl, rx1⟩ := rx.one
          obtain ⟨a, ys, rfl, hq, hs⟩ := asList_rep r rx1 eu
          have hy := intsOf_rep hs en
          subst hy
          refine ⟨a, ns, rfl, SqL.of hq, fun h z => hc ?_, p.here r _ (Rep.int _)⟩
          rw [h, z]; rfl
      · exact p.elim
    · exact p.elim
  · exact p.elim
theorem c_max1 {K : PySem.W.Frag} {W : WX} : CallS K W (rMax K) fMax1 := by
  intro w t σ H xs vs Q r rx p
  obtain ⟨a, ns, rfl, hs, hne, q⟩ := fInts_inv r rx p
  cases ns with
  | nil => exact absurd rfl (hne rfl)
  | cons n ns =>
    refine ⟨a, n :: ns, rfl, hs, by simp, fun m hm hy => ?_⟩
    obtain ⟨h1, h2⟩ := maxL_spec (n := n) (ns := ns)
    rw [show m = maxL (n :: ns) from Int.le_antisymm (h2 m hm) (hy _ h1)]
    exact q
theorem c_min1 {K : PySem.W.Frag} {W : WX} : CallS K W (rMin K) fMin1 := by
  intro w t σ H xs vs Q r rx p
  obtain ⟨a, ns, rfl, hs, hne, q⟩ := fInts_inv r rx p
  cases ns with
  | nil => exact absurd rfl (hne rfl)
  | cons n ns =>
    refine ⟨a, n :: ns, rfl, hs, by simp, fun m hm hy => ?_⟩
    obtain ⟨h1, h2⟩ := minL_spec (n := n) (ns := ns)
    rw [show m = minL (n :: ns) from Int.le_antisymm (hy _ h1) (h2 m hm)]
    exact q
theorem c_sum1 {K : PySem.W.Frag} {W : WX} : CallS K W (rSum K) fSum1 := by
  intro w t σ H xs vs Q r rx p
  obtain ⟨a, ns, rfl, hs, _, q⟩ := fInts_inv r rx p
  exact ⟨a, ns, rfl, hs, q⟩
def ixOf (i : Int) : List Int → Option Nat
  | [] => none
  | n :: ns => if n = i then some 0 else (ixOf i ns).map (· + 1)
theorem ixOf_spec {i : Int} : ∀ {ns : List Int} {j : Nat}, ixOf i ns = some j → ns[j]? = some i ∧ ∀ m, m < j → ∀ z, ns[m]? = some z → z ≠ i
  | [], j, e => by cases e
  | n :: ns, j, e => by
    unfold ixOf at e
    split at e
    · rename_i h
      cases e
      exact ⟨by simp [h], fun m hm => absurd hm (Nat.not_lt_zero _)⟩
    · rename_i h
      obtain ⟨k, ek, rfl⟩ := Option.map_eq_some_iff.mp e
      obtain ⟨h1, h2⟩ := ixOf_spec ek
      refine ⟨by simpa using h1, fun m hm z ez => ?_⟩
      cases m with
      | zero => simp at ez; subst ez; exact h
      | succ m => exact h2 m (by omega) z (by simpa using ez)
def fIndexI (v : Val) (vs : List Val) (t : T) : R Val := match vs with
  | [.d (.int i)] => (match asList v t with
    | some us => (match intsOf us with
      | some ns => (match ixOf i ns with
        | some j => retI (j : Int) t
        | none => .stuck)
      | none => .stuck)
    | none => .stuck)
  | _ => .stuck
theorem m_indexI {K : PySem.W.Frag} {W : WX} : MtS K W (rIndex K) fIndexI := by
  intro w t σ H x xs v vs Q r rx rxs p
  unfold fIndexI at p
  split at p
  · rename_i i
    split at p
    · rename_i us eu
      split at p
      · rename_i ns en
        split at p
        · rename_i j ej
          obtain ⟨y, rfl, ry⟩ := rxs.one
          cases ry
          obtain ⟨a, ys, rfl, hq, hs⟩ := asList_rep r rx eu
          have hy := intsOf_rep hs en
          subst hy
          obtain ⟨h1, h2⟩ := ixOf_spec ej
          refine ⟨a, ns.map V.int, .int i, j, .int i, rfl, rfl, SqL.of hq, rfl, ?_, by rw [List.getElem?_map, h1]; rfl, by simp [eqV], fun m z' hm ez => ?_, p.here r _ (Rep.int _)⟩
          · rw [List.all_eq_true]
            intro z hz
            obtain ⟨n, _, rfl⟩ := List.mem_map.mp hz
            rfl
          · rw [List.getElem?_map] at ez
            obtain ⟨n, en', rfl⟩ := Option.map_eq_some_iff.mp ez
            have := h2 m hm n en'
            simp [eqV, this]
        · exact p.elim
      · exact p.elim
    · exact p.elim
  · exact p.elim
end En
set_option Elab.async false
set_option linter.all false
set_option maxRecDepth 100000
set_option maxHeartbeats 3200000
set_option autoImplicit false
namespace En
open PySem PySem.Spec PyProof.Rows L2
section
variable {P : Program} {w : World} {A : Around} {E : Value → Shared → Prop} {s : Shared}
abbrev set0 (w : World) : Obj := { cls := .type "set", dict := none, data := .set #[] 0 (.fresh 0 0 (!w.params.followText "set-order")) }
theorem call_setTup {l : Addr} {items : Array Value} (ks : List (Addr × List Int)) {Q : Value → Shared → Prop} (hh : A.handled = none) (hl : s.heap.IsTuple l items) (hit : items.toList = ks.map fun p => Value.ref p.1)
    (hk : ∀ p ∈ ks, IsT P w s.heap p.2 p.1) (hfew : ks.length < 64) (hu : A.units + 3 < cLine)
    (h : ∀ (h' : Heap) (tk : Nat) L es ep t, SetTR P w h' s.heap.objs.size L es ep t → Got ks ks.length L → (∀ b o, s.heap.get? b = some o → h'.get? b = some o) → Q (.ref s.heap.objs.size) { s with heap := h', toks := tk }) :
    wpAny (model P w) A (call (.type "set") [.ref l]) Q E s := by
  have hisz : items.size = ks.length := by
    have q := congrArg List.length hit
    rwa [Array.length_toList, List.length_map] at q
  have hz : ∀ b, s.heap.objs.size ≤ b → s.heap.get? b = none := fun b hb => by
    cases q : s.heap.get? b with
    | none => rfl
    | some o => exact absurd (Nat.lt_of_lt_of_le (Heap.lt_size q) hb) (Nat.lt_irrefl _)
  obtain ⟨c, tl, hmro⟩ := F.called_set.mro
  have hmade := F.called_set.made
  have hsub := F.called_set.sub
  refine wpAny_call (codeAny_of_tree ?_)
  show wpAny _ _ (callAny (.type "set") _) _ _ _
  refine wpAny_pure ⟨Code.quiet_builtin _ (by decide +kernel), codeAny_builtin F.entry_type_call ?_⟩
  rw [Around.under_plain (weight_type_call_type "set" [.ref l] []) rfl]
  have h1 := F.called_set.notType
  have h2 := F.called_set.canCreate
  have hct := F.typeCall_set_1 (.ref l)
  repeat (any_goals (first | assumption | wp_step))
  refine codeAny_mono (code_set_led1 (.ref l) (E := E) (Q₁ := fun obj s₁ => obj = .ref s.heap.objs.size ∧ s₁ = { s with heap := s.heap.push (set0 w) }) ⟨rfl, rfl⟩) fun r s₁ hr => ?_
  cases r with
  | error e => exact hr
  | ok fl =>
    cases fl with
    | ret obj =>
      obtain ⟨rfl, rfl⟩ := hr
      have hS : (s.heap.push (set0 w)).get? s.heap.objs.size = some (set0 w) := Heap.get?_push_size _ rfl
      have hT : Shared.TypeIs { s with heap := s.heap.push (set0 w) } (.ref s.heap.objs.size) "set" := ⟨_, hS, rfl⟩
      have hli := F.called_set.init.lookup
      have hbi := F.called_set.init.bind (.ref s.heap.objs.size)
      repeat (any_goals (first | assumption | wp_step))
      refine codeAny_mono (codeAny_call_builtin (R := wants (fun r s₂ => r = .none ∧ ∃ h' tk L es ep t, s₂ = { s with heap := h', toks := tk } ∧ SetTR P w h' s.heap.objs.size L es ep t ∧ Got ks ks.length L ∧
          (∀ b o, s.heap.get? b = some o → h'.get? b = some o)) E) F.called_set.init.plain F.entry_set_init (check_set_init_1 hT ?_)) fun r₂ s₂ hr₂ => ?_
      · obtain ⟨ol, hol, hcl, nl, hdl⟩ := hl
        obtain ⟨ocls, odict, odata, oslots⟩ := ol
        simp only at hcl hdl
        subst hcl; subst hdl
        have hol' : (s.heap.push (set0 w)).get? l = some { cls := .type "tuple", dict := odict, data := .seq items nl, slots := oslots } := Heap.get?_push_of_some _ hol
        have hsls := F.sub_tuple_set
        have hslf := F.sub_tuple_frozenset
        have hne : (Value.type "tuple" == Value.type "dict") = false := by decide
        have hl1 : (s.heap.push (set0 w)).IsTuple l items := ⟨_, hol', rfl, nl, rfl⟩
        unfold Builtin.«set.__init__» noKeywords Builtin.Frozenset.updateFrom
        generalize hPI : pyIter = PI
        wp_walk
        subst hPI
        refine wpAny_pyIter_tuple hl1 ?_
        refine wpAny_bind (wpAny_runValue ?_)
        have hlS : l < s.heap.objs.size := Heap.lt_size hol
        have hh3 : A.in1.in1.in1.handled = none := by simp [hh]
        have hneI : l ≠ (s.heap.push (set0 w)).objs.size := by
          rw [Heap.size_push]; exact Nat.ne_of_lt (Nat.lt_succ_of_lt hlS)
        have hSf : s.heap.objs.size ∉ [(s.heap.push (set0 w)).objs.size, l] := by
          rw [Heap.size_push]; simp only [List.mem_cons, List.mem_singleton, List.not_mem_nil, or_false, not_or]
          exact ⟨Nat.ne_of_lt (Nat.lt_succ_self _), Nat.ne_of_gt hlS⟩
        have hval : ∀ (i : Nat) (v : Value), items[i]? = some v → ∃ p, ks[i]? = some p ∧ v = .ref p.1 := fun i v hv => by
          have q : items.toList[i]? = some v := by rw [Array.getElem?_toList]; exact hv
          rw [hit, List.getElem?_map] at q
          obtain ⟨p, hp, e⟩ := Option.map_eq_some_iff.mp q
          exact ⟨p, hp, e.symm⟩
        refine set_update_tups ((Walks.tuple hh3 _ l hneI items).toS) s.heap.objs.size
          hSf ks hisz hfew hval s.heap hk (hz _ (Nat.le_refl _)) (fun b hb => hz b (by
            rw [List.mem_singleton.mp hb, Heap.size_push]
            exact Nat.le_succ _)) hu (items.size - 0) 0 _ (by omega) (Nat.zero_le _)
          ⟨⟨_, Heap.get?_push_size _ rfl, rfl, rfl⟩, (hl1.push _)⟩ (fun b o e => Heap.get?_push_of_some _ (Heap.get?_push_of_some _ e)) ?hS0 ?hR
        case hS0 =>
          exact ⟨[], #[], 0, _, setTR_fresh (Heap.get?_push_of_some _ hS), Got.zero ks⟩
        case hR =>
          intro s' L es ep t hm hS' g' hkp
          obtain ⟨h', g2, d', tk', os'⟩ := s'
          have eg : g2 = s.gens := hm.gens
          have ed : d' = s.drawn := hm.drawn
          have eo : os' = s.os := hm.os
          subst eg; subst ed; subst eo
          refine wpAny_pure ?_
          show wpAny _ _ (ret Value.none) _ _ _
          rw [hisz] at g'
          exact wpAny_pure ⟨rfl, h', tk', L, es, ep, t, rfl, hS', g', hkp⟩
      · cases r₂ with
        | error e => exact hr₂
        | ok fl₂ =>
          cases fl₂ with
          | ret r =>
            obtain ⟨rfl, h', tk, L, es, ep, t, rfl, hS', g', hk'⟩ := hr₂
            repeat (any_goals (first | assumption | wp_step))
            exact h _ _ _ _ _ _ hS' g' hk'
          | _ => exact hr₂.elim
    | _ => exact hr.elim
end
def rSetTup (K : PySem.W.Frag) (P : Program) (w : World) : List V → Hp → VK → Prop := fun xs H Q => ∃ (l : Addr) (ks : List (Addr × List Int)), xs = [V.ref l] ∧ SqT K H l (ks.map fun p => V.ref p.1) ∧ (∀ p ∈ ks, SqT K H p.1 (p.2.map V.int)) ∧ ks.length < 64 ∧
  ∀ a L, H a = none → (∀ p ∈ L, p ∈ ks) → (∀ p ∈ ks, p.2 ∈ L.map (·.2)) → Q (.ref a) (upd H a (SetTO P w a L))
theorem cr_setTup {X : Cx} (hc : X.calm = true) (hu : X.A.units + 65 < cLine) : CallR X (.type "set") (rSetTup X.K X.prog X.w) := by
  intro pins s σ H xs us Q I r h
  obtain ⟨l, ks, rfl, hl, hk, hf, q⟩ := h
  rw [Vals.ref1 r]
  obtain ⟨its, rv, hT, _⟩ := I.tuple hl
  have hn : H s.heap.objs.size = none := I.hok.fresh (Nat.le_refl _)
  refine call_setTup (P := X.prog) (w := X.w) ks (I.ok.hd hc) hT (by simpa using refs_of_vals rv) (fun p hp => I.isT (hk p hp)) hf (by omega) fun h' tk L es ep t R g k => ?_
  refine ⟨.ref s.heap.objs.size, upd H s.heap.objs.size (SetTO X.prog X.w s.heap.objs.size L), I.laid (t' := tk) k (Nat.le_refl _) (setTO_new R.t0), rfl, q _ L hn (fun p hp => ?_) fun p hp => ?_⟩
  · exact List.mem_of_mem_take (g.sub p hp)
  · exact g.all p (by rw [List.take_length]; exact hp)
def pairD (p : Int × Int) : D := .tup [.int p.1, .int p.2]
def okP (p : Int × Int) : Bool := decide (0 ≤ p.1) && decide (p.1 < 64) && decide (0 ≤ p.2) && decide (p.2 < 64)
def pairI : D → Option (Int × Int)
  | .tup [.int a, .int b] => if okP (a, b) then some (a, b) else none
  | _ => none
def pairsI : List D → Option (List (Int × Int))
  | [] => some []
  | d :: ds => match pairI d, pairsI ds with
    | some p, some ps => some (p :: ps)
    | _, _ => none
def cdP (p : Int × Int) : Int := p.1 * 64 + p.2
def insP (p : Int × Int) : List (Int × Int) → List (Int × Int)
  | [] => [p]
  | q :: r => if cdP p < cdP q then p :: q :: r else if p = q then q :: r else q :: insP p r
def sortP (ps : List (Int × Int)) : List (Int × Int) := ps.foldr insP []
theorem pairI_some {d : D} {p : Int × Int} (h : pairI d = some p) : d = pairD p ∧ okP p = true := by
  unfold pairI at h
  split at h
  · split at h
    · rename_i e; cases h; exact ⟨rfl, e⟩
    · cases h
  · cases h
theorem pairsI_some : ∀ {ds : List D} {ps : List (Int × Int)}, pairsI ds = some ps → ds = ps.map pairD ∧ ∀ p ∈ ps, okP p = true
  | [], ps, h => by cases h; exact ⟨rfl, fun _ z => by cases z⟩
  | d :: ds, ps, h => by
    unfold pairsI at h
    split at h
    · rename_i p qs e1 e2
      cases h
      obtain ⟨h1, h2⟩ := pairI_some e1
      obtain ⟨h3, h4⟩ := pairsI_some e2
      refine ⟨by rw [h1, h3]; rfl, fun q hq => ?_⟩
      rcases List.mem_cons.mp hq with rfl | hq
      · exact h2
      · exact h4 q hq
    · cases h
theorem insP_mem {p x : Int × Int} : ∀ {l : List (Int × Int)}, x ∈ insP p l ↔ x = p ∨ x ∈ l
  | [] => by simp [insP]
  | q :: r => by
    unfold insP
    split
    · simp
    · split
      · rename_i e; subst e; simp
      · rw [List.mem_cons, insP_mem, List.mem_cons]
        constructor
        · rintro (h | h | h)
          · exact .inr (.inl h)
          · exact .inl h
          · exact .inr (.inr h)
        · rintro (h | h | h)
          · exact .inr (.inl h)
          · exact .inl h
          · exact .inr (.inr h)
theorem sortP_mem {x : Int × Int} : ∀ {ps : List (Int × Int)}, x ∈ sortP ps ↔ x ∈ ps
  | [] => Iff.rfl
  | p :: ps => by
    show x ∈ insP p (sortP ps) ↔ _
    rw [insP_mem, sortP_mem, List.mem_cons]
theorem okP_iff {p : Int × Int} (h : okP p = true) : 0 ≤ p.1 ∧ p.1 < 64 ∧ 0 ≤ p.2 ∧ p.2 < 64 := by
  unfold okP at h
  simp only [Bool.and_eq_true, decide_eq_true_eq] at h
  exact ⟨h.1.1.1, h.1.1.2, h.1.2, h.2⟩
theorem cdP_inj {p q : Int × Int} (hp : okP p = true) (hq : okP q = true) (h : cdP p = cdP q) : p = q := by
  obtain ⟨a1, a2, a3, a4⟩ := okP_iff hp
  obtain ⟨b1, b2, b3, b4⟩ := okP_iff hq
  unfold cdP at h
  have : p.1 = q.1 := by omega
  have : p.2 = q.2 := by omega
  exact Prod.ext ‹_› ‹_›
theorem insP_sorted {p : Int × Int} (hp : okP p = true) : ∀ {l : List (Int × Int)}, (∀ q ∈ l, okP q = true) → l.Pairwise (fun a b => cdP a < cdP b) → (insP p l).Pairwise fun a b => cdP a < cdP b
  | [], _, _ => by simp [insP]
  | q :: r, ho, h => by
    rw [List.pairwise_cons] at h
    unfold insP
    split
    · rename_i c
      refine List.pairwise_cons.mpr ⟨fun z hz => ?_, List.pairwise_cons.mpr h⟩
      rcases List.mem_cons.mp hz with rfl | hz
      · exact c
      · have := h.1 z hz; omega
    · rename_i c
      split
      · exact List.pairwise_cons.mpr h
      · rename_i e
        refine List.pairwise_cons.mpr ⟨fun z hz => ?_, insP_sorted hp (fun z hz => ho z (List.mem_cons_of_mem _ hz)) h.2⟩
        rcases insP_mem.mp hz with rfl | hz
        · have : cdP z ≠ cdP q := fun k => e (cdP_inj hp (ho q (List.mem_cons_self ..)) k)
          omega
        · exact h.1 z hz
theorem sortP_sorted : ∀ {ps : List (Int × Int)}, (∀ q ∈ ps, okP q = true) → (sortP ps).Pairwise fun a b => cdP a < cdP b
  | [], _ => List.Pairwise.nil
  | p :: ps, h => insP_sorted (h p (List.mem_cons_self ..)) (fun q hq => h q (List.mem_cons_of_mem _ (sortP_mem.mp hq))) (sortP_sorted fun q hq => h q (List.mem_cons_of_mem _ hq))
theorem sorted_uniq {α : Type} (f : α → Int) : ∀ (l1 l2 : List α), l1.Pairwise (fun a b => f a < f b) → l2.Pairwise (fun a b => f a < f b) → (∀ x, x ∈ l1 ↔ x ∈ l2) → l1 = l2
  | [], [], _, _, _ => rfl
  | [], y :: r2, _, _, h => absurd ((h y).mpr (List.mem_cons_self ..)) (by simp)
  | x :: r1, [], _, _, h => absurd ((h x).mp (List.mem_cons_self ..)) (by simp)
  | x :: r1, y :: r2, h1, h2, h => by
    rw [List.pairwise_cons] at h1 h2
    have e : x = y := by
      rcases List.mem_cons.mp ((h x).mp (List.mem_cons_self ..)) with e | e
      · exact e
      · rcases List.mem_cons.mp ((h y).mpr (List.mem_cons_self ..)) with e' | e'
        · exact e'.symm
        · have := h2.1 x e; have := h1.1 y e'; omega
    subst e
    congr 1
    refine sorted_uniq f r1 r2 h1.2 h2.2 fun z => ⟨fun hz => ?_, fun hz => ?_⟩
    · rcases List.mem_cons.mp ((h z).mp (List.mem_cons_of_mem _ hz)) with e | e
      · subst e; have := h1.1 z hz; omega
      · exact e
    · rcases List.mem_cons.mp ((h z).mpr (List.mem_cons_of_mem _ hz)) with e | e
      · subst e; have := h2.1 z hz; omega
      · exact e
def fSortSet (vs : List Val) (t : T) : R Val := match vs with
  | [.d (.tup ds)] => (match pairsI ds with
    | some ps => if ps.length < 64 then .ok (.d (.lst ((sortP ps).map pairD))) t else .stuck
    | none => .stuck)
  | _ => .stuck
theorem reps_pairs {K : PySem.W.Frag} {F : Hp} : ∀ {ps : List (Int × Int)} {xs : List V}, Reps K F xs (ps.map pairD) → ∃ ks : List (Addr × List Int), xs = (ks.map fun p => V.ref p.1) ∧ ks.map (·.2) = (ps.map fun p => [p.1, p.2]) ∧ ∀ k ∈ ks, ∃ p ∈ ps, k.2 = [p.1, p.2] ∧ SqT K F k.1 [V.int p.1, V.int p.2]
  | [], _, .nil => ⟨[], rfl, rfl, fun _ h => by cases h⟩
  | p :: ps, _, .cons h hs => by
    obtain ⟨ks, e1, e2, e3⟩ := reps_pairs hs
    cases h with
    | @tup a _ ys h hr =>
      cases hr with
      | cons r1 hr =>
        cases hr with
        | cons r2 hr =>
          cases hr
          cases r1
          cases r2
          refine ⟨(a, [p.1, p.2]) :: ks, by rw [e1]; rfl, by rw [List.map_cons, e2]; rfl, fun k hk => ?_⟩
          rcases List.mem_cons.mp hk with rfl | hk
          · exact ⟨p, List.mem_cons_self .., rfl, h⟩
          · obtain ⟨q, hq, z⟩ := e3 k hk
            exact ⟨q, List.mem_cons_of_mem _ hq, z⟩
theorem pairs_reps {K : PySem.W.Frag} {F : Hp} {ks : List (Addr × List Int)} {ps : List (Int × Int)} (h : ∀ k ∈ ks, ∃ p : Int × Int, k.2 = [p.1, p.2] ∧ SqT K F k.1 [V.int p.1, V.int p.2]) (e : ks.map (·.2) = ps.map fun p => [p.1, p.2]) : Reps K F (ks.map fun p => V.ref p.1) (ps.map pairD) := by
  induction ks generalizing ps with
  | nil =>
    cases ps with
    | nil => exact .nil
    | cons p ps => cases e
  | cons k ks ih =>
    cases ps with
    | nil => cases e
    | cons p ps =>
      rw [List.map_cons, List.map_cons, List.cons.injEq] at e
      obtain ⟨q, h1, h2⟩ := h k (List.mem_cons_self ..)
      rw [h1] at e
      have e1 := e.1
      simp only [List.cons.injEq, and_true] at e1
      rw [e1.1, e1.2] at h2
      exact .cons (.tup h2 (.cons (.int _) (.cons (.int _) .nil))) (ih (fun k hk => h k (List.mem_cons_of_mem _ hk)) e.2)
def tSet1 (K : PySem.W.Frag) (P : Program) (w : World) (t : TA) : TE := tCB (rSetTup K P w) t
theorem je_sortSet {X : Cx} {W : WX} {a : Expr} {m : ME (List Val)} {p p2 q pos : Pos} (hc : X.calm = true) (hu : X.A.units + 65 < cLine) (hm : X.mg "sorted" = none) (hm2 : X.mg "set" = none) (ha : JA X W [a] m)
    (hg : Gl X "sorted" := by rfl) (hg2 : Gl X "set" := by rfl)
    (he : starEach [Expr.Call (.Name "set" p2) [a] [] q] X.env = (false, eval (Expr.Call (.Name "set" p2) [a] [] q) X.env) :: starEach [] X.env := by rfl)
    (he2 : starEach [a] X.env = (false, eval a X.env) :: starEach [] X.env := by rfl) : JE X W (.Call (.Name "sorted" p) [.Call (.Name "set" p2) [a] [] q] [] pos) (mL fSortSet m) := by
  have h1 : PE X (.Call (.Name "set" p2) [a] [] q) (tCB (rSetTup X.K X.prog X.w) (tMA X.K W m)) := pe_callTy (cr_setTup hc hu) hg2 hm2 (by decide +kernel) ha (by decide) (by decide) he2 rfl
  have h2 : PE X (.Call (.Name "sorted" p) [.Call (.Name "set" p2) [a] [] q] [] pos) (tCB (rSortedT X.K X.prog X.w) (tCons (tCB (rSetTup X.K X.prog X.w) (tMA X.K W m)) tNil)) := pe_callB (cr_sortedT hc) hg hm (by decide +kernel) (pa_cons h1 pa_nil he) (by decide) (by decide) he rfl
  refine PE.imp h2 fun σ H Q ⟨w, ρ, t, rt, rr, pp⟩ => ?_
  refine ⟨w, ρ, t, rt, rr, PostE.imp (PostE.bind pp) fun w1 H1 v t1 e1 s1 r1 q1 xs rx => ?_⟩
  have p1 := q1 t1 e1 r1
  unfold fSortSet at p1
  split at p1
  · rename_i ds
    split at p1
    · rename_i ps eps
      split at p1
      · rename_i hlen
        obtain ⟨hds, hok⟩ := pairsI_some eps
        subst hds
        obtain ⟨x, rfl, rx1⟩ := rx.one
        cases rx1 with
        | @tup l _ ys h hs =>
          obtain ⟨ks, rfl, eks, hks⟩ := reps_pairs hs
          have hint : ∀ k ∈ ks, SqT X.K H1 k.1 (k.2.map V.int) := fun k hk => by
            obtain ⟨p, _, e, hq⟩ := hks k hk
            rw [e]
            exact Fz.ex.sqT hq
          have hkl : ks.length = ps.length := by
            have := congrArg List.length eks
            simpa using this
          refine ⟨l, ks, rfl, Fz.ex.sqT h, hint, by omega, fun a L hna hsub hall => ?_⟩
          have r2 := r1.new (o := SetTO X.prog X.w a L) hna
          have s2 := step_new r1 (o := SetTO X.prog X.w a L) hna
          show rSortedT X.K X.prog X.w [V.ref a] (upd H1 a (SetTO X.prog X.w a L)) Q
          refine ⟨a, L, 2, 64, rfl, by simp [upd], fun k hk => ?_, by decide, fun k hk => ?_, fun L' b hpm hnd hl64 hpw hnb => ?_⟩
          · obtain ⟨p, _, e, hq⟩ := hks k (hsub k hk)
            rw [e]
            exact Fz.ex.sqT (s2.fz.sqT hq)
          · obtain ⟨p, hp, e, hq⟩ := hks k (hsub k hk)
            obtain ⟨a1, a2, a3, a4⟩ := okP_iff (hok p hp)
            rw [e]
            refine ⟨rfl, fun z hz => ?_⟩
            simp only [List.mem_cons, List.mem_nil_iff, or_false] at hz
            rcases hz with rfl | rfl
            · exact ⟨a1, a2⟩
            · exact ⟨a3, a4⟩
          · have hL' : ∀ k ∈ L', ∃ p ∈ ps, k.2 = [p.1, p.2] ∧ SqT X.K (Fz w1 H1) k.1 [V.int p.1, V.int p.2] := fun k hk => hks k (hsub k (hpm.mem_iff.mp hk))
            have hto : L'.map (·.2) = (L'.map fun k => ((k.2.getD 0 0, k.2.getD 1 0) : Int × Int)).map fun p => [p.1, p.2] := by
              rw [List.map_map]
              refine List.map_congr_left fun k hk => ?_
              obtain ⟨p, _, e, _⟩ := hL' k hk
              simp [e]
            have hun : (L'.map fun k => ((k.2.getD 0 0, k.2.getD 1 0) : Int × Int)) = sortP ps := by
              refine sorted_uniq cdP _ _ ?_ (sortP_sorted hok) fun x => ?_
              · rw [List.pairwise_map]
                have hnd' : L'.Pairwise fun a b => a.2 ≠ b.2 := by
                  have := hnd
                  unfold List.Nodup at this
                  rw [List.pairwise_map] at this
                  exact this
                refine List.Pairwise.imp_of_mem (fun {k k'} hk hk' z => ?_) (hpw.and hnd')
                obtain ⟨p, hp, e, _⟩ := hL' k hk
                obtain ⟨p', hp', e', _⟩ := hL' k' hk'
                have z1 := z.1
                have z2 := z.2
                rw [e, e', code_pair, code_pair] at z1
                rw [e, e'] at z2
                have hne : p ≠ p' := fun y => z2 (by rw [y])
                have : cdP p ≠ cdP p' := fun y => hne (cdP_inj (hok p hp) (hok p' hp') y)
                unfold cdP at this ⊢
                rw [e, e']
                show p.1 * 64 + p.2 < p'.1 * 64 + p'.2
                omega
              · rw [sortP_mem]
                constructor
                · intro hx
                  obtain ⟨k, hk, rfl⟩ := List.mem_map.mp hx
                  obtain ⟨p, hp, e, _⟩ := hL' k hk
                  rw [e]
                  exact hp
                · intro hx
                  have : [x.1, x.2] ∈ ks.map (·.2) := by rw [eks]; exact List.mem_map.mpr ⟨x, hx, rfl⟩
                  obtain ⟨k, hk, e⟩ := List.mem_map.mp this
                  obtain ⟨k', hk', e'⟩ := List.mem_map.mp (hall k hk)
                  refine List.mem_map.mpr ⟨k', hpm.mem_iff.mpr hk', ?_⟩
                  rw [e', e]
                  rfl
            rw [hun] at hto
            have hre : Reps X.K (Fz w1 H1) (L'.map fun p => V.ref p.1) ((sortP ps).map pairD) := pairs_reps (fun k hk => by
              obtain ⟨p, _, e, hq⟩ := hL' k hk
              exact ⟨p, e, hq⟩) hto
            have s3 := step_new r2 (o := .lst (L'.map fun q => V.ref q.1)) hnb
            exact p1 w1 _ (s2.trans s3) (r2.new hnb) _ (Rep.lst (Fz.new r2 hnb) (hre.mono (s2.trans s3).fz))
      · exact p1.elim
    · exact p1.elim
  · exact p1.elim
end En
set_option Elab.async false
set_option linter.all false
set_option maxRecDepth 100000
set_option maxHeartbeats 1000000
set_option autoImplicit false
namespace En
open PySem PySem.Spec PyProof.Rows L2
theorem iteF' {p q : Prop} (h : if false = true then p else q) : q := h
theorem iteT' {p q : Prop} (h : if true = true then p else q) : p := h
section
variable {X : Cx}
theorem n_dictSet {pins : List (Addr × Obj)} {σ : L2.St} {H F : Hp} {s : Shared} {E : Value → Shared → Prop} {D : Addr} {y v : V} {u r : Value} {R : Hp → Prop} {Q : Unit → Shared → Prop} (hu : X.A.units + 9 < cLine) (I : Inv X pins σ H s) (g : PutN X.K F H D y v R) (ry : RelV y u) (rv : RelV v r) (h : ∀ s' H', Inv X pins σ H' s' → R H' → Q () s') :
    wpAny (model X.prog X.w) X.A (dictSet D u r) Q E s := by
  obtain ⟨o, es, ep, kvs, k, b, h1, h2, h3, ex, rfl, h5, h6, hz, q⟩ := g
  cases ry
  obtain ⟨xs, e1, e2, e3, pr⟩ := ents_xsF ex I h3
  have ho : s.heap.get? D = some o := (I.hok D _ h1).1
  have dd : s.heap.DictOfH (nestedKind X.prog X.w) D xs := ⟨o, es, ep, ho, h2.exact_, h2.data, e1, fun y hy => (e3 y hy).1, by rw [e2]; exact h2.nodup⟩
  have hl : kvs.length = xs.length := Paired.length pr
  refine wpAny_dictSet_heap (knd := nestedKind X.prog X.w) (hsz := by omega) (by show X.A.units + 8 < cLine; omega) ⟨keyV_is I (h5.mono ex) rfl, h6⟩ dd fun h' dd' hs => ?_
  have pr' := paired_stored (k := k) (b := b) rv pr
  have kk := stored_keys (u := r) (fun y hy => (e3 y hy).2) h5 h6
  obtain ⟨o', es', ep', ho', hx', hd', he', _, hn'⟩ := dd'
  have sz : (putK kvs k v).length ≤ kvs.length + 1 := length_putK kvs k v
  refine h _ (upd H D (dicO D o')) (d_write I (by rw [h1]; exact True.intro) hs ⟨o', ho'⟩ (dicO_ok ho')) (q o' es' ep' ⟨hx', hd', h2.sys, ?_, ?_⟩ ?_)
  · rw [paired_keys pr']; exact hn'
  · rw [List.length_map]; omega
  · rw [he']; exact ents_back pr' kk
def DcTurn (K : PySem.W.Frag) (g : TG) (tt : TT) (tk tv : TE) (vs : List Nat) (σ : L2.St) (D : Addr) (Nx : Hp → Prop) (x : V) (H' : Hp) : Prop :=
  g x (L2.wipe σ vs) H' fun σ2 H2 => L2.wipe σ2 vs = L2.wipe σ vs ∧ tt σ2 H2 fun b H3 => if b = true then tk σ2 H3 fun y H4 => tv σ2 H4 fun z H5 => ∃ F, PutN K F H5 D y z Nx else Nx H3
def DcAll (K : PySem.W.Frag) (J : It) (g : TG) (tt : TT) (tk tv : TE) (vs : List Nat) (σ : L2.St) (D : Addr) (Q : VK) (W : Nat → Nat → Hp → Prop) : Prop :=
  ∀ i m H, W i m H → (J.stop i H ∧ Q (.ref D) H) ∨ (J.go i H ∧ ∃ Nx : Hp → Prop, (∀ H', Nx H' → ∃ m', m' < m ∧ W (i + 1) m' H') ∧ ∀ x H', J.yld i H x H' → DcTurn K g tt tk tv vs σ D Nx x H')
def tDcT (K : PySem.W.Frag) (wi : TI) (g : TG) (tt : TT) (tk tv : TE) (vs : List Nat) : TE := fun σ H Q => wi σ H fun J H1 => ∀ D o, H1 D = none → DicOk D o #[] 0 [] → ∃ W : Nat → Nat → Hp → Prop, (∃ m, W 0 m (upd H1 D (dicO D o))) ∧ DcAll K J g tt tk tv vs σ D Q W
theorem dcT_core {pins : List (Addr × Obj)} {s : Shared} {σ : L2.St} {H : Hp} {Q : VK} {kx vx tg iter : Expr} {ifs : List Expr} {scope : Scope} {own : List (Str × Nat)} {pos pos' : Pos} {wi : TI} {g : TG} {tt : TT} {tk tv : TE} {Qf : Value → Shared → Prop}
    (hu : X.A.units + 9 < cLine) (hc : X.calm = true) (hN : X.N.Nodup) (I : Inv X pins σ H s) (hi : PI X tg iter wi) (ok : BlkOk X.N X.env.scope scope own)
    (hg : ∀ s H C cl fp, PG (X.blk s H scope (compEnvC scope cl C X.env) fp) tg g) (ht : ∀ s H C cl fp, PTs (X.blk s H scope (compEnvC scope cl C X.env) fp) ifs tt)
    (hk : ∀ s H C cl fp, PE (X.blk s H scope (compEnvC scope cl C X.env) fp) kx tk) (he : ∀ s H C cl fp, PE (X.blk s H scope (compEnvC scope cl C X.env) fp) vx tv) (hs : ∀ x, foldedSetIterable iter X.env x = pure x)
    (h : tDcT X.K wi g tt tk tv (own.map (·.2)) σ H Q)
    (hR : ∀ D C s' m H', Inv X pins σ H' s' → Q (.ref D) H' → s'.heap.Ns C m → FpOk X pins H' C → compPost (model X.prog X.w) X.A X.xe none Qf (.ref D) C (.ok .next) s') :
    wpAny (model X.prog X.w) X.A (comprehension (.DictComp kx vx [⟨tg, iter, ifs, 0⟩] scope pos) scope X.env pos' newDict false (eval iter X.env) none) Qf X.xe s := by
  have hfree : ∀ y ∈ scope.names, y.2 = .free → ∃ c, X.env.cells.lookup y.1 = some c := fun y hy e => (ok.free y hy e).elim (fun k => I.ok.has _ (.inl k)) fun k => I.ok.has _ (.inr k)
  refine wpAny_comprehension_free (use := none) rfl hs (closure_ok hfree) ok.kind (fun y hy e => by rw [ok.uniq y hy, e]) (thn (hi.run pins s σ H _ I h) fun xv sA hx => thn hx fun itv sB hB => ?_)
  obtain ⟨it, fp, tn, J, HB, e, IB, Tn, stB, fB, q⟩ := hB
  subst e
  refine wpAny_newObj_type (newEnv_comp ?_)
  have hDn : HB sB.heap.objs.size = none := IB.hok.fresh (Nat.le_refl _)
  obtain ⟨W, ⟨m0, w0⟩, turn⟩ := q _ { cls := .type "dict", data := .dict #[] } hDn ⟨⟨rfl, rfl, rfl⟩, rfl, sys_new IB, List.nodup_nil, Nat.zero_le _⟩
  have IC0 := IB.laid (a := sB.heap.objs.size) (o := dicO sB.heap.objs.size { cls := .type "dict", data := .dict #[] }) (h' := sB.heap.push { cls := .type "dict", data := .dict #[] }) (t' := sB.toks) (fun _ _ q => Heap.get?_push_of_some _ q) (Nat.le_refl _) (dicO_ok (Heap.get?_push_size _ rfl))
  have fpB : ∀ b ∈ fp, b < sB.heap.objs.size := fun b hb => let ⟨o, e, _⟩ := Tn.obj _ _ stB b hb; Heap.lt_size e
  have fC0 : ∀ b ∈ fp, FpOk X pins (upd HB sB.heap.objs.size (dicO sB.heap.objs.size { cls := .type "dict", data := .dict #[] })) b ∧ b < (sB.heap.push { cls := .type "dict", data := .dict #[] }).objs.size := fun b hb =>
    ⟨⟨by rw [upd_ne (Nat.ne_of_lt (fpB b hb))]; exact (fB b hb).1, (fB b hb).2⟩, by rw [Heap.size_push]; exact Nat.lt_succ_of_lt (fpB b hb)⟩
  have stC0 : tn 0 (sB.heap.push { cls := .type "dict", data := .dict #[] }) := Tn.keep _ _ _ stB fun b _ o e => Heap.get?_push_of_some _ e
  generalize hH : upd HB sB.heap.objs.size (dicO sB.heap.objs.size { cls := .type "dict", data := .dict #[] }) = HC at IC0 fC0 w0
  generalize hD : sB.heap.objs.size = D at turn ⊢
  generalize hsC : ({ sB with heap := sB.heap.push { cls := .type "dict", data := .dict #[] } } : Shared) = sC at IC0 ⊢
  have ehp : sB.heap.push { cls := .type "dict", data := .dict #[] } = sC.heap := by rw [← hsC]
  rw [ehp] at fC0 stC0
  have IC : Inv X pins σ HC sC := IC0
  have IE := block_start IC ok hN fC0
  have nfp : ∀ b ∈ fp, HC b = none := fun b hb => (fC0 b hb).1.1
  generalize hcl : cellsFrom (sC.heap.objs.size + 1) scope.names (cloFrom X.env.cells scope.names []) = cl at IE
  show codeAny _ _ (.compStart (.DictComp kx vx [⟨tg, iter, ifs, 0⟩] scope pos) 0 (.ref it) (.ref D) (compEnvC scope cl sC.heap.objs.size X.env)) (compPost (model X.prog X.w) X.A X.xe none Qf (.ref D) sC.heap.objs.size) { sC with heap := pushCells (sC.heap.push { cls := .type "dict", data := .dict #[] }) scope.names }
  generalize hce : compEnvC scope cl sC.heap.objs.size X.env = ce at IE ⊢
  have pg := hg sC HC sC.heap.objs.size cl fp
  have pt := ht sC HC sC.heap.objs.size cl fp
  have pk := hk sC HC sC.heap.objs.size cl fp
  have pe := he sC HC sC.heap.objs.size cl fp
  rw [hce] at pg pt pk pe
  have cL : ce.locals = sC.heap.objs.size := by subst hce; rfl
  generalize hY : X.blk sC HC scope ce fp = Y at IE pg pt pk pe
  generalize hsE : ({ sC with heap := pushCells (sC.heap.push { cls := .type "dict", data := .dict #[] }) scope.names } : Shared) = sE at IE ⊢
  have stE : tn 0 sE.heap := Tn.keep _ _ _ stC0 fun b _ o e => by rw [← hsE]; exact pushCells_keeps _ _ _ _ (Heap.get?_push_of_some _ e)
  have still : ∀ {σ' : L2.St} {H' : Hp} {s' : Shared}, Inv Y [] σ' H' s' → (∀ b ∈ fp, H' b = none) → ∀ b ∈ fp, FpOk Y [] H' b := fun {σ' H' s'} I' hn b hb => by
    subst hY
    exact ⟨hn b hb, (I'.ok.exf b hb).1, I'.ok.exfs b hb, .inl hb, fun x c e => (I'.ok.exf b hb).2 x c e, fun p hp => absurd (show p ∈ ([] : List (Addr × Obj)) ++ [] from hp) (by simp)⟩
  have loop : codeAny (model X.prog X.w) X.A (.compLoop (.DictComp kx vx [⟨tg, iter, ifs, 0⟩] scope pos) 0 (.ref it) (.ref D) ce) (compPost (model X.prog X.w) X.A X.xe none Qf (.ref D) sC.heap.objs.size) sE := by
    refine compLoop_anyD (fun n s' => ∃ i H', Inv Y [] (L2.wipe σ (own.map (·.2))) H' s' ∧ tn i s'.heap ∧ (∀ b ∈ fp, H' b = none) ∧ W i n H') ?_ m0 ⟨0, HC, IE, stE, nfp, w0⟩
    rintro n s5 ⟨i, H5, I5, st5, n5, w5⟩
    rcases turn i n H5 w5 with ⟨stop, qq⟩ | ⟨go, Nx, hNx, step⟩
    · subst hY
      refine thnF (Tn.done (X.blk sC HC scope ce fp) rfl rfl rfl hc i [] s5 _ H5 (fun _ _ => False) I5 (still I5 n5) st5 stop) fun r s6 ⟨hr, I6⟩ => ?_
      subst hr
      have I7 : Inv X pins σ H5 s6 := IC.call' (ch := fp) I6.os I6.base I6.hok I6.bare fun b hb => let z := (fC0 b hb).1.2; ⟨z.2.2.1, z.1, z.2.2.2.1, z.2.2.2.2⟩
      have nC : H5 sC.heap.objs.size = none := by
        have z : H5 ce.locals = none := I6.free
        rwa [cL] at z
      obtain ⟨m, hn, _⟩ := I6.loc
      have hn : s6.heap.Ns ce.locals m := hn
      rw [cL] at hn
      exact hR D sC.heap.objs.size s6 m H5 I7 qq hn (IC.fpOk (Nat.le_refl _) nC)
    · subst hY
      refine thnF (Tn.item (X.blk sC HC scope ce fp) rfl rfl rfl hc i [] s5 _ H5 (fun _ _ => False) I5 (still I5 n5) st5 go) fun r s6 ⟨u, hr, h6⟩ => ?_
      subst hr
      refine thnF h6 fun _ s7 ⟨x, H7, I7, r7, y7, st7, n7⟩ => ?_
      have I7' := I7.pinned (still I7 n7) (Tn.obj _ _ st7)
      refine thnF (pg.run _ s7 _ H7 x u _ I7' r7 (step x H7 y7)) fun _ s8 ⟨σ8, H8, I8, hw8, q8⟩ => ?_
      refine thnF (pt.run _ s8 σ8 H8 _ I8 q8) fun b s9 ⟨H9, I9, q9⟩ => ?_
      have fin : ∀ {s' : Shared} {H' : Hp}, Inv (X.blk sC HC scope ce fp) ([] ++ pinsAt fp s7.heap) σ8 H' s' → Nx H' → ∃ m, m < n ∧ ∃ i H', Inv (X.blk sC HC scope ce fp) [] (L2.wipe σ (own.map (·.2))) H' s' ∧ tn i s'.heap ∧ (∀ b ∈ fp, H' b = none) ∧ W i m H' := fun {s' H'} I' nx => by
        obtain ⟨m', hm, w'⟩ := hNx H' nx
        have pin' : ∀ b ∈ fp, ∀ o, s7.heap.get? b = some o → s'.heap.get? b = some o ∧ H' b = none := fun b hb o e => by
          have z := I'.pin (b, o) (List.mem_append_right _ (List.mem_append_right _ (mem_pinsAt hb e)))
          exact ⟨z.1, z.2.1⟩
        refine ⟨m', hm, i + 1, H', (I'.unpinned (pins := [])).weak (by rw [← hw8, L2.wipe_length]) (fun j v e => ?_), Tn.keep _ _ _ st7 fun b hb o e => (pin' b hb o e).1, fun b hb => ?_, w'⟩
        · rw [← hw8] at e
          exact (wipe_some e).1
        · obtain ⟨o, e, _⟩ := Tn.obj _ _ st7 b hb
          exact (pin' b hb o e).2
      cases b with
      | false => exact iteF (fin I9 (iteF' q9))
      | true =>
        refine iteT ?_
        refine thnF (pk.run _ s9 σ8 H9 _ I9 (iteT' q9)) fun z s10 ⟨yk, H10, I10, r10, q10⟩ => ?_
        refine thnF (pe.run _ s10 σ8 H10 _ I10 q10) fun z2 s11 ⟨yv, H11, I11, r11, F, g11⟩ => ?_
        exact n_dictSet (X := X.blk sC HC scope ce fp) hu I11 g11 r10 r11 fun s12 H12 I12 nx => fin I12 nx
  exact codeAny_compStart_dict loop (Tn.self X.A 0 _ _ _ stE loop)
theorem pe_dcT {kx vx tg iter : Expr} {ifs : List Expr} {scope : Scope} {own : List (Str × Nat)} {pos : Pos} {wi : TI} {g : TG} {tt : TT} {tk tv : TE} (hu : X.A.units + 65 < cLine) (hc : X.calm = true) (hN : X.N.Nodup) (hi : PI X tg iter wi) (ok : BlkOk X.N X.env.scope scope own)
    (hg : ∀ s H C cl fp, PG (X.blk s H scope (compEnvC scope cl C X.env) fp) tg g) (ht : ∀ s H C cl fp, PTs (X.blk s H scope (compEnvC scope cl C X.env) fp) ifs tt)
    (hk : ∀ s H C cl fp, PE (X.blk s H scope (compEnvC scope cl C X.env) fp) kx tk) (he : ∀ s H C cl fp, PE (X.blk s H scope (compEnvC scope cl C X.env) fp) vx tv) (hs : ∀ x, foldedSetIterable iter X.env x = pure x := by intro _; rfl) :
    PE X (.DictComp kx vx [⟨tg, iter, ifs, 0⟩] scope pos) (tDcT X.K wi g tt tk tv (own.map (·.2))) := by
  refine ⟨fun pins s σ H Q I h => ?_⟩
  rw [arm_eval_DictComp]
  refine dcT_core (by omega) hc hN I hi ok hg ht hk he hs h fun D C s' m H' I' q hn f => ⟨m, hn, fun h'' sb => ?_⟩
  obtain ⟨f0, f1, f2, f3, f4, f5⟩ := f
  exact ⟨.ref D, H', I'.turned (t' := s'.toks) (fun b o hb e => (sb.2 b hb).trans e) f0 f1 f3 f4 f5, rfl, q⟩
end
end En
set_option Elab.async false
set_option linter.all false
set_option maxRecDepth 100000
set_option maxHeartbeats 1000000
set_option autoImplicit false
namespace En
open PySem PySem.Spec PyProof.Rows L2
def dcM (f : Val → Rho → Option Rho) (tt : ME Bool) (tk tv : ME Val) (ρ : Rho) : List Val → List (NestedKey × Val) → T → R (List (NestedKey × Val))
  | [], acc, t => .ok acc t
  | v :: vs, acc, t => match f v ρ with
    | none => .stuck
    | some ρ1 => (tt ρ1 t).bindN fun b t => if b then (tk ρ1 t).bindN fun k t => (tv ρ1 t).bindN fun z t => (match keyT k with
        | some kk => if acc.length < lim then dcM f tt tk tv ρ vs (putKV acc kk z) t else .stuck
        | none => .stuck) else dcM f tt tk tv ρ vs acc t
def mDc (own : List Nat) (f : Val → Rho → Option Rho) (mi : ME (List Val)) (tt : ME Bool) (tk tv : ME Val) : ME (List (NestedKey × Val)) := fun ρ t => (mi ρ t).bind fun vs t => dcM f tt tk tv (wipeR ρ own) vs [] t
def PostD (K : PySem.W.Frag) (W : WX) (σ : L2.St) (w : Wd) (H : Hp) (Q : VK) : R (List (NestedKey × Val)) → Prop := PostE K W σ w H fun w' H' kvs => ∀ p o es ep xs, H' p = none → DicOk p o es ep (xs.map (·.1)) → EntsOk K (Fz w' H') es.toList xs → RepVK K w' H' xs kvs → Q (.ref p) (upd H' p (dicO p o))
def tMD (K : PySem.W.Frag) (W : WX) (m : ME (List (NestedKey × Val))) : TE := fun σ H Q => ∃ w ρ t, RelT K w t H ∧ RelR K w ρ σ H ∧ PostD K W σ w H Q (m ρ t)
theorem PostD.from {K : PySem.W.Frag} {W : WX} {σ : L2.St} {w w1 : Wd} {H H1 : Hp} {Q : VK} {r : R (List (NestedKey × Val))} (s : Step w H w1 H1) (h : PostD K W σ w H Q r) : PostD K W σ w1 H1 Q r := by
  cases r with
  | stuck => exact h
  | ok b tb => exact fun w5 H5 s5 r5 => h w5 H5 (s.trans s5) r5
  | exc b tb => exact fun w5 H5 cls d s5 r5 => h w5 H5 cls d (s.trans s5) r5
theorem hid_keep {K : PySem.W.Frag} {w w' : Wd} {t : T} {H H' : Hp} {D : Addr} {o : HO} (r : RelT K (w.hide D) t H) (s : Step (w.hide D) H w' H') (h : H D = some o) : H' D = some o := s.keep D _ h fun z => by
  rcases z with ⟨b, l, e, z⟩ | z
  · obtain ⟨_, n1, n2, _⟩ := r.box b l e
    rcases z with rfl | rfl
    · exact n1 (List.mem_cons_self ..)
    · exact n2 (List.mem_cons_self ..)
  · exact (r.out D z).1 (List.mem_cons_self ..)
theorem hid_out {K : PySem.W.Frag} {w w' : Wd} {t : T} {H H' : Hp} {D : Addr} (r : RelT K w t (rem H D)) (s : Step w (rem H D) w' H') : ∀ a ∈ w'.hid, a ≠ D := fun a ha => by
  rw [s.hid] at ha
  intro z
  obtain ⟨o, eo⟩ := r.hidn a ha
  rw [z, rem_self] at eo
  cases eo
def DcInv (K : PySem.W.Frag) (W : WX) (σ : L2.St) (Q : VK) (f : Val → Rho → Option Rho) (tt : ME Bool) (tk tv : ME Val) (ρ0 : Rho) (w1 : Wd) (H1 : Hp) (D : Addr) (vs : List Val) (i m : Nat) (H' : Hp) : Prop :=
  m = vs.length - i ∧ i ≤ vs.length ∧ ∃ w' t' acc xs o es ep, Step w1 H1 w' (rem H' D) ∧ RelT K w' t' (rem H' D) ∧ H' D = some (dicO D o) ∧ DicOk D o es ep (xs.map (·.1)) ∧ EntsOk K (Fz w' (rem H' D)) es.toList xs ∧ RepVK K w' (rem H' D) xs acc ∧ PostD K W σ w' (rem H' D) Q (dcM f tt tk tv ρ0 (vs.drop i) acc t')
theorem tdc_sim {K : PySem.W.Frag} {W : WX} {g : TG} {is own : List Nat} {f : Val → Rho → Option Rho} {mi : ME (List Val)} {tt : ME Bool} {tk tv : ME Val} (nt : NT K g is f) (hs : ∀ i ∈ is, i ∈ own) :
    ∀ σ H Q, tMD K W (mDc own f mi tt tk tv) σ H Q → tDcT K (tMI K W mi) g (tMT K W0 tt) (tM K W0 tk) (tM K W0 tv) own σ H Q := fun σ H Q ⟨w, ρ, t, rt, rr, p⟩ => by
  refine ⟨w, ρ, t, rt, rr, PostE.imp (PostE.bind p) fun w1 H1 vs t1 e1 s1 r1 q J ok D o0 hD hd0 => ?_⟩
  have q1 := q t1 e1 r1
  have stk : ∀ (w' : Wd) (H' : Hp), ¬ PostD K W σ w' H' Q .stuck := fun _ _ z => z
  refine ⟨DcInv K W σ Q f tt tk tv (wipeR ρ own) w1 H1 D vs, ⟨_, rfl, Nat.zero_le _, w1, t1, [], [], o0, #[], 0, ?_⟩, ?_⟩
  · rw [rem_upd, rem_none hD]
    exact ⟨Step.refl _ _, r1, upd_same, hd0, .nil, .nil, by rw [List.drop_zero]; exact q1⟩
  · rintro i m H' ⟨rfl, hi, w', t', acc, xs, o, es, ep, s', r', hx, hd, hen, rx, pp⟩
    have exh : Ex (Fz w1 H1) (Fz (w'.hide D) H') := by rw [Fz.hide]; exact s'.fz
    have rh : RelT K (w'.hide D) t' H' := r'.hide hx
    by_cases hl : i < vs.length
    · right
      rw [List.drop_eq_getElem_cons hl] at pp
      obtain ⟨hg1, hy⟩ := ok.go i vs[i] (w'.hide D) H' t' (List.getElem?_eq_getElem hl) exh rh
      unfold dcM at pp
      refine ⟨hg1, fun H2 => ∃ m', m' < vs.length - i ∧ DcInv K W σ Q f tt tk tv (wipeR ρ own) w1 H1 D vs (i + 1) m' H2, fun _ h => h, fun x H'' hyx => ?_⟩
      obtain ⟨hy1, vy⟩ := hy x H'' hyx
      obtain ⟨sy, ry⟩ : Step (w'.hide D) H' (w'.hide D) H'' ∧ RelT K (w'.hide D) t' H'' := by
        rcases hy1 with rfl | ⟨T, o, hT, rfl⟩
        · exact ⟨Step.refl _ _, rh⟩
        · exact ⟨step_new rh hT, rh.new hT⟩
      split at pp
      · exact pp.elim
      · rename_i ρ1 ef
        have rrw : RelR K (w'.hide D) (wipeR ρ own) (L2.wipe σ own) H'' := by
          have z : RelR K w' ρ σ (rem H' D) := (rr.mono s1).mono s'
          have z2 : RelR K (w'.hide D) ρ σ H' := ⟨z.len, fun j v e => let ⟨y, e1, r⟩ := z.at_ j v e; ⟨y, e1, RepV.hide.mpr r⟩⟩
          exact (z2.mono sy).wipe own
        refine nt (w'.hide D) (wipeR ρ own) ρ1 (L2.wipe σ own) H'' x vs[i] _ rrw vy ef fun σ2 hl2 ho2 rr2 => ?_
        refine ⟨wipe_same hl2 ho2 hs, w'.hide D, ρ1, t', ry, rr2, PostE.imp (PostE.bindN (fun r => PostD K W σ w' (rem H' D) Q r) (stk _ _) pp) fun w3 H3 k t3 e3 s3 r3 q3 => ?_⟩
        have q4 := q3 t3 e3
        have sA := sy.trans s3
        have hD3 := hid_keep rh sA hx
        obtain ⟨w3', rfl, s3'⟩ := sA.unhide
        have r3' : RelT K w3' t3 (rem H3 D) := r3.unhide (hid_out r' s3')
        cases k with
        | false => exact iteF ⟨_, by omega, rfl, hl, w3', t3, acc, xs, o, es, ep, s'.trans s3', r3', hD3, hd, hen.mono s3'.fz, rx.mono s3', PostD.from s3' q4⟩
        | true =>
          refine iteT ⟨w3'.hide D, ρ1, t3, r3, rr2.mono s3, PostE.imp (PostE.bindN (fun r => PostD K W σ w' (rem H' D) Q r) (stk _ _) q4) fun w4 H4 kv t4 e4 s4 r4 q5 yk rk => ?_⟩
          refine ⟨w4, ρ1, t4, r4, (rr2.mono s3).mono s4, PostE.imp (PostE.bindN (fun r => PostD K W σ w' (rem H' D) Q r) (stk _ _) (q5 t4 e4)) fun w5 H5 zv t5 e5 s5 r5 q6 yz rz => ?_⟩
          have q7 := q6 t5 e5
          split at q7
          · rename_i kk ek
            split at q7
            · rename_i hlen
              have sB := s4.trans s5
              have hD5 := hid_keep r3 sB hD3
              have rk5 := rk.mono s5
              obtain ⟨w5', rfl, s5'⟩ := sB.unhide
              have sC := s3'.trans s5'
              have r5' : RelT K w5' t5 (rem H5 D) := r5.unhide (hid_out r' sC)
              obtain ⟨b, rfl, kv', kd⟩ := keyT_ok (RepV.hide.mp rk5) ek
              refine ⟨Fz w5' (rem H5 D), o, es, ep, xs, kk, b, hD5, hd, hen.mono sC.fz, fun a u e => (rem_some (Fz.of e).1).2, rfl, kv', kd, by rw [rx.length]; exact lim_lt hlen, fun o' es' ep' d' en' => ?_⟩
              refine ⟨_, by omega, rfl, hl, w5', t5, putKV acc kk zv, putK xs kk yz, o', es', ep', ?_⟩
              rw [rem_upd]
              exact ⟨s'.trans sC, r5', upd_same, d', en', repVK_put2 (RepV.hide.mp rz) (rx.mono sC), PostD.from sC q7⟩
            · exact q7.elim
          · exact q7.elim
    · left
      obtain rfl : i = vs.length := Nat.le_antisymm hi (Nat.le_of_not_lt hl)
      rw [List.drop_length] at pp
      refine ⟨ok.stop (w'.hide D) H' t' exh rh, ?_⟩
      have z : Q (.ref D) (upd (rem H' D) D (dicO D o)) := pp w' (rem H' D) (Step.refl _ _) r' D o es ep xs rem_self hd hen rx
      rwa [upd_rem hx] at z
theorem jd_dc {X : Cx} {W : WX} {kx vx tg iter : Expr} {ifs : List Expr} {scope : Scope} {pos : Pos} (own : List (Str × Nat)) {is : List Nat} {f : Val → Rho → Option Rho} {mi : ME (List Val)} {tt : ME Bool} {tk tv : ME Val} (hu : X.A.units + 65 < cLine) (hc : X.calm = true) (hN : X.N.Nodup) (hi : JI X W tg iter mi) (ok : BlkOk X.N X.env.scope scope own)
    (hg : ∃ g, NT X.K g is f ∧ ∀ s H C cl fp, PG (X.blk s H scope (compEnvC scope cl C X.env) fp) tg g) (ht : ∀ s H C cl fp, JTs (X.blk s H scope (compEnvC scope cl C X.env) fp) W0 ifs tt)
    (hk : ∀ s H C cl fp, JE (X.blk s H scope (compEnvC scope cl C X.env) fp) W0 kx tk) (he : ∀ s H C cl fp, JE (X.blk s H scope (compEnvC scope cl C X.env) fp) W0 vx tv)
    (ho : ∀ i ∈ is, i ∈ own.map (·.2) := by decide) (hs : ∀ x, foldedSetIterable iter X.env x = pure x := by intro _; rfl) : PE X (.DictComp kx vx [⟨tg, iter, ifs, 0⟩] scope pos) (tMD X.K W (mDc (own.map (·.2)) f mi tt tk tv)) := by
  obtain ⟨g, nt, pg⟩ := hg
  exact PE.imp (pe_dcT (tt := tMT X.K W0 tt) (tk := tM X.K W0 tk) (tv := tM X.K W0 tv) hu hc hN hi ok pg ht hk he hs) (tdc_sim nt ho)
def fDNew (m : ME (List (NestedKey × Val))) : ME Val := fun ρ t => (m ρ t).bind fun kvs t => .ok (.loc t.st.length) { t with st := t.st ++ [.dT kvs] }
theorem je_dnew {X : Cx} {W : WX} {e : Expr} {m : ME (List (NestedKey × Val))} (h : PE X e (tMD X.K W m)) : JE X W e (fDNew m) := PE.imp h fun σ H Q ⟨w, ρ, t, rt, rr, p⟩ => by
  refine ⟨w, ρ, t, rt, rr, PostE.imp (PostE.bind p) fun w1 H1 kvs t1 e1 s1 r1 q p o es ep xs hp hd hen rx => ?_⟩
  have ok : CellOk X.K (w1.add p) (upd H1 p (dicO p o)) p (.dT kvs) := ⟨o, es, ep, xs, upd_same, hd, hen.mono (step_add r1 hp).fz, rx.mono (step_add r1 hp)⟩
  exact q t1 e1 r1 (w1.add p) _ (step_add r1 hp) (r1.add hp ok) _ (.inr ⟨p, by rw [← r1.len]; exact add_last w1 p, rfl⟩)
def fDFz (m : ME (List (NestedKey × Val))) : ME Val := fun ρ t => (m ρ t).bind fun kvs t => match datas (kvs.map (·.2)) with
  | some ds => .ok (.d (.dT ((kvs.map (·.1)).zip ds))) t
  | none => .stuck
theorem je_dfz {X : Cx} {W : WX} {e : Expr} {m : ME (List (NestedKey × Val))} (h : PE X e (tMD X.K W m)) : JE X W e (fDFz m) := PE.imp h fun σ H Q ⟨w, ρ, t, rt, rr, p⟩ => by
  refine ⟨w, ρ, t, rt, rr, PostE.imp (PostE.bind p) fun w1 H1 kvs t1 e1 s1 r1 q p o es ep xs hp hd hen rx => ?_⟩
  have q2 := q t1 e1 r1
  split at q2
  · rename_i ds ed
    have st := step_new (o := dicO p o) r1 hp
    have nm : ¬ w1.mut p := fun z => by
      rcases z with z | z | z
      · obtain ⟨u, eu⟩ := r1.hidn p z
        rw [hp] at eu; cases eu
      · obtain ⟨b, l, e, z⟩ := z
        obtain ⟨_, _, _, h1, h2⟩ := r1.box b l e
        rcases z with rfl | rfl
        · rw [hp] at h2; cases h2
        · rw [hp] at h1; cases h1
      · obtain ⟨n, hn⟩ := List.getElem?_of_mem z
        have hlen : n < t1.st.length := by rw [← r1.len]; exact as_len hn
        rcases r1.cell n _ (List.getElem?_eq_getElem hlen) with ⟨_, e2⟩ | ⟨b, e2, ok⟩
        · rw [hn] at e2; cases e2
        · rw [hn] at e2
          cases e2
          revert ok
          cases t1.st[n] with
          | dead => exact id
          | lst vs => rintro ⟨xs, h1, _⟩; rw [hp] at h1; cases h1
          | ins c fs => rintro ⟨dx, xs, h1, _⟩; rw [hp] at h1; cases h1
          | dK kvs => rintro ⟨xs, h1, _⟩; rw [hp] at h1; cases h1
          | dT kvs => rintro ⟨o, es, ep, xs, h1, _⟩; rw [hp] at h1; cases h1
    exact q2 w1 _ st (r1.new hp) _ (Rep.dT (Fz.to upd_same nm) hd (hen.mono st.fz) ((repVK_T ed rx).mono st.fz))
  · exact q2.elim
end En
set_option Elab.async false
set_option linter.all false
set_option maxRecDepth 100000
set_option maxHeartbeats 1000000
set_option autoImplicit false
namespace En
open PySem PySem.Spec PyProof.Rows L2
section
variable {prog : Program} {w : World} {A : Around} {E : Value → Shared → Prop} {s : Shared} {K : Type} [DecidableEq K] {knd : HeapKind prog w K}
theorem ior_call {d o : Addr} {kvs more : List (K × Addr × Value)} {Q : Value → Shared → Prop} (hu : knd.room A.in1) (hdo : d ≠ o) (hoS : (o == sysModules) = false)
    (hd : s.heap.DictOfH knd d kvs) (ho : s.heap.DictOfH knd o more) (hap : kvs ≠ [] ∨ ((∀ x ∈ more, s.TypeIs (.ref x.2.1) "tuple") ∧ (more.map fun x => knd.hash x.1).Nodup)) (hsz : kvs.length + more.length ≤ sizeLine)
    (h : ∀ h', h'.DictOfH knd d (storedAllH kvs more) → Heap.SameBut d s.heap h' → Q (.ref d) { s with heap := h' }) :
    wpAny (model prog w) A (call (.builtin "dict.__ior__") [.ref d, .ref o]) Q E s :=
  call_meetsIn F.slot_dict_ior hd.typeIs F.entry_dict_ior (F.args_dict_ior_2 _ _)
    (S := fun A' R s' => A' = A ∧ s' = s ∧ ∀ h', h'.DictOfH knd d (storedAllH kvs more) → Heap.SameBut d s.heap h' → R (.ok (.ret (.ref d))) { s with heap := h' })
    (fun A' R s' hS => by
      obtain ⟨rfl, rfl, hq⟩ := hS
      unfold Builtin.«dict.__ior__»
      refine wpAny_bind ?_
      unfold Builtin.Dict.dictSlotArgs
      refine wpAny_bind (wpAny_notOrdered_dict hd.typeIs ?_)
      refine wpAny_bind (wpAny_pure ?_)
      refine wpAny_pure ?_
      show wpAny _ _ (pure d >>= fun a => Builtin.Dict.updateFrom "dict.__ior__" a (.ref o) [] (.ref d)) _ _ _
      exact wpAny_bind (wpAny_pure (updateFrom_dictH (.ref d) hu hdo hoS hd ho hap hsz fun h' h1 _ h3 => hq h' h1 h3))) ⟨rfl, rfl, h⟩
theorem fillsI_dict : fillsInplaceSlot (.type "dict") (Operator.BitOr).info.2 (Operator.BitOr == .Add) = pure true := by
  unfold fillsInplaceSlot
  show (typeLookup (.type "dict") (dunderI "or") >>= fun fi => pure (fi.isSome && !isSeqSlot fi)) = pure true
  rw [F.slot_dict_ior.lookup]
  rfl
theorem ior_op {d o : Addr} {kvs more : List (K × Addr × Value)} {Q : Value → Shared → Prop} (hu : knd.room A.in1) (hdo : d ≠ o) (hoS : (o == sysModules) = false)
    (hd : s.heap.DictOfH knd d kvs) (ho : s.heap.DictOfH knd o more) (hap : kvs ≠ [] ∨ ((∀ x ∈ more, s.TypeIs (.ref x.2.1) "tuple") ∧ (more.map fun x => knd.hash x.1).Nodup)) (hsz : kvs.length + more.length ≤ sizeLine)
    (h : ∀ h', h'.DictOfH knd d (storedAllH kvs more) → Heap.SameBut d s.heap h' → Q (.ref d) { s with heap := h' }) :
    wpAny (model prog w) A (inplaceOp .BitOr (.ref d) (.ref o)) Q E s := by
  unfold inplaceOp
  refine wpAny_holding ?_
  refine wpAny_bind (wpAny_typeOf hd.typeIs (wpAny_bind (wpAny_of_eq fillsI_dict ?_)))
  rw [if_pos rfl]
  refine wpAny_bind (wpAny_tryMethod_slot hd.typeIs F.slot_dict_ior (ior_call hu hdo hoS hd ho hap hsz fun h' h1 h2 => ⟨(fun z => Value.noConfusion z), ?_⟩))
  exact wpAny_pure (M := model prog w) (A := A) (E := E) (a := Value.ref d) (Q := Q) (h h' h1 h2)
end
def mergeK {α : Type} (xs ys : List (NestedKey × α)) : List (NestedKey × α) := ys.foldl (fun acc p => putKV acc p.1 p.2) xs
theorem putK_eq (xs : List (NestedKey × V)) (k : NestedKey) (v : V) : putK xs k v = putKV xs k v := rfl
theorem paired_merge {kvs : List (NestedKey × V)} {xs : List (NestedKey × Addr × Value)} {more : List (NestedKey × V)} {ys : List (NestedKey × Addr × Value)} (h : Paired (fun (p : NestedKey × V) (q : NestedKey × Addr × Value) => p.1 = q.1 ∧ RelV p.2 q.2.2) kvs xs) (h2 : Paired (fun (p : NestedKey × V) (q : NestedKey × Addr × Value) => p.1 = q.1 ∧ RelV p.2 q.2.2) more ys) :
    Paired (fun (p : NestedKey × V) (q : NestedKey × Addr × Value) => p.1 = q.1 ∧ RelV p.2 q.2.2) (mergeK kvs more) (storedAllH xs ys) := by
  induction h2 generalizing kvs xs with
  | nil => exact h
  | @cons p q ps qs hp hs ih =>
    obtain ⟨k, v⟩ := p
    obtain ⟨k2, b, u⟩ := q
    obtain ⟨e1, e2⟩ := hp
    have e1 : k = k2 := e1
    subst e1
    exact ih (paired_stored e2 h)
theorem merge_keys {K : PySem.W.Frag} {F : Hp} {ys : List (NestedKey × Addr × Value)} : ∀ {xs : List (NestedKey × Addr × Value)}, (∀ y ∈ xs, KeyV K F (.ref y.2.1) y.1 ∧ y.1.depth ≤ 8) → (∀ y ∈ ys, KeyV K F (.ref y.2.1) y.1 ∧ y.1.depth ≤ 8) → ∀ y ∈ storedAllH xs ys, KeyV K F (.ref y.2.1) y.1 ∧ y.1.depth ≤ 8 := by
  induction ys with
  | nil => exact fun h _ => h
  | cons q qs ih =>
    intro xs h h2
    have hq := h2 q (List.mem_cons_self ..)
    exact ih (stored_keys (u := q.2.2) h hq.1 hq.2) fun y hy => h2 y (List.mem_cons_of_mem _ hy)
theorem merge_len {xs ys : List (NestedKey × V)} : (mergeK xs ys).length ≤ xs.length + ys.length := by
  induction ys generalizing xs with
  | nil => exact Nat.le_refl _
  | cons q qs ih =>
    have h1 : (putK xs q.1 q.2).length ≤ xs.length + 1 := length_putK xs q.1 q.2
    have h2 := ih (xs := putKV xs q.1 q.2)
    have h3 : (mergeK xs (q :: qs)).length = (mergeK (putKV xs q.1 q.2) qs).length := rfl
    rw [← putK_eq] at h2 h3
    simp only [List.length_cons]
    omega
theorem repVK_merge {K : PySem.W.Frag} {w : Wd} {H : Hp} {ys : List (NestedKey × V)} {more : List (NestedKey × Val)} (h2 : RepVK K w H ys more) : ∀ {xs : List (NestedKey × V)} {kvs : List (NestedKey × Val)}, RepVK K w H xs kvs → RepVK K w H (mergeK xs ys) (mergeK kvs more) := by
  induction h2 with
  | nil => exact fun h => h
  | cons hv _ ih => exact fun h => ih (repVK_put2 hv h)
def rIor (X : Cx) : TIp := fun x y H Q => ∃ (a b : Addr) (F : Hp) (o : Obj) (es : Array DictEntry) (ep : Nat) (xs : List (NestedKey × V)) (o2 : Obj) (es2 : Array DictEntry) (ep2 : Nat) (ys : List (NestedKey × V)),
  x = .ref a ∧ y = .ref b ∧ a ≠ b ∧ H a = some (dicO a o) ∧ DicOk a o es ep (xs.map (·.1)) ∧ EntsOk X.K F es.toList xs ∧ Ex F H ∧ H b = some (dicO b o2) ∧ DicOk b o2 es2 ep2 (ys.map (·.1)) ∧ EntsOk X.K F es2.toList ys ∧
  (xs ≠ [] ∨ ∀ w : World, ((ys.map (·.1)).map (NestedKey.hash w)).Nodup) ∧ xs.length + ys.length ≤ sizeLine ∧
  ∀ (o' : Obj) (es' : Array DictEntry) (ep' : Nat), DicOk a o' es' ep' ((mergeK xs ys).map (·.1)) → EntsOk X.K F es'.toList (mergeK xs ys) → Q (.ref a) (upd H a (dicO a o'))
theorem ip_ior {X : Cx} (hu : X.A.units + 65 < cLine) : PIp X .BitOr (rIor X) := by
  intro pins s σ H x y v u Q I rx ry h
  obtain ⟨a, b, F, o, es, ep, xs, o2, es2, ep2, ys, rfl, rfl, hab, h1, h2, h3, ex, g1, g2, g3, hap, hz, q⟩ := h
  cases rx
  cases ry
  obtain ⟨zs, e1, e2, e3, pr⟩ := ents_xsF ex I h3
  obtain ⟨ws, f1, f2, f3, qr⟩ := ents_xsF ex I g3
  have ho : s.heap.get? a = some o := (I.hok a _ h1).1
  have ho2 : s.heap.get? b = some o2 := (I.hok b _ g1).1
  have dd : s.heap.DictOfH (nestedKind X.prog X.w) a zs := ⟨o, es, ep, ho, h2.exact_, h2.data, e1, fun y hy => (e3 y hy).1, by rw [e2]; exact h2.nodup⟩
  have de : s.heap.DictOfH (nestedKind X.prog X.w) b ws := ⟨o2, es2, ep2, ho2, g2.exact_, g2.data, f1, fun y hy => (f3 y hy).1, by rw [f2]; exact g2.nodup⟩
  have l1 : xs.length = zs.length := Paired.length pr
  have l2 : ys.length = ws.length := Paired.length qr
  have hap' : zs ≠ [] ∨ ((∀ x ∈ ws, s.TypeIs (.ref x.2.1) "tuple") ∧ (ws.map fun x => (nestedKind X.prog X.w).hash x.1).Nodup) := by
    rcases hap with z | z
    · refine .inl fun e => z (List.length_eq_zero_iff.mp ?_)
      rw [l1, e]; rfl
    · refine .inr ⟨keyed_apart nestedKind_stays de, ?_⟩
      have z' := z X.w
      rw [← f2, List.map_map] at z'
      exact z'
  refine ior_op (knd := nestedKind X.prog X.w) (by show X.A.units + 1 + 8 < cLine; omega) hab g2.sys dd de hap' (by omega) fun h' dd' hs => ?_
  have pr' := paired_merge pr qr
  have kk := merge_keys (fun y hy => (e3 y hy).2) (fun y hy => (f3 y hy).2)
  obtain ⟨o', es', ep', ho', hx', hd', he', _, hn'⟩ := dd'
  have sz := merge_len (xs := xs) (ys := ys)
  refine ⟨.ref a, upd H a (dicO a o'), d_write I (t' := s.toks) (by rw [h1]; exact True.intro) hs ⟨o', ho'⟩ (dicO_ok ho'), rfl, q o' es' ep' ⟨hx', hd', h2.sys, ?_, ?_⟩ ?_⟩
  · rw [paired_keys pr']; exact hn'
  · rw [List.length_map]; omega
  · rw [he']; exact ents_back pr' kk
def IorOk (old kvs : List (NestedKey × Val)) : Prop := old.length + kvs.length ≤ lim ∧ (old ≠ [] ∨ ∀ w : World, ((kvs.map (·.1)).map (NestedKey.hash w)).Nodup)
open Classical in
noncomputable def sIorT (i : Nat) (m : ME (List (NestedKey × Val))) : MS := fun ρ t => match ρ[i]? with
  | some (some (.loc n)) => (m ρ t).toS ρ fun kvs t => (match t.st[n]? with
    | some (.dT old) => if IorOk old kvs then .nx ρ { t with st := t.st.set n (.dT (mergeK old kvs)) } else .stuck
    | _ => .stuck)
  | _ => .stuck
theorem repVK_nil {K : PySem.W.Frag} {w : Wd} {H : Hp} {xs : List (NestedKey × V)} {kvs : List (NestedKey × Val)} (h : RepVK K w H xs kvs) : kvs ≠ [] → xs ≠ [] := by
  cases h with
  | nil => exact fun z => absurd rfl z
  | cons _ _ => exact fun _ z => by cases z
theorem repVK_fst {K : PySem.W.Frag} {w : Wd} {H : Hp} {xs : List (NestedKey × V)} {kvs : List (NestedKey × Val)} (h : RepVK K w H xs kvs) : xs.map (·.1) = kvs.map (·.1) := by
  induction h with
  | nil => rfl
  | cons _ _ ih => simp [ih]
theorem js_iorT {X : Cx} {W : WX} {i : Nat} {x : Str} {e : Expr} {m : ME (List (NestedKey × Val))} {pos pos' : Pos} (hu : X.A.units + 65 < cLine) (hN : X.N.Nodup) (hi : X.N[i]? = some x) (hx : Loc X.env.scope x) (he : PE X e (tMD X.K W m)) (hf : X.fn x = true ∨ X.env.scope.names.lookup x = some .local := by first | exact .inl rfl | exact .inr rfl) :
    JS X W (.AugAssign (.Name x pos') .BitOr e pos) (sIorT i m) :=
  PS.imp (ps_aug hN hi hx he (ip_ior hu) hf) fun D σ H ⟨w, ρ, t, rt, rr, p⟩ => by
    unfold sIorT at p
    split at p
    · rename_i n ev
      obtain ⟨z, hz, rz⟩ := rr.at_ i _ ev
      refine ⟨z, hz, w, ρ, t, rt, rr, PostE.imp (PostS.expr rr p) fun w1 H1 kvs t1 e1 s1 r1 q p2 o2 es2 ep2 ys hp hd hen ry => ?_⟩
      have q2 := q t1 e1
      split at q2
      · rename_i old en
        split at q2
        · rename_i hok
          obtain ⟨hl, hh⟩ := hok
          obtain ⟨a, rfl, ha, o, es, ep, xs, h1, h3, h4, h2⟩ := loc_live r1 (rz.mono s1) en (by intro z; cases z)
          have hab : a ≠ p2 := fun e => by rw [e, hp] at h1; cases h1
          have sn := step_new (o := dicO p2 o2) r1 hp
          have rn := r1.new (o := dicO p2 o2) hp
          refine ⟨a, p2, Fz w1 H1, o, es, ep, xs, o2, es2, ep2, ys, rfl, rfl, hab, by rw [upd_ne hab]; exact h1, h3, h4, fun b u e => upd_some hp (Fz.of e).1, upd_same, hd, hen, ?_, ?_, fun o' es' ep' d' en' => ?_⟩
          · rcases hh with hh | hh
            · exact .inl (repVK_nil h2 hh)
            · exact .inr (by rw [repVK_fst ry]; exact hh)
          · rw [h2.length, ry.length]; exact lim_ok hl
          · have s5 := step_wr (o := dicO a o') rn ha
            have r5 := rn.wr (o := dicO a o') (c := .dT (mergeK old kvs)) ha ⟨o', es', ep', _, upd_same, d', (en'.mono sn.fz).mono s5.fz, ((repVK_merge ry h2).mono sn).mono s5⟩
            show D.nx (σ.set i (some (.ref a))) _
            rw [set_same hz]
            exact q2 w1 _ σ (sn.trans s5) r5 (((rr.mono s1).mono sn).mono s5)
        · exact q2.elim
      · exact q2.elim
    · exact p.elim
end En
set_option Elab.async false
set_option linter.all false
set_option maxRecDepth 100000
set_option maxHeartbeats 1000000
set_option autoImplicit false
namespace En
open PySem PySem.Spec PyProof.Rows L2
mutual
def keyND : NestedKey → D
  | .none => .non
  | .num i => .int i
  | .text x => .str x
  | .tup ks => .tup (keyNDs ks)
def keyNDs : List NestedKey → List D
  | [] => []
  | k :: ks => keyND k :: keyNDs ks
end
mutual
theorem keyV_rep {K : PySem.W.Frag} {F : Hp} : ∀ {k : NestedKey} {x : V}, KeyV K F x k → Rep K F x (keyND k)
  | _, _, .non => by rw [keyND]; exact .non
  | _, _, .int i => by rw [keyND]; exact .int i
  | _, _, .tup h hs => by rw [keyND]; exact .tup h (keyVs_rep hs)
theorem keyVs_rep {K : PySem.W.Frag} {F : Hp} : ∀ {ks : List NestedKey} {xs : List V}, KeyVs K F xs ks → Reps K F xs (keyNDs ks)
  | _, _, .nil => by rw [keyNDs]; exact .nil
  | _, _, .cons h hs => by rw [keyNDs]; exact .cons (keyV_rep h) (keyVs_rep hs)
end
def ItkN (d : Addr) (o : Obj) (es : Array DictEntry) : It :=
  ⟨fun i H => H d = some (dicO d o) ∧ ∃ en b, es[i]? = some en ∧ en.key = .ref b, fun i H x H' => H' = H ∧ ∃ en b, es[i]? = some en ∧ en.key = .ref b ∧ x = .ref b, fun i H => H d = some (dicO d o) ∧ es.size ≤ i⟩
theorem turn_keysN {P : Program} {w : World} {K : PySem.W.Frag} {tg : Expr} {d : Addr} {o : Obj} {es : Array DictEntry} {ep : Nat} (it : Addr) (hod : o.data = .dict es ep) : Turn P w K tg (ItkN d o es) [it] it (fun i h => h.IsKeyIter it d i es.size ep) where
  mem := by simp
  obj := fun i h st b hb => by
    have e : b = it := by simpa using hb
    subst e
    obtain ⟨oi, e, c, dd⟩ := st
    exact ⟨oi, e, fun v z => by rw [dd] at z; cases z⟩
  keep := fun i h h' st k => st.at fun oi e => k it (by simp) oi e
  item := by
    intro X hP hw hK hc i pins s σ H E I hf st hg
    subst hP hw hK
    obtain ⟨hd, en, b, hen, hkey⟩ := hg
    obtain ⟨f0, f1, f2, f3, f4, f5⟩ := hf it (by simp)
    have hgd : s.heap.get? d = some o := (I.hok d _ hd).1
    refine next_key_item st hgd hod rfl hen fun h' st' sb => ?_
    have I1 : Inv X pins σ H { s with heap := h' } := I.turned (t' := s.toks) (fun b ob hb e => (sb.2 b hb).trans e) f0 f1 f3 f4 f5
    obtain ⟨oi, e, c, dd⟩ := id st'
    exact ⟨en.key, rfl, go_of (s := { s with heap := h' }) e c dd (by decide) ⟨.ref b, H, I1, hkey, ⟨rfl, en, b, hen, hkey, rfl⟩, st', fun b hb => (hf b hb).1⟩⟩
  done := by
    intro X hP hw hK hc i pins s σ H E I hf st hg
    subst hP hw hK
    obtain ⟨hd, hi⟩ := hg
    obtain ⟨f0, f1, f2, f3, f4, f5⟩ := hf it (by simp)
    have hgd : s.heap.get? d = some o := (I.hok d _ hd).1
    exact next_key_end (I.ok.hd hc) st hgd hod rfl hi fun h' eb => ⟨rfl, I.turned (t' := s.toks) (fun b ob hb e => eb b ob hb e) f0 f1 f3 f4 f5⟩
  self := fun A i s Q E st h => by
    refine wpAny_pyIter_slot st.typeIs F.slot_dict_keyiterator_iter (wpAny_call_entry F.slot_dict_keyiterator_iter st.typeIs F.entry_dict_keyiterator_iter ?_ (F.args_dict_keyiterator_iter_1 _))
    show wpAny _ _ (ret (.ref it)) _ _ s
    exact wpAny_pure ⟨_, rfl, "dict_keyiterator", _, st.typeIs, F.slot_dict_keyiterator_next.lookup, h⟩
def iKeysN (td : TE) : TI := fun σ H R => td σ H fun x H1 => ∃ (d : Addr) (o : Obj) (es : Array DictEntry) (ep : Nat), x = .ref d ∧ H1 d = some (dicO d o) ∧ o.ExactDict ∧ o.data = .dict es ep ∧ (d == sysModules) = false ∧ R (ItkN d o es) H1
theorem pi_keysN {X : Cx} {tg e : Expr} {td : TE} (he : PE X e td) : PI X tg e (iKeysN td) := by
  refine ⟨fun pins s σ H R I h => ?_⟩
  refine thn (he.run pins s σ H _ I h) fun u s1 ⟨x, H1, I1, rx, d, o, es, ep, ex, hd, hx, hdt, hs, q⟩ => ?_
  subst ex
  obtain rfl : u = Value.ref d := rx
  have hgd : s1.heap.get? d = some o := (I1.hok d _ hd).1
  exact iter_keys hs hgd hx hdt (pi_one (tk := s1.toks) I1 _ (turn_keysN _ hdt) ⟨_, Heap.get?_push_size _ rfl, rfl, rfl⟩ q)
theorem ents_get {K : PySem.W.Frag} {F : Hp} : ∀ {es : List DictEntry} {xs : List (NestedKey × V)} {i : Nat} {k : NestedKey} {v : V}, EntsOk K F es xs → xs[i]? = some (k, v) → ∃ en b, es[i]? = some en ∧ en.key = .ref b ∧ KeyV K F (.ref b) k
  | _, _, i, k, v, .nil, e => by simp at e
  | _, _, 0, k, v, .cons (en := en) (b := b) h1 h2 h3 h4 h5 hs, e => by
    simp only [List.getElem?_cons_zero, Option.some.injEq] at e
    cases e
    exact ⟨en, b, rfl, h1, h3⟩
  | _, _, i + 1, k, v, .cons h1 h2 h3 h4 h5 hs, e => by
    simp only [List.getElem?_cons_succ] at e ⊢
    exact ents_get hs e
theorem ents_len {K : PySem.W.Frag} {F : Hp} : ∀ {es : List DictEntry} {xs : List (NestedKey × V)}, EntsOk K F es xs → es.length = xs.length
  | _, _, .nil => rfl
  | _, _, .cons _ _ _ _ _ hs => by simp [ents_len hs]
theorem repT_get {K : PySem.W.Frag} {F : Hp} : ∀ {xs : List (NestedKey × V)} {ds : List (NestedKey × D)} {i : Nat} {p : NestedKey × D}, RepT K F xs ds → ds[i]? = some p → ∃ x, xs[i]? = some (p.1, x) ∧ Rep K F x p.2
  | _, _, i, p, .nil, e => by simp at e
  | _, _, 0, p, .cons h hs, e => by
    simp only [List.getElem?_cons_zero, Option.some.injEq] at e
    subst e
    exact ⟨_, rfl, h⟩
  | _, _, i + 1, p, .cons h hs, e => by
    simp only [List.getElem?_cons_succ] at e ⊢
    exact repT_get hs e
theorem repT_len {K : PySem.W.Frag} {F : Hp} : ∀ {xs : List (NestedKey × V)} {ds : List (NestedKey × D)}, RepT K F xs ds → xs.length = ds.length
  | _, _, .nil => rfl
  | _, _, .cons _ hs => by simp [repT_len hs]
def fDKeysT (v : Val) (t : T) : R (List Val) := match v with
  | .d (.dT kvs) => .ok (kvs.map fun p => .d (keyND p.1)) t
  | _ => .stuck
theorem ItOk.keysN {K : PySem.W.Frag} {w : Wd} {H : Hp} {a : Addr} {o : Obj} {es : Array DictEntry} {xs : List (NestedKey × V)} {kvs : List (NestedKey × D)} (h : Fz w H a = some (dicO a o)) (en : EntsOk K (Fz w H) es.toList xs) (hs : RepT K (Fz w H) xs kvs) : ItOk K w H (ItkN a o es) (kvs.map fun p => .d (keyND p.1)) where
  go := fun i v w' H' t' e s r => by
    rw [List.getElem?_map] at e
    obtain ⟨p, ep, rfl⟩ := Option.map_eq_some_iff.mp e
    obtain ⟨x, ex, _⟩ := repT_get hs ep
    obtain ⟨en', b, h1, h2, h3⟩ := ents_get (en.mono s) ex
    have h1' : es[i]? = some en' := by rw [← Array.getElem?_toList]; exact h1
    refine ⟨⟨(Fz.of (s _ _ h)).1, en', b, h1', h2⟩, fun y H'' q => ?_⟩
    obtain ⟨rfl, en2, b2, q1, q2, rfl⟩ := q
    rw [h1'] at q1
    cases q1
    rw [h2] at q2
    cases q2
    exact ⟨.inl rfl, keyV_rep h3⟩
  stop := fun w' H' t' s r => ⟨(Fz.of (s _ _ h)).1, by
    rw [List.length_map, ← repT_len hs, ← ents_len en, Array.length_toList]
    exact Nat.le_refl _⟩
theorem ji_keysT {X : Cx} {W : WX} {tg e : Expr} {m : ME Val} (he : JE X W e m) : JI X W tg e (m1 fDKeysT m) :=
  PI.imp (pi_keysN he) fun σ H R ⟨w, ρ, t, rt, rr, p⟩ => by
    refine ⟨w, ρ, t, rt, rr, PostE.imp (PostE.bind p) fun w1 H1 v t1 e1 s1 r1 q x rx => ?_⟩
    have q1 := q t1 e1 r1
    unfold fDKeysT at q1
    split at q1
    · rename_i kvs
      have rx' : Rep X.K (Fz w1 H1) x (.dT kvs) := rx
      cases rx' with
      | @dT a o es ep xs _ h hd hen hs =>
        exact ⟨a, o, es, ep, rfl, (Fz.of h).1, hd.exact_, hd.data, hd.sys, q1.here r1 _ (ItOk.keysN h hen hs)⟩
    · exact q1.elim
end En
set_option Elab.async false
set_option linter.all false
set_option maxRecDepth 100000
set_option maxHeartbeats 1000000
set_option autoImplicit false
namespace En
open PySem PySem.Spec PyProof.Rows L2
theorem kdl_raw {prog : Program} {w : World} {d : Addr} {es : Array DictEntry} {ep : Nat} (lo : (d == sysModules) = false) : PySem.W.KdlSrc prog w "dict" d d es.size (fun i v => ∃ hi : i < es.size, v = es[i].key) (fun h => h.DictRaw d es ep) where
  type := fun _ hm => hm.typeIs
  there := fun _ hm => let ⟨_, ho, _⟩ := hm; ⟨Heap.lt_size ho, Heap.lt_size ho⟩
  keep := fun _ _ hm hk => hm.at fun o e => hk d (.inl rfl) o e
  notList := by decide
  notTuple := by decide
  hint := fun _ _ _ _ hm hq => PySem.W.kdl_hint_dict hm.typeIs hq
  iter := fun _ s hh hm => by
    obtain ⟨o, ho, hc, hd⟩ := id hm
    exact ⟨_, _, (fun _ _ hq => iter_keys lo ho hc hd hq), Walks.rawKeys hh _ d (Nat.ne_of_lt (Heap.lt_size ho)) es ep, ⟨⟨_, Heap.get?_push_size _ rfl, rfl, rfl⟩, hm.at fun o e => Heap.get?_push_of_some _ e⟩⟩
section
variable {prog : Program} {w : World} {A : Around} {E : Value → Shared → Prop} {s : Shared} {d : Addr} {es : Array DictEntry} {ep : Nat}
theorem collect_raw {R : List Value → Shared → Prop} (lo : (d == sysModules) = false) (hh : A.handled = none) (hok : s.heap.DictRaw d es ep) (hn : es.size ≤ sizeLine)
    (h : ∀ (h' : Heap) (tk : Nat) (acc : Array Value), s.heap.objs.size < h'.objs.size → (∀ b o, s.heap.get? b = some o → h'.get? b = some o) → ItemsOf (fun i v => ∃ hi : i < es.size, v = es[i].key) acc es.size → R acc.toList { s with heap := h', toks := tk }) :
    wpAny (model prog w) A (collect (.ref d)) R E s := by
  have K := kdl_raw (prog := prog) (w := w) (es := es) (ep := ep) lo
  have hlt := K.there _ hok
  unfold collect
  refine wpAny_bind (wpAny_runValue (codeAny_builtin entry_proto_collect' ?_))
  rw [Around.under_plainId PySem.F.plain_proto_collect _]
  show wpAny _ A.in1 (newList [] >>= fun l => again (.builtin "list.__iadd__" ⟨[l, .ref d], []⟩)) _ _ s
  refine wpAny_bind (wpAny_newObj_type ?_)
  refine wpAny_pure ⟨plainId_quiet PySem.F.plain_list_iadd _, codeAny_builtin entry_list_iadd' ?_⟩
  rw [Around.under_plainId PySem.F.plain_list_iadd _]
  have hS₁ : (s.heap.push { cls := .type "list", data := .seq ([] : List Value).toArray }).get? s.heap.objs.size = some { cls := .type "list", data := .seq #[] } := Heap.get?_push_size _ rfl
  show wpAny _ A.in1 (Builtin.List.listExtendWith (.ref s.heap.objs.size) (.ref d) (.ref s.heap.objs.size)) _ _ _
  have key := PySem.W.kdl_extend (A := A) (s := { s with heap := s.heap.push { cls := .type "list", data := .seq ([] : List Value).toArray } })
    (R := fun (q : Result) (s' : Shared) => ∃ (h' : Heap) (tk : Nat) (acc' : Array Value) (c' : Nat), q = .ok (.ret (.ref s.heap.objs.size)) ∧ s' = { s with heap := h', toks := tk } ∧
      (∀ b o, s.heap.get? b = some o → h'.get? b = some o) ∧ h'.get? s.heap.objs.size = some { cls := .type "list", dict := none, data := .seq acc' c', slots := #[] } ∧ ItemsOf (fun i v => ∃ hi : i < es.size, v = es[i].key) acc' es.size)
    K hh (K.keep _ _ hok fun b _ o e => Heap.get?_push_of_some _ e) s.heap.objs.size (Nat.ne_of_gt hlt.1) (Nat.ne_of_gt hlt.2) (.ref s.heap.objs.size) 0 hS₁
    (fun h' tk acc' c' hk hS' hacc => ⟨h', tk, acc', c', rfl, rfl, fun b o e => hk b o (Nat.ne_of_lt (Heap.lt_size e)) (Heap.get?_push_of_some _ e), hS', hacc⟩) hn
  refine wpAny_mono key (fun fin s' x => ?_) fun e s' x => ?_
  · cases fin with
    | done f =>
      obtain ⟨h', tk, acc', c', e, rfl, hk, hS', hacc⟩ := x
      cases e
      show wpAny _ A (load s.heap.objs.size >>= _) _ _ _
      refine wpAny_bind (wpAny_load hS' ?_)
      exact wpAny_pure (h h' tk acc' (Heap.lt_size hS') hk hacc)
    | again c₁ =>
      refine ⟨x.1, codeAny_mono x.2 fun q s₂ y => ?_⟩
      obtain ⟨h', tk, acc', c', rfl, rfl, hk, hS', hacc⟩ := y
      show wpAny _ A (load s.heap.objs.size >>= _) _ _ _
      refine wpAny_bind (wpAny_load hS' ?_)
      exact wpAny_pure (h h' tk acc' (Heap.lt_size hS') hk hacc)
  · obtain ⟨_, _, _, _, e', _⟩ := x
    cases e'
theorem keys_of {acc : Array Value} (hacc : ItemsOf (fun i v => ∃ hi : i < es.size, v = es[i].key) acc es.size) : acc.toList = es.toList.map (·.key) := by
  refine List.ext_getElem? fun j => ?_
  rw [List.getElem?_map]
  by_cases hj : j < es.size
  · have h1 : acc.toList[j]? = some (acc.toList[j]'(by rw [Array.length_toList, hacc.1]; exact hj)) := List.getElem?_eq_getElem _
    obtain ⟨hi, e2⟩ := hacc.2 j _ (by rw [← Array.getElem?_toList]; exact h1)
    rw [h1, e2, List.getElem?_eq_getElem (by rw [Array.length_toList]; exact hj)]
    rfl
  · rw [List.getElem?_eq_none (by rw [Array.length_toList, hacc.1]; omega), List.getElem?_eq_none (by rw [Array.length_toList]; omega)]
    rfl
theorem sorted_raw {β : Type} {R : Value → β → Prop} {enc : β → PyData} {bs : List β} {Q : Value → Shared → Prop} (hh : A.handled = none) (lo : (d == sysModules) = false) (hm : s.heap.DictRaw d es ep) (hn : es.size ≤ sizeLine)
    (e : PySem.W.EachIs R (es.toList.map (·.key)) bs) (er : PySem.W.EachIs (fun v b => ∃ as, Reads s.heap v (enc b) as) (es.toList.map (·.key)) bs) (hal : PySem.W.AllAlike (bs.map enc)) (hk : PySem.W.Sortable (bs.map enc)) (hu : ∀ b, b ∈ bs → A.units + 3 + (enc b).depth < cLine)
    (h : ∀ (D : Addr) (h' : Heap) (tk : Nat) (out : List Value) (c : Nat), s.heap.objs.size ≤ D → (∀ b o, s.heap.get? b = some o → h'.get? b = some o) → h'.get? D = some (seqObj "list" out.toArray c) → out.length = bs.length → PySem.W.EachIs R out (bs.mergeSort (PySem.W.dataLe false enc)) → Q (.ref D) { s with heap := h', toks := tk }) :
    wpAny (model prog w) A (call (.builtin "sorted") [.ref d]) Q E s := by
  refine Calls.call_function_entry kind_sorted plain_sorted entry_sorted (args_sorted1 _) ?_
  unfold Builtin.«sorted»
  refine wpAny_bind (m := checkCount "sorted" 1 1 _) (wpAny_pure ?_)
  refine wpAny_bind (collect_raw (A := A.in1) lo (by simp [hh]) hm hn fun h1 tk acc hsz hk1 hacc => ?_)
  rw [keys_of hacc]
  have hlen : (es.toList.map (·.key)).length = es.size := by rw [List.length_map, Array.length_toList]
  refine wpAny_bind (wpAny_newList ?_ (by rw [hlen]; exact hn))
  have hoL : (h1.push (seqObj "list" (es.toList.map (·.key)).toArray 0)).get? h1.objs.size = some (seqObj "list" (es.toList.map (·.key)).toArray 0) := Heap.get?_push_size _ rfl
  have hkD : ∀ b o, s.heap.get? b = some o → b ≠ h1.objs.size := fun b o eb => Nat.ne_of_lt (Heap.lt_size (hk1 b o eb))
  have er' : PySem.W.EachIs (fun v b => ∃ as, Reads (PySem.W.sortingHeap (h1.push (seqObj "list" (es.toList.map (·.key)).toArray 0)) h1.objs.size (es.toList.map (·.key))) v (enc b) as) (es.toList.map (·.key)) bs := er.mono fun _ _ ⟨as, r⟩ => ⟨as, PyProof.Rows.Reads.keeps (fun b o eb => PySem.W.sortingHeap_old (hkD b o eb) (Heap.get?_push_of_some _ (hk1 b o eb))) r⟩
  refine wpAny_bind (wpAny_holding (wpAny_call_entry slot_list_sort ⟨_, hoL, rfl⟩ entry_list_sort (PySem.W.list_sort_vals (κ := PySem.W.dataKind (PySem.W.sortingHeap (h1.push (seqObj "list" (es.toList.map (·.key)).toArray 0)) h1.objs.size (es.toList.map (·.key))) (bs.map enc)) hoL
    (PySem.W.SortsAt.data (s := { s with heap := PySem.W.sortingHeap (h1.push (seqObj "list" (es.toList.map (·.key)).toArray 0)) h1.objs.size (es.toList.map (·.key)), toks := tk }) (PySem.W.each_map (R := fun v d => ∃ as, Reads (PySem.W.sortingHeap (h1.push (seqObj "list" (es.toList.map (·.key)).toArray 0)) h1.objs.size (es.toList.map (·.key))) v d as) enc er') hal hk (PySem.W.bound_map fun b hb => by have := hu b hb; show A.units + 1 + 1 + (enc b).depth < cLine; omega)) (by rw [hlen]; exact hn) ⟨.none, rfl, ?_⟩) (args_list_sort _)))
  obtain ⟨c, hc⟩ := sortedHeap_at (vs := es.toList.map (·.key)) (out := (PySem.W.sortVals (PySem.W.dataKind (PySem.W.sortingHeap (h1.push (seqObj "list" (es.toList.map (·.key)).toArray 0)) h1.objs.size (es.toList.map (·.key))) (bs.map enc)) false (es.toList.map (·.key)) (es.toList.map (·.key))).toArray) hoL
  refine wpAny_pure ⟨_, rfl, h h1.objs.size _ tk _ c (Nat.le_of_lt hsz) (fun b o eb => ?_) hc (by rw [PySem.W.sortVals_length false rfl]; exact e.length) (PySem.W.sortVals_data false e er' hal)⟩
  have eb1 := Heap.get?_push_of_some (seqObj "list" (es.toList.map (·.key)).toArray 0) (hk1 b o eb)
  exact (sortedHeap_old (hkD b o eb) (Heap.lt_size eb1)).trans eb1
end

def rSortN (K : PySem.W.Frag) : List V → Hp → VK → Prop := fun vs H Q => ∃ (a : Addr) (o : Obj) (es : Array DictEntry) (ep : Nat) (bs : List (V × PyData)), vs = [.ref a] ∧ H a = some (dicO a o) ∧ o.ExactDict ∧ o.data = .dict es ep ∧ (a == sysModules) = false ∧ es.size ≤ sizeLine ∧ Vals (bs.map (·.1)) (es.toList.map (·.key)) ∧
  (∀ b ∈ bs, Dp K H b.1 b.2) ∧ PySem.W.AllAlike (bs.map (·.2)) ∧ PySem.W.Sortable (bs.map (·.2)) ∧ (∀ b ∈ bs, b.2.depth ≤ 60) ∧
  ∀ p, H p = none → Q (.ref p) (upd H p (.lst ((bs.mergeSort (PySem.W.dataLe false (·.2))).map (·.1))))
theorem cr_sortN {X : Cx} (hc : X.calm = true) (hu : X.A.units + 65 < cLine) : CallR X (.builtin "sorted") (rSortN X.K) := by
  intro pins s σ H vs us Q I r h
  obtain ⟨a, o, es, ep, bs, rfl, ha, hx, hd, hs, hz, rv, hdp, hal, hk, hdep, q⟩ := h
  rw [Vals.ref1 r]
  have ho : s.heap.get? a = some o := (I.hok a _ ha).1
  refine sorted_raw (R := fun u (b : V × PyData) => RelV b.1 u) (enc := (·.2)) (I.ok.hd hc) hs ⟨o, ho, hx, hd⟩ hz (eachR rv fun b _ u ru => ru) (eachR rv fun b hb u ru => Dp.reads I b.2 b.1 u (hdp b hb) ru) hal hk (fun b hb => by have := hdep b hb; show X.A.units + 3 + b.2.depth < cLine; omega) fun D h' tk out c hD hkeep hget hol eo => ?_
  have hlen : ((bs.mergeSort (PySem.W.dataLe false (·.2))).map (·.1)).length ≤ sizeLine := by
    have h1 := rv.length
    rw [List.length_map, List.length_map] at h1
    have h2 : es.toList.length = es.size := Array.length_toList
    rw [List.length_map, List.length_mergeSort]
    omega
  exact ⟨.ref _, upd H D (.lst ((bs.mergeSort (PySem.W.dataLe false (·.2))).map (·.1))), I.laid (t' := tk) hkeep hD ⟨hlen, out, c, each_vals eo, hget⟩, rfl, q _ (I.hok.fresh hD)⟩
theorem ents_vals {K : PySem.W.Frag} {F : Hp} : ∀ {es : List DictEntry} {kvs : List (NestedKey × V)}, EntsOk K F es kvs → ∃ xs : List V, Vals xs (es.map (·.key)) ∧ Reps K F xs (kvs.map fun p => keyND p.1)
  | _, _, .nil => ⟨[], .nil, .nil⟩
  | _, _, .cons (en := en) (b := b) h1 h2 h3 h4 h5 hs => by
    obtain ⟨xs, e1, e2⟩ := ents_vals hs
    refine ⟨.ref b :: xs, .cons ?_ e1, .cons (keyV_rep h3) e2⟩
    show en.key = .ref b
    exact h1
theorem repT_keys {K : PySem.W.Frag} {F : Hp} : ∀ {xs : List (NestedKey × V)} {ds : List (NestedKey × D)}, RepT K F xs ds → xs.map (·.1) = ds.map (·.1)
  | _, _, .nil => rfl
  | _, _, .cons _ hs => by simp [repT_keys hs]
theorem reps_vs {K : PySem.W.Frag} {w : Wd} {H : Hp} : ∀ {xs : List V} {ds : List D}, Reps K (Fz w H) xs ds → RepVs K w H xs (ds.map Val.d)
  | _, _, .nil => .nil
  | _, _, .cons h hs => .cons h (reps_vs hs)
theorem sortV_bs {K : PySem.W.Frag} {w : Wd} {H : Hp} {us : List Val} {xs : List V} {ds : List D} (hs : RepVs K w H xs us) (e : sortV us = some ds) :
    ∃ bs : List (V × PyData), bs.map (·.1) = xs ∧ (∀ b ∈ bs, Dp K H b.1 b.2) ∧ PySem.W.AllAlike (bs.map (·.2)) ∧ PySem.W.Sortable (bs.map (·.2)) ∧ (∀ b ∈ bs, b.2.depth ≤ 60) ∧ Reps K (Fz w H) ((bs.mergeSort (PySem.W.dataLe false (·.2))).map (·.1)) ds := by
  unfold sortV at e
  split at e
  · rename_i es ee
    split at e
    · rename_i bs eb
      split at e
      · rename_i hok
        cases e
        obtain ⟨cs, h1, h2, h3⟩ := withPy_rep (Fz.ex (w := w) (H := H)) eb (datas_rep ee hs)
        unfold okSort at hok
        simp only [Bool.and_eq_true] at hok
        obtain ⟨o1, o2, o3⟩ := hok
        have m2 : (cs.map fun c => c.1).map (·.2) = bs.map (·.2) := by rw [← h2]; simp [Function.comp_def]
        have m1 : (cs.map fun c => c.1).map (·.1) = xs := by rw [← h1]; simp [Function.comp_def]
        refine ⟨cs.map fun c => c.1, m1, fun b hb => ?_, by rw [m2]; exact alikeB_ok o1, by rw [m2]; exact sortB_ok o2, fun b hb => ?_, ?_⟩
        · obtain ⟨c, hc, rfl⟩ := List.mem_map.mp hb
          exact (h3 c hc).1
        · obtain ⟨c, hc, rfl⟩ := List.mem_map.mp hb
          have hm : (c.2, c.1.2) ∈ bs := by rw [← h2]; exact List.mem_map.mpr ⟨c, hc, rfl⟩
          exact of_decide_eq_true (List.all_eq_true.mp o3 _ hm)
        · have e1 : ((cs.map fun c => c.1).mergeSort (PySem.W.dataLe false (·.2))) = (cs.mergeSort (PySem.W.dataLe false fun c => c.1.2)).map fun c => c.1 := (List.map_mergeSort (f := fun c : (V × PyData) × D => c.1) (fun _ _ _ _ => rfl)).symm
          have e2 : sortD bs = (cs.mergeSort (PySem.W.dataLe false fun c => c.1.2)).map fun c => c.2 := by
            unfold sortD
            rw [← h2, ← List.map_mergeSort (r := PySem.W.dataLe false fun c => c.1.2) (f := fun c : (V × PyData) × D => (c.2, c.1.2)) (fun _ _ _ _ => rfl), List.map_map]
            rfl
          rw [e1, List.map_map, e2]
          exact reps_of fun c hc => (h3 c ((List.mergeSort_perm ..).mem_iff.mp hc)).2
      · cases e
    · cases e
  · cases e
def fSortedT (vs : List Val) (t : T) : R Val := match vs with
  | [.d (.dT kvs)] => (match sortV (kvs.map fun p => .d (keyND p.1)) with
    | some ds => .ok (.d (.lst ds)) t
    | none => .stuck)
  | _ => .stuck
theorem c_sortedT {K : PySem.W.Frag} {W : WX} : CallS K W (rSortN K) fSortedT := by
  intro w t σ H xs vs Q r rx p
  unfold fSortedT at p
  split at p
  · rename_i kvs
    split at p
    · rename_i ds ed
      obtain ⟨x, rfl, rx1⟩ := rx.one
      have rx' : Rep K (Fz w H) x (.dT kvs) := rx1
      cases rx' with
      | @dT a o es ep ys _ h hd hen hs =>
        obtain ⟨zs, e1, e2⟩ := ents_vals hen
        have e3 : (ys.map fun p => keyND p.1) = kvs.map fun p => keyND p.1 := by
          have := congrArg (List.map keyND) (repT_keys hs)
          rw [List.map_map, List.map_map] at this
          exact this
        rw [e3] at e2
        have e4 := reps_vs e2
        rw [List.map_map] at e4
        obtain ⟨bs, b1, b2, b3, b4, b5, b6⟩ := sortV_bs e4 ed
        refine ⟨a, o, es, ep, bs, rfl, (Fz.of h).1, hd.exact_, hd.data, hd.sys, ?_, by rw [b1]; exact e1, b2, b3, b4, b5, fun p' hp => new_lst r b6 p p' hp⟩
        have h1 := hd.size
        have h2 := ents_len hen
        rw [List.length_map] at h1
        rw [Array.length_toList] at h2
        omega
    · exact p.elim
  · exact p.elim
end En
set_option Elab.async false
set_option linter.all false
set_option maxRecDepth 100000
set_option maxHeartbeats 1000000
set_option autoImplicit false
namespace En
open PySem PySem.Spec PyProof.Rows L2
section
variable {X : Cx} {pins : List (Addr × Obj)} {σ : L2.St} {H : Hp} {s : Shared}
theorem star_dict {a : Addr} {o : Obj} {es : Array DictEntry} {ep : Nat} {xs : List V} {E : Value → Shared → Prop} {Q : List Value → Shared → Prop} (hc : X.calm = true) (I : Inv X pins σ H s) (ha : H a = some (dicO a o)) (hx : o.ExactDict) (hd : o.data = .dict es ep) (hs : (a == sysModules) = false) (hz : es.size ≤ sizeLine) (rv : Vals xs (es.toList.map (·.key)))
    (hQ : ∀ us s', Inv X pins σ H s' → Vals xs us → Q us s') : PySem.W.StarOf (model X.prog X.w) X.A E (.ref a) Q s := by
  have ho : s.heap.get? a = some o := (I.hok a _ ha).1
  have hm : s.heap.DictRaw a es ep := ⟨o, ho, hx, hd⟩
  have z : wpAny (model X.prog X.w) X.A (collect (.ref a)) Q E s := by
    refine collect_raw hs (I.ok.hd hc) hm hz fun h' tk acc _ hk hacc => ?_
    rw [keys_of hacc]
    exact hQ _ _ (I.kept (t' := tk) hk) rv
  unfold PySem.W.StarOf notIterableAtAll
  exact wpAny_bind (wpAny_specialOf hm.typeIs PySem.F.slot_dict_iter.lookup (wpAny_pure ⟨rfl, z⟩))
end
def mStarT (m : ME Val) (ms : ME (List Val)) : ME (List Val) := fun ρ t => (m ρ t).bind fun v t => match v with
  | .d (.dT kvs) => (ms ρ t).bind fun vs t => .ok ((kvs.map fun p => Val.d (keyND p.1)) ++ vs) t
  | _ => .stuck
theorem RepVs.append {K : PySem.W.Frag} {w : Wd} {H : Hp} : ∀ {xs ys : List V} {us vs : List Val}, RepVs K w H xs us → RepVs K w H ys vs → RepVs K w H (xs ++ ys) (us ++ vs)
  | _, _, _, _, .nil, h => h
  | _, _, _, _, .cons h hs, h' => .cons h (RepVs.append hs h')
theorem ja_starT {X : Cx} {W : WX} {e : Expr} {es : List Expr} {p : Pos} {m : ME Val} {ms : ME (List Val)} (hc : X.calm = true) (he : JE X W e m) (hr : JA X W es ms) (hs : starEach (.Starred e p :: es) X.env = (true, eval e X.env) :: starEach es X.env := by rfl) : JA X W (.Starred e p :: es) (mStarT m ms) := by
  refine ⟨fun pos pins s σ H Q I h => ?_⟩
  obtain ⟨w, ρ, t, rt, rr, pp⟩ := h
  refine PySem.W.items_star (thn (he.run pins s σ H _ I ⟨w, ρ, t, rt, rr, PostE.imp (PostE.bind pp) fun w1 H1 v t1 e1 s1 r1 q1 x rx => (⟨w1, v, t1, s1, r1, rx, q1 t1 e1 r1⟩ : (fun x H1 => ∃ w1 v t1, Step w H w1 H1 ∧ RelT X.K w1 t1 H1 ∧ RepV X.K w1 H1 x v ∧ PostE X.K W σ w1 H1 (fun w' H' vs => ∀ xs, RepVs X.K w' H' xs vs → Q xs H') (match v with
    | .d (.dT kvs) => (ms ρ t1).bind fun vs t => .ok ((kvs.map fun p => Val.d (keyND p.1)) ++ vs) t
    | _ => .stuck)) x H1)⟩) fun v s1 ⟨y, H1, I1, ry, w1, u, t1, st1, r1, rx, q⟩ => ?_) hs
  split at q
  · rename_i kvs
    have rx' : Rep X.K (Fz w1 H1) y (.dT kvs) := rx
    cases rx' with
    | @dT a o es ep ys _ h hd hen hs =>
      obtain rfl : v = Value.ref a := ry
      obtain ⟨zs, e1, e2⟩ := ents_vals hen
      have e3 : (ys.map fun p => keyND p.1) = kvs.map fun p => keyND p.1 := by
        have := congrArg (List.map keyND) (repT_keys hs)
        rw [List.map_map, List.map_map] at this
        exact this
      rw [e3] at e2
      have e4 := reps_vs e2
      rw [List.map_map] at e4
      have hz : es.size ≤ sizeLine := by
        have h1 := hd.size
        have h2 := ents_len hen
        rw [List.length_map] at h1
        rw [Array.length_toList] at h2
        omega
      refine star_dict hc I1 (Fz.of h).1 hd.exact_ hd.data hd.sys hz e1 fun us s2 I2 rv => ?_
      refine thn (hr.run pos pins s2 σ H1 _ I2 ⟨w1, ρ, t1, r1, rr.mono st1, PostE.imp (PostE.bind q) fun w2 H2 vs t2 e2' s2' r2 q2 xs rxs => (q2 t2 e2' r2).here r2 _ (RepVs.append (e4.mono s2') rxs)⟩) fun ws s3 ⟨vs, H3, I3, r3, q3⟩ => ⟨zs ++ vs, H3, I3, rv.append r3, q3⟩
  · exact q.elim
end En
set_option Elab.async false
set_option linter.all false
set_option maxRecDepth 100000
set_option maxHeartbeats 1000000
set_option autoImplicit false
namespace En
open PySem PySem.Spec PyProof.Rows L2
inductive PairsOk (K : PySem.W.Frag) (F : Hp) : List V → List (NestedKey × V) → Prop
  | nil : PairsOk K F [] []
  | cons {T b : Addr} {v : V} {k : NestedKey} {xs : List V} {ys : List (NestedKey × V)} : SqT K F T [.ref b, v] → KeyV K F (.ref b) k → k.depth ≤ 8 → PairsOk K F xs ys → PairsOk K F (.ref T :: xs) ((k, v) :: ys)
theorem pairs_xs {X : Cx} {pins : List (Addr × Obj)} {σ : L2.St} {H : Hp} {s : Shared} {F : Hp} (ex : Ex F H) (I : Inv X pins σ H s) : ∀ {xs : List V} {ys : List (NestedKey × V)} {its : List Value}, PairsOk X.K F xs ys → Vals xs its →
    ∃ (Tl : List Addr) (zs : List (NestedKey × Addr × Value)), its = Tl.map Value.ref ∧ Tl.length = zs.length ∧ (∀ (j : Nat) (z : NestedKey × Addr × Value), zs[j]? = some z → ∃ T, Tl[j]? = some T ∧ PairAt s.heap T (.ref z.2.1) z.2.2) ∧
      (∀ y ∈ zs, (nestedKind X.prog X.w).is s.heap y.1 y.2.1 ∧ KeyV X.K F (.ref y.2.1) y.1 ∧ y.1.depth ≤ 8) ∧ Paired (fun (p : NestedKey × V) (q : NestedKey × Addr × Value) => p.1 = q.1 ∧ RelV p.2 q.2.2) ys zs
  | _, _, _, .nil, .nil => ⟨[], [], rfl, rfl, fun j z h => (by simp at h), fun _ h => (by cases h), .nil⟩
  | _, _, _, .cons (T := T) (b := b) (v := v) (k := k) h1 h2 h3 hs, .cons (b := u) r rs => by
    obtain ⟨Tl, zs, e1, e2, e3, e4, e5⟩ := pairs_xs ex I hs rs
    obtain ⟨its, rv, ht, _⟩ := I.tuple (ex.sqT h1)
    obtain rfl : u = Value.ref T := r
    obtain ⟨u1, u2, e0, r1, r2⟩ : ∃ u1 u2, its = [u1, u2] ∧ RelV (.ref b) u1 ∧ RelV v u2 := by
      cases rv with
      | cons r1 rv =>
        cases rv with
        | cons r2 rv =>
          cases rv
          exact ⟨_, _, rfl, r1, r2⟩
    subst e0
    obtain rfl : u1 = Value.ref b := r1
    refine ⟨T :: Tl, (k, b, u2) :: zs, by simp [e1], by simp [e2], fun j z hz => ?_, fun y hy => ?_, .cons ⟨rfl, r2⟩ e5⟩
    · cases j with
      | zero =>
        simp only [List.getElem?_cons_zero, Option.some.injEq] at hz
        subst hz
        exact ⟨T, rfl, .inl ht⟩
      | succ j => exact e3 j z (by simpa using hz)
    · rcases List.mem_cons.mp hy with rfl | hy
      · exact ⟨⟨keyV_is I (h2.mono ex) rfl, h3⟩, h2, h3⟩
      · exact e4 y hy
def rDictL (K : PySem.W.Frag) : List V → Hp → VK → Prop := fun vs H Q => ∃ (F : Hp) (a : Addr) (xs : List V) (ys : List (NestedKey × V)), vs = [.ref a] ∧ Ex F H ∧ SqL K H a xs ∧ PairsOk K F xs ys ∧ ys.length ≤ sizeLine ∧
  ∀ p o es ep, H p = none → DicOk p o es ep ((mergeK [] ys).map (·.1)) → EntsOk K F es.toList (mergeK [] ys) → Q (.ref p) (upd H p (dicO p o))
theorem cr_dictL {X : Cx} (hc : X.calm = true) (hu : X.A.units + 65 < cLine) : CallR X (.type "dict") (rDictL X.K) := by
  intro pins s σ H vs us Q I r h
  obtain ⟨F, a, xs, ys, rfl, ex, hl, hp, hz, q⟩ := h
  rw [Vals.ref1 r]
  obtain ⟨its, rv, pl, hz'⟩ := I.list hl
  obtain ⟨Tl, zs, e1, e2, e3, e4, e5⟩ := pairs_xs ex I hp rv
  have l1 : ys.length = zs.length := Paired.length e5
  refine call_dict_pairsH (knd := nestedKind X.prog X.w) (ps := zs) (PairArg.list a its.toArray (fun j => Tl.getD j 0) (zs.map fun z => (Value.ref z.2.1, z.2.2))) (I.ok.hd hc) (by show X.A.units + 1 + 1 + 8 < cLine; omega) ⟨pl, ?_, ?_⟩ ⟨by rw [List.length_map], ?_⟩ ?_ (by rw [List.length_map]; omega) ?_
  · rw [List.size_toArray, e1, List.length_map, List.length_map, e2]
  · intro j k v hj
    rw [List.getElem?_map] at hj
    cases hzj : zs[j]? with
    | none => rw [hzj] at hj; cases hj
    | some z =>
      rw [hzj] at hj
      cases hj
      obtain ⟨T, hT, hpa⟩ := e3 j z hzj
      have e6 : Tl.getD j 0 = T := by rw [List.getD_eq_getElem?_getD, hT]; rfl
      refine ⟨?_, by simp only [e6]; exact hpa⟩
      simp only [e6]
      rw [e1, List.getElem?_toArray, List.getElem?_map, hT]
      rfl
  · intro i key v hr
    have hr : (zs.map fun z => (Value.ref z.2.1, z.2.2))[i]? = some (key, v) := hr
    rw [List.getElem?_map] at hr
    cases hzj : zs[i]? with
    | none => rw [hzj] at hr; cases hr
    | some z =>
      rw [hzj] at hr
      cases hr
      exact ⟨z.1, z.2.1, rfl, rfl⟩
  · intro h' hk x hx
    exact nestedKind_stays.stays (fun b o _ _ e _ => hk b o (Nat.ne_of_lt (Heap.lt_size e)) (fun z => nomatch z) e) (e4 x hx).1
  · intro h' tk dd' hk
    have pr' := paired_merge (kvs := []) (xs := []) .nil e5
    have kk := merge_keys (K := X.K) (F := F) (xs := []) (ys := zs) (fun y hy => by cases hy) (fun y hy => (e4 y hy).2)
    obtain ⟨o', es', ep', ho', hx', hd', he', _, hn'⟩ := dd'
    have sz := merge_len (xs := []) (ys := ys)
    refine ⟨.ref _, upd H s.heap.objs.size (dicO s.heap.objs.size o'), I.laid (t' := tk) (fun b o e => hk b o (fun z => nomatch z) e) (Nat.le_refl _) (dicO_ok ho'), rfl, q _ o' es' ep' (I.hok.fresh (Nat.le_refl _)) ⟨hx', hd', sys_new I, ?_, ?_⟩ ?_⟩
    · rw [paired_keys pr']; exact hn'
    · rw [List.length_map]
      have : ([] : List (NestedKey × V)).length = 0 := rfl
      omega
    · rw [he']; exact ents_back pr' kk
def pairsK : List D → Option (List (NestedKey × D))
  | [] => some []
  | .tup [k, v] :: ds => (match keyT (.d k), pairsK ds with
    | some k, some r => some ((k, v) :: r)
    | _, _ => none)
  | _ => none
theorem pairsK_ok {K : PySem.W.Frag} {w : Wd} {H : Hp} : ∀ {ds : List D} {xs : List V} {ps : List (NestedKey × D)}, pairsK ds = some ps → Reps K (Fz w H) xs ds → ∃ ys : List (NestedKey × V), PairsOk K (Fz w H) xs ys ∧ RepVK K w H ys (ps.map fun p => (p.1, Val.d p.2)) ∧ ys.length = ps.length
  | [], _, _, e, .nil => by cases e; exact ⟨[], .nil, .nil, rfl⟩
  | .tup [k, v] :: ds, _, ps, e, .cons h hs => by
    unfold pairsK at e
    split at e
    · rename_i k' r ek er
      cases e
      obtain ⟨ys, h1, h2, h3⟩ := pairsK_ok er hs
      cases h with
      | tup ht hr =>
        cases hr with
        | cons r1 hr =>
          cases hr with
          | @cons v1 _ _ _ r2 hr =>
            cases hr
            obtain ⟨b, rfl, kv, hd⟩ := keyT_ok (K := K) (w := w) (H := H) (v := .d k) r1 ek
            exact ⟨(k', v1) :: ys, .cons ht kv hd h1, .cons r2 h2, by simp [h3]⟩
    · cases e
  | .non :: _, _, _, e, _ => by simp [pairsK] at e
  | .bl _ :: _, _, _, e, _ => by simp [pairsK] at e
  | .int _ :: _, _, _, e, _ => by simp [pairsK] at e
  | .str _ :: _, _, _, e, _ => by simp [pairsK] at e
  | .lst _ :: _, _, _, e, _ => by simp [pairsK] at e
  | .ins _ _ :: _, _, _, e, _ => by simp [pairsK] at e
  | .dK _ :: _, _, _, e, _ => by simp [pairsK] at e
  | .dT _ :: _, _, _, e, _ => by simp [pairsK] at e
  | .scr _ :: _, _, _, e, _ => by simp [pairsK] at e
  | .tup [] :: _, _, _, e, _ => by simp [pairsK] at e
  | .tup [_] :: _, _, _, e, _ => by simp [pairsK] at e
  | .tup (_ :: _ :: _ :: _) :: _, _, _, e, _ => by simp [pairsK] at e
def fDictL (vs : List Val) (t : T) : R (List (NestedKey × Val)) := match vs with
  | [.d (.lst ds)] => (match pairsK ds with
    | some ps => if ps.length ≤ lim then .ok (mergeK [] (ps.map fun p => (p.1, Val.d p.2))) t else .stuck
    | none => .stuck)
  | _ => .stuck
abbrev mDictL (m : ME (List Val)) : ME (List (NestedKey × Val)) := fun ρ t => (m ρ t).bind fDictL
theorem jd_dictL {X : Cx} {W : WX} {x : Str} {e : Expr} {es : List Expr} {p pos : Pos} {m : ME (List Val)} (hu : X.A.units + 65 < cLine) (hc : X.calm = true) (hm : X.mg x = none) (ha : JA X W (e :: es) m)
    (hg : Gl X x := by rfl) (hv : bootBuiltins x = some (.type "dict") := by decide +kernel) (hn : x ≠ "__name__" := by decide) (hdb : (x == ("__debug__" : Str)) = false := by decide)
    (he : starEach (e :: es) X.env = (false, eval e X.env) :: starEach es X.env := by rfl) (hpl : (backTo pos (starEach es X.env)).any (·.1) = false := by rfl) : PE X (.Call (.Name x p) (e :: es) [] pos) (tMD X.K W (mDictL m)) :=
  PE.imp (pe_callTy (cr_dictL hc hu) hg hm hv ha hn hdb he hpl) fun σ H Q ⟨w, ρ, t, rt, rr, p⟩ => by
    refine ⟨w, ρ, t, rt, rr, PostE.imp (PostE.bind p) fun w1 H1 v t1 e1 s1 r1 q1 xs rx => ?_⟩
    have q := q1 t1 e1 r1
    unfold fDictL at q
    split at q
    · rename_i ds
      split at q
      · rename_i ps ek
        split at q
        · rename_i hl
          obtain ⟨x0, rfl, rx1⟩ := rx.one
          have rx' : Rep X.K (Fz w1 H1) x0 (.lst ds) := rx1
          cases rx' with
          | @lst a ys _ h hs =>
            obtain ⟨zs, z1, z2, z3⟩ := pairsK_ok ek hs
            refine ⟨Fz w1 H1, a, ys, zs, rfl, Fz.ex, SqL.of (Fz.of h).1, z1, by rw [z3]; exact lim_ok hl, fun p o es ep hp hd hen => ?_⟩
            exact (PostE.here q r1) p o es ep _ hp hd hen (repVK_merge z2 .nil)
        · exact q.elim
      · exact q.elim
    · exact q.elim
end En
set_option Elab.async false
set_option linter.all false
set_option maxRecDepth 100000
set_option maxHeartbeats 1000000
set_option autoImplicit false
namespace En
open PySem PySem.Spec PyProof.Rows L2
theorem min_list_at {prog : Program} {w : World} {A : Around} {E : Value → Shared → Prop} {s : Shared} {l : Addr} {vs : Array Value} {x : PyData} {xs : List PyData} {as : List Addr} {Q : Value → Shared → Prop} (hh : A.handled = none) (hl : s.heap.IsList l vs) (hr : ReadsAll s.heap vs.toList (x :: xs) as) (ha : PySem.W.AlikeAll (x :: xs)) (hu : A.units + 1 + PyData.depthAll (x :: xs) < cLine)
    (h : ∀ v h' tk, vs[PySem.argBest (fun i j => PySem.W.dataLt ((x :: xs).getD i .none) ((x :: xs).getD j .none)) xs.length]? = some v → (∀ b o, s.heap.get? b = some o → h'.get? b = some o) → Q v { s with heap := h', toks := tk }) :
    wpAny (model prog w) A (call (.builtin "min") [.ref l]) Q E s := by
  have hn : vs.size = xs.length + 1 := PySem.W.readsAll_len hr
  refine call_min_walkH (PySem.W.iter_listW (A := A.in1) hh hl fun s₂ e W st hfp hw hk => ?_)
  refine ⟨_, _, _, _, _, _, _, s.heap, _, rfl, W, st, hfp, by omega, hw, hk, PySem.W.cmpIn_lt (A := A.in1) hr ha (by show A.units + 1 + _ < _; exact hu), fun v s' hP m => ?_⟩
  obtain ⟨h', tk, rfl, hk'⟩ := PySem.W.moved_old e rfl m
  have e1 : vs.size - 1 = xs.length := by omega
  rw [e1] at hP
  exact h v h' tk hP hk'
def minP {α : Type} (x : α × PyData) (xs : List (α × PyData)) : α × PyData := xs.foldl (fun a y => if PySem.W.dataLt y.2 a.2 then y else a) x
theorem minP_map {α β : Type} (f : α → β) : ∀ (xs : List (α × PyData)) (x : α × PyData), minP (f x.1, x.2) (xs.map fun y => (f y.1, y.2)) = (f (minP x xs).1, (minP x xs).2)
  | [], _ => rfl
  | y :: xs, x => by
    have e : ∀ (x : β × PyData) (y : β × PyData) (ys : List (β × PyData)), minP x (y :: ys) = minP (if PySem.W.dataLt y.2 x.2 then y else x) ys := fun _ _ _ => rfl
    have e' : ∀ (x : α × PyData) (y : α × PyData) (ys : List (α × PyData)), minP x (y :: ys) = minP (if PySem.W.dataLt y.2 x.2 then y else x) ys := fun _ _ _ => rfl
    rw [List.map_cons, e, e']
    by_cases h : PySem.W.dataLt y.2 x.2 = true
    · rw [if_pos h, if_pos h]; exact minP_map f xs y
    · rw [if_neg h, if_neg h]; exact minP_map f xs x
theorem minP_mem {α : Type} : ∀ (xs : List (α × PyData)) (x : α × PyData), minP x xs ∈ x :: xs
  | [], x => List.mem_cons_self ..
  | y :: xs, x => by
    have e' : minP x (y :: xs) = minP (if PySem.W.dataLt y.2 x.2 then y else x) xs := rfl
    rw [e']
    by_cases h : PySem.W.dataLt y.2 x.2 = true
    · rw [if_pos h]; exact List.mem_cons_of_mem _ (minP_mem xs y)
    · rw [if_neg h]
      rcases List.mem_cons.mp (minP_mem xs x) with h | h
      · rw [h]; exact List.mem_cons_self ..
      · exact List.mem_cons_of_mem _ (List.mem_cons_of_mem _ h)
def rMinD (K : PySem.W.Frag) : List V → Hp → VK → Prop := fun vs H Q => ∃ (a : Addr) (c : V × PyData) (cs : List (V × PyData)), vs = [.ref a] ∧ SqL K H a ((c :: cs).map (·.1)) ∧ DpAll K H ((c :: cs).map (·.1)) ((c :: cs).map (·.2)) ∧ PySem.W.AlikeAll ((c :: cs).map (·.2)) ∧ PyData.depthAll ((c :: cs).map (·.2)) ≤ 60 ∧ Q (minP c cs).1 H
theorem cr_minD {X : Cx} (hc : X.calm = true) (hu : X.A.units + 65 < cLine) : CallR X (.builtin "min") (rMinD X.K) := by
  intro pins s σ H vs us Q I r h
  obtain ⟨a, c, cs, rfl, hl, hdp, hal, hdep, q⟩ := h
  rw [Vals.ref1 r]
  obtain ⟨its, rv, pl, hz⟩ := I.list hl
  obtain ⟨as, hr⟩ := Dp.readsAll I _ _ _ hdp rv
  obtain ⟨o, n, ho, hcl, hd0, hd⟩ := pl
  refine min_list_at (x := c.2) (xs := cs.map (·.2)) (vs := its.toArray) (as := as) (I.ok.hd hc) ⟨o, ho, hcl, n, hd⟩ (by simpa using hr) (by simpa using hal) (by
    have : PyData.depthAll (c.2 :: cs.map (·.2)) ≤ 60 := by simpa using hdep
    omega) fun v h' tk hv hk => ?_
  have e := PySem.W.argBest_fold (fun (p q : V × PyData) => PySem.W.dataLt p.2 q.2) (V.non, PyData.none) c cs cs.length (Nat.le_refl _)
  have eg : ∀ i, (c.2 :: cs.map (·.2)).getD i .none = ((c :: cs).getD i (V.non, PyData.none)).2 := fun i => by
    rw [show c.2 :: cs.map (·.2) = (c :: cs).map (·.2) from rfl, List.getD_eq_getElem?_getD, List.getElem?_map, List.getD_eq_getElem?_getD]
    cases (c :: cs)[i]? <;> rfl
  have ef : (fun i j => PySem.W.dataLt ((c.2 :: cs.map (·.2)).getD i .none) ((c.2 :: cs.map (·.2)).getD j .none)) = fun i j => PySem.W.dataLt ((c :: cs).getD i (V.non, PyData.none)).2 ((c :: cs).getD j (V.non, PyData.none)).2 := by
    funext i j
    rw [eg, eg]
  rw [ef, List.length_map] at hv
  obtain ⟨e1, e2⟩ := e
  rw [List.take_length] at e2
  rw [List.getElem?_toArray] at hv
  have hlt : PySem.argBest (fun i j => PySem.W.dataLt ((c :: cs).getD i (V.non, PyData.none)).2 ((c :: cs).getD j (V.non, PyData.none)).2) cs.length < (c :: cs).length := Nat.lt_succ_of_le e1
  refine ⟨(minP c cs).1, H, I.kept (t' := tk) hk, ?_, q⟩
  have e3 : (c :: cs)[PySem.argBest (fun i j => PySem.W.dataLt ((c :: cs).getD i (V.non, PyData.none)).2 ((c :: cs).getD j (V.non, PyData.none)).2) cs.length]? = some (minP c cs) := by
    rw [List.getElem?_eq_getElem hlt]
    rw [List.getD_eq_getElem?_getD, List.getElem?_eq_getElem hlt] at e2
    exact congrArg some e2
  obtain ⟨u, hu', ru⟩ := rv.get (i := PySem.argBest (fun i j => PySem.W.dataLt ((c :: cs).getD i (V.non, PyData.none)).2 ((c :: cs).getD j (V.non, PyData.none)).2) cs.length) (x := (minP c cs).1) (by rw [List.getElem?_map, e3]; rfl)
  rw [hv] at hu'
  cases hu'
  exact ru
def okMin (bs : List (D × PyData)) : Bool := alikeB (bs.map (·.2)) && (bs.all (fun b => match b.2 with | .none => false | _ => true) && bs.all fun b => decide (b.2.depth ≤ 60))
def fMinD (vs : List Val) (t : T) : R Val := match vs with
  | [v] => (match asList v t with
    | some us => (match datas us with
      | some ds => (match withPy ds with
        | some (b :: bs) => if okMin (b :: bs) then .ok (.d (minP b bs).1) t else .stuck
        | _ => .stuck)
      | none => .stuck)
    | none => .stuck)
  | _ => .stuck
theorem dpAll_of {K : PySem.W.Frag} {H : Hp} : ∀ {cs : List (V × PyData)}, (∀ c ∈ cs, Dp K H c.1 c.2) → DpAll K H (cs.map (·.1)) (cs.map (·.2))
  | [], _ => .nil
  | c :: cs, h => .cons (h c (List.mem_cons_self ..)) (dpAll_of fun d hd => h d (List.mem_cons_of_mem _ hd))
theorem depthAll_le {n : Nat} : ∀ {ds : List PyData}, (∀ d ∈ ds, d.depth ≤ n) → PyData.depthAll ds ≤ n
  | [], _ => by simp [PyData.depthAll]
  | d :: ds, h => by
    have h1 := h d (List.mem_cons_self ..)
    have h2 := depthAll_le (n := n) (ds := ds) fun e he => h e (List.mem_cons_of_mem _ he)
    simp only [PyData.depthAll]
    omega
theorem c_minD {K : PySem.W.Frag} {W : WX} : CallS K W (rMinD K) fMinD := by
  intro w t σ H xs vs Q r rx p
  unfold fMinD at p
  split at p
  · split at p
    · rename_i us eu
      split at p
      · rename_i ds ed
        split at p
        · rename_i b bs eb
          split at p
          · rename_i hok
            obtain ⟨x, rfl, rx1⟩ := rx.one
            obtain ⟨a, ys, rfl, hq, hs⟩ := asList_rep r rx1 eu
            obtain ⟨cs, h1, h2, h3⟩ := withPy_rep (Fz.ex (w := w) (H := H)) eb (datas_rep ed hs)
            unfold okMin at hok
            simp only [Bool.and_eq_true] at hok
            obtain ⟨o1, o2, o3⟩ := hok
            cases cs with
            | nil => cases h2
            | cons c cs =>
              have m2 : ((c :: cs).map fun c => c.1).map (·.2) = (b :: bs).map (·.2) := by rw [← h2]; simp [Function.comp_def]
              have m1 : ((c :: cs).map fun c => c.1).map (·.1) = ys := by rw [← h1]; simp [Function.comp_def]
              have hb : b = (c.2, c.1.2) ∧ bs = cs.map fun c => (c.2, c.1.2) := by
                rw [List.map_cons] at h2
                injection h2 with e1 e2
                exact ⟨e1.symm, e2.symm⟩
              have m0 : c.1 :: (cs.map fun c => c.1) = (c :: cs).map fun c => c.1 := rfl
              refine ⟨a, c.1, cs.map fun c => c.1, rfl, SqL.of (by rw [m0, m1]; exact hq), ?_, ?_, ?_, ?_⟩
              · rw [m0]
                exact dpAll_of fun e he => by
                  obtain ⟨c', hc', rfl⟩ := List.mem_map.mp he
                  exact (h3 c' hc').1
              · rw [m0, m2]
                refine ⟨fun x hx y hy => alikeB_ok o1 x hx y hy, fun x hx z => ?_⟩
                obtain ⟨b', hb', rfl⟩ := List.mem_map.mp hx
                have := List.all_eq_true.mp o2 b' hb'
                rw [z] at this
                cases this
              · rw [m0, m2]
                refine depthAll_le fun d hd => ?_
                obtain ⟨b', hb', rfl⟩ := List.mem_map.mp hd
                exact of_decide_eq_true (List.all_eq_true.mp o3 b' hb')
              · have e1 := minP_map (fun c : (V × PyData) × D => c.1.1) (cs.map fun c => (c, c.1.2)) (c, c.1.2)
                have e2 := minP_map (fun c : (V × PyData) × D => c.2) (cs.map fun c => (c, c.1.2)) (c, c.1.2)
                rw [List.map_map] at e1 e2
                have hm := minP_mem (cs.map fun c => (c, c.1.2)) (c, c.1.2)
                have hm2 : (minP (c, c.1.2) (cs.map fun c => (c, c.1.2))).1 ∈ c :: cs := by
                  have : minP (c, c.1.2) (cs.map fun c => (c, c.1.2)) ∈ (c :: cs).map fun c => (c, c.1.2) := hm
                  obtain ⟨c', hc', e⟩ := List.mem_map.mp this
                  rw [← e]; exact hc'
                have hrep := (h3 _ hm2).2
                have e1' : (minP c.1 (cs.map fun c => c.1)).1 = (minP (c, c.1.2) (cs.map fun c => (c, c.1.2))).1.1.1 := by
                  have := congrArg Prod.fst e1
                  exact this
                have e2' : (minP b bs).1 = (minP (c, c.1.2) (cs.map fun c => (c, c.1.2))).1.2 := by
                  rw [hb.1, hb.2]
                  have := congrArg Prod.fst e2
                  exact this
                rw [e1']
                refine p.here r _ ?_
                rw [e2']
                exact hrep
          · exact p.elim
        · exact p.elim
      · exact p.elim
    · exact p.elim
  · exact p.elim
end En
set_option Elab.async false
set_option linter.all false
set_option maxRecDepth 100000
set_option maxHeartbeats 1000000
set_option autoImplicit false
namespace En
open PySem PySem.Spec PyProof.Rows L2
def ItvN (d : Addr) (o : Obj) (es : Array DictEntry) (ep : Nat) : It :=
  ⟨fun i H => H d = some (dicO d o) ∧ o.ExactDict ∧ ∃ en v, es[i]? = some en ∧ RelV v en.val, fun i H x H' => H' = H ∧ ∃ en, es[i]? = some en ∧ RelV x en.val, fun i H => H d = some (dicO d o) ∧ o.ExactDict ∧ es.size ≤ i⟩
theorem turn_valsN {P : Program} {w : World} {K : PySem.W.Frag} {tg : Expr} {d : Addr} {o : Obj} {es : Array DictEntry} {ep : Nat} (it : Addr) (hod : o.data = .dict es ep) : Turn P w K tg (ItvN d o es ep) [it] it (fun i h => h.IsValIter it d i es.size ep) where
  mem := by simp
  obj := fun i h st b hb => by
    have e : b = it := by simpa using hb
    subst e
    obtain ⟨oi, e, c, dd⟩ := st
    exact ⟨oi, e, fun v z => by rw [dd] at z; cases z⟩
  keep := fun i h h' st k => st.at fun oi e => k it (by simp) oi e
  item := by
    intro X hP hw hK hc i pins s σ H E I hf st hg
    subst hP hw hK
    obtain ⟨hd, hx, en, v, hen, hv⟩ := hg
    obtain ⟨f0, f1, f2, f3, f4, f5⟩ := hf it (by simp)
    have hgd : s.heap.get? d = some o := (I.hok d _ hd).1
    obtain ⟨hi, e0⟩ := Array.getElem?_eq_some_iff.mp hen
    refine wpAny_pyNext_values_item_raw st ⟨o, hgd, hx, hod⟩ hi fun h' st' sb => ?_
    have I1 : Inv X pins σ H { s with heap := h' } := I.turned (t' := s.toks) (fun b ob hb e => (sb.2 b hb).trans e) f0 f1 f3 f4 f5
    obtain ⟨oi, e, c, dd⟩ := id st'
    rw [e0]
    exact ⟨en.val, rfl, go_of (s := { s with heap := h' }) e c dd (by decide) ⟨v, H, I1, hv, ⟨rfl, en, hen, hv⟩, st', fun b hb => (hf b hb).1⟩⟩
  done := by
    intro X hP hw hK hc i pins s σ H E I hf st hg
    subst hP hw hK
    obtain ⟨hd, hx, hi⟩ := hg
    obtain ⟨f0, f1, f2, f3, f4, f5⟩ := hf it (by simp)
    have hgd : s.heap.get? d = some o := (I.hok d _ hd).1
    exact wpAny_pyNext_values_end_raw (I.ok.hd hc) st ⟨o, hgd, hx, hod⟩ hi fun h' eb => ⟨rfl, I.turned (t' := s.toks) (fun b ob hb e => eb b ob hb e) f0 f1 f3 f4 f5⟩
  self := fun A i s Q E st h => wpAny_pyIter_valiter st h
def iValsN (td : TE) : TI := fun σ H R => td σ H fun x H1 => ∃ (d : Addr) (o : Obj) (es : Array DictEntry) (ep : Nat), x = .ref d ∧ H1 d = some (dicO d o) ∧ o.ExactDict ∧ o.data = .dict es ep ∧ (d == sysModules) = false ∧ R (ItvN d o es ep) H1
theorem pi_valsN {X : Cx} {tg e : Expr} {td : TE} {apos cpos : Pos} (he : PE X e td) (hbase : attributeBase e "values" X.env (eval e X.env) = eval e X.env := by rfl) (hline : (apos.endLine == cpos.line) = true := by rfl) : PI X tg (.Call (.Attribute e "values" apos) [] [] cpos) (iValsN td) := by
  refine ⟨fun pins s σ H R I h => ?_⟩
  refine wpAny_Call_method (T := "dict") (id := "dict.values") hbase rfl hline F.plainAttrs_dict F.slot_dict_values F.type_dict_values (thn (he.run pins s σ H _ I h) fun u s1 ⟨x, H1, I1, rx, d, o, es, ep, ex, hd, hx, hdt, hs, q⟩ => ?_)
  subst ex
  obtain rfl : u = Value.ref d := rx
  have hgd : s1.heap.get? d = some o := (I1.hok d _ hd).1
  have hm : s1.heap.DictRaw d es ep := ⟨o, hgd, hx, hdt⟩
  refine ⟨hm.typeIs, ?_, ?_⟩
  · exact (by
      obtain ⟨h1, h2, h3⟩ := hx
      exact fun a e => by cases e; first | exact ⟨o, hgd, h2⟩ | exact fun o' e' => by rw [hgd] at e'; cases e'; exact h2)
  have I2 : Inv X pins σ H1 { s1 with heap := s1.heap.push { cls := .type "dict_values", data := .fields #[.ref d] } } := I1.kept (t' := s1.toks) fun b ob q => Heap.get?_push_of_some _ q
  have fin : wpAny (model X.prog X.w) X.A (pyIter (.ref s1.heap.objs.size)) (PIE X pins σ tg R) X.xe { s1 with heap := s1.heap.push { cls := .type "dict_values", data := .fields #[.ref d] } } := by
    exact wpAny_pyIter_values_raw (d := d) ⟨_, Heap.get?_push_size _ rfl, rfl, rfl⟩ (hm.at fun o e => Heap.get?_push_of_some _ e) (pi_one (tk := s1.toks) I2 _ (turn_valsN _ hdt) ⟨_, Heap.get?_push_size _ rfl, rfl, rfl⟩ q)
  show wpAny _ _ (callWith cpos (.builtin "dict.values") [.ref d] [] []) _ X.xe s1
  exact method_meetsIn F.slot_dict_values F.entry_dict_values rfl (PySem.evalArgs_none ⟨rfl, hm.typeIs, F.args_dict_values_1 _, _, meets_dict_values_raw d hs, ⟨es, ep, hm⟩, fin⟩)
theorem ents_val {K : PySem.W.Frag} {F : Hp} : ∀ {es : List DictEntry} {xs : List (NestedKey × V)} {i : Nat} {k : NestedKey} {v : V}, EntsOk K F es xs → xs[i]? = some (k, v) → ∃ en, es[i]? = some en ∧ RelV v en.val
  | _, _, i, k, v, .nil, e => by simp at e
  | _, _, 0, k, v, .cons (en := en) (b := b) h1 h2 h3 h4 h5 hs, e => by
    simp only [List.getElem?_cons_zero, Option.some.injEq] at e
    cases e
    exact ⟨en, rfl, h5⟩
  | _, _, i + 1, k, v, .cons h1 h2 h3 h4 h5 hs, e => by
    simp only [List.getElem?_cons_succ] at e ⊢
    exact ents_val hs e
def fDValsT (v : Val) (t : T) : R (List Val) := match v with
  | .d (.dT kvs) => .ok (kvs.map fun p => .d p.2) t
  | _ => .stuck
theorem relV_eq {x y : V} {u : Value} (h : RelV x u) (h' : RelV y u) : x = y := by
  cases x <;> cases y <;> simp only [L2.RelV] at h h' <;> (first | rfl | (obtain ⟨t, rfl⟩ := h; obtain ⟨t', e⟩ := h'; injection e with e1 e2; rw [e1]) | (subst h; injection h'; subst_vars; rfl) | (subst h; cases h'; rfl) | (subst h; exact absurd h' (by simp)) | (obtain ⟨t, rfl⟩ := h; exact Value.noConfusion h') | (obtain ⟨t, rfl⟩ := h; obtain ⟨t', e⟩ := h'; exact Value.noConfusion e) | (obtain ⟨t', rfl⟩ := h'; exact Value.noConfusion h))
theorem ItOk.valsN {K : PySem.W.Frag} {w : Wd} {H : Hp} {a : Addr} {o : Obj} {es : Array DictEntry} {ep : Nat} {xs : List (NestedKey × V)} {kvs : List (NestedKey × D)} (hx : o.ExactDict) (h : Fz w H a = some (dicO a o)) (en : EntsOk K (Fz w H) es.toList xs) (hs : RepT K (Fz w H) xs kvs) : ItOk K w H (ItvN a o es ep) (kvs.map fun p => .d p.2) where
  go := fun i v w' H' t' e s r => by
    rw [List.getElem?_map] at e
    obtain ⟨p, ep, rfl⟩ := Option.map_eq_some_iff.mp e
    obtain ⟨x, ex, hr⟩ := repT_get (hs.mono s) ep
    obtain ⟨en', h1, h2⟩ := ents_val (en.mono s) ex
    have h1' : es[i]? = some en' := by rw [← Array.getElem?_toList]; exact h1
    refine ⟨⟨(Fz.of (s _ _ h)).1, hx, en', x, h1', h2⟩, fun y H'' q => ?_⟩
    obtain ⟨rfl, en2, q1, q2⟩ := q
    rw [h1'] at q1
    cases q1
    rw [relV_eq q2 h2]
    exact ⟨.inl rfl, hr⟩
  stop := fun w' H' t' s r => ⟨(Fz.of (s _ _ h)).1, hx, by
    rw [List.length_map, ← repT_len hs, ← ents_len en, Array.length_toList]
    exact Nat.le_refl _⟩
theorem ji_valsT {X : Cx} {W : WX} {tg e : Expr} {m : ME Val} {apos cpos : Pos} (he : JE X W e m) (hbase : attributeBase e "values" X.env (eval e X.env) = eval e X.env := by rfl) (hline : (apos.endLine == cpos.line) = true := by rfl) : JI X W tg (.Call (.Attribute e "values" apos) [] [] cpos) (m1 fDValsT m) :=
  PI.imp (pi_valsN he hbase hline) fun σ H R ⟨w, ρ, t, rt, rr, p⟩ => by
    refine ⟨w, ρ, t, rt, rr, PostE.imp (PostE.bind p) fun w1 H1 v t1 e1 s1 r1 q x rx => ?_⟩
    have q1 := q t1 e1 r1
    unfold fDValsT at q1
    split at q1
    · rename_i kvs
      have rx' : Rep X.K (Fz w1 H1) x (.dT kvs) := rx
      cases rx' with
      | @dT a o es ep ys _ h hd hen hs =>
        exact ⟨a, o, es, ep, rfl, (Fz.of h).1, hd.exact_, hd.data, hd.sys, q1.here r1 _ (ItOk.valsN hd.exact_ h hen hs)⟩
    · exact q1.elim
end En
set_option Elab.async false
set_option linter.all false
set_option maxRecDepth 100000
set_option maxHeartbeats 1000000
set_option autoImplicit false
namespace En
open PySem PySem.Spec PyProof.Rows L2
theorem kdl_vraw {prog : Program} {w : World} {r d : Addr} {es : Array DictEntry} {ep : Nat} : PySem.W.KdlSrc prog w "dict_values" r d es.size (fun i v => ∃ hi : i < es.size, v = es[i].val) (fun h => h.IsValuesView r d ∧ h.DictRaw d es ep) where
  type := fun _ hm => hm.1.typeIs
  there := fun _ hm => ⟨let ⟨_, ho, _⟩ := hm.1; Heap.lt_size ho, let ⟨_, ho, _⟩ := hm.2; Heap.lt_size ho⟩
  keep := fun _ _ hm hk => ⟨let ⟨o, ho, x⟩ := hm.1; ⟨o, hk r (.inl rfl) o ho, x⟩, hm.2.at fun o e => hk d (.inr rfl) o e⟩
  notList := by decide
  notTuple := by decide
  hint := fun _ _ _ _ hm hq => PySem.W.kdl_hint_values hm.1.typeIs hq
  iter := fun _ _ hh hm => ⟨_, _, (fun _ _ hq => wpAny_pyIter_values_raw hm.1 hm.2 hq), Walks.rawValues hh _ d (let ⟨_, ho, _⟩ := hm.2; Nat.ne_of_lt (Heap.lt_size ho)) es ep, ⟨⟨_, Heap.get?_push_size _ rfl, rfl, rfl⟩, hm.2.at fun o e => Heap.get?_push_of_some _ e⟩⟩
theorem vals_of {es : Array DictEntry} {acc : Array Value} (hacc : ItemsOf (fun i v => ∃ hi : i < es.size, v = es[i].val) acc es.size) : acc.toList = es.toList.map (·.val) := by
  refine List.ext_getElem? fun j => ?_
  rw [List.getElem?_map]
  by_cases hj : j < es.size
  · have h1 : acc.toList[j]? = some (acc.toList[j]'(by rw [Array.length_toList, hacc.1]; exact hj)) := List.getElem?_eq_getElem _
    obtain ⟨hi, e2⟩ := hacc.2 j _ (by rw [← Array.getElem?_toList]; exact h1)
    rw [h1, e2, List.getElem?_eq_getElem (by rw [Array.length_toList]; exact hj)]
    rfl
  · rw [List.getElem?_eq_none (by rw [Array.length_toList, hacc.1]; omega), List.getElem?_eq_none (by rw [Array.length_toList]; omega)]
    rfl
def tListValsN (te : TE) : TE := fun σ H Q => te σ H fun x H1 => ∃ (d : Addr) (o : Obj) (es : Array DictEntry) (ep : Nat) (xs : List V), x = .ref d ∧ H1 d = some (dicO d o) ∧ o.ExactDict ∧ o.data = .dict es ep ∧ (d == sysModules) = false ∧ es.size ≤ sizeLine ∧ Vals xs (es.toList.map (·.val)) ∧ ∀ p, H1 p = none → Q (.ref p) (upd H1 p (.lst xs))
section
variable {X : Cx} {e : Expr} {te : TE} {p apos cpos pos : Pos}
theorem pe_listValsN (hc : X.calm = true) (he : PE X e te) (hg : Gl X "list") (hm : X.mg "list" = none) (hv : bootBuiltins "list" = some (.type "list") := by decide +kernel) (hbase : attributeBase e "values" X.env (eval e X.env) = eval e X.env := by rfl) (hline : (apos.endLine == cpos.line) = true := by rfl)
    (hs : starEach [.Call (.Attribute e "values" apos) [] [] cpos] X.env = (false, eval (.Call (.Attribute e "values" apos) [] [] cpos) X.env) :: starEach [] X.env := by rfl) :
    PE X (.Call (.Name "list" p) [.Call (.Attribute e "values" apos) [] [] cpos] [] pos) (tListValsN te) := by
  refine ⟨fun pins s σ H Q I hq => ?_⟩
  refine wpAny_Call_Name_kw (ld_blt I hg hm hv ?_)
  refine PyProof.Rows.callWith_type1 ?_ hs rfl
  rw [hs]
  show wpAny _ _ (spliced ((false, eval (.Call (.Attribute e "values" apos) [] [] cpos) X.env) :: backTo pos (starEach [] X.env))) _ _ s
  refine Calls.spliced_cons ?_
  refine wpAny_Call_method (T := "dict") (id := "dict.values") hbase rfl hline F.plainAttrs_dict F.slot_dict_values F.type_dict_values (thn (he.run pins s σ H _ I hq) fun u s1 ⟨x, H1, I1, rx, d, o, es, ep, xs, ex, hd, hx, hdt, hs0, hz, rv, q⟩ => ?_)
  subst ex
  obtain rfl : u = Value.ref d := rx
  have hgd : s1.heap.get? d = some o := (I1.hok d _ hd).1
  have hm' : s1.heap.DictRaw d es ep := ⟨o, hgd, hx, hdt⟩
  have I2 : Inv X pins σ H1 { s1 with heap := s1.heap.push { cls := .type "dict_values", data := .fields #[.ref d] } } := I1.kept (t' := s1.toks) fun b ob q => Heap.get?_push_of_some _ q
  refine ⟨hm'.typeIs, ?_, ?_⟩
  · obtain ⟨h1, h2, h3⟩ := hx
    exact fun a e => by cases e; exact ⟨o, hgd, h2⟩
  show wpAny _ _ (callWith cpos (.builtin "dict.values") [.ref d] [] []) _ X.xe s1
  refine method_meetsIn F.slot_dict_values F.entry_dict_values rfl (PySem.evalArgs_none ⟨rfl, hm'.typeIs, F.args_dict_values_1 _, _, meets_dict_values_raw d hs0, ⟨es, ep, hm'⟩, ?_⟩)
  refine Calls.spliced_nil ?_
  refine PySem.W.kdl_call (kdl_vraw (es := es) (ep := ep)) (I1.ok.hd hc) ⟨⟨_, Heap.get?_push_size _ rfl, rfl, rfl⟩, hm'.at fun o e => Heap.get?_push_of_some _ e⟩ hz fun h' tk acc c hk hS hacc => ?_
  have fresh := I2.hok.fresh (Nat.le_refl _)
  have hl : xs.length = es.size := by
    have := rv.length
    rw [List.length_map, Array.length_toList] at this
    exact this
  refine ⟨.ref _, _, I2.laid (o := .lst xs) (t' := tk) hk (Nat.le_refl _) ⟨by omega, acc.toList, c, ?_, ?_⟩, rfl, q _ fresh⟩
  · rw [vals_of hacc]; exact rv
  · rw [Array.toArray_toList]; exact hS
end
def fDVals2 (v : Val) (t : T) : R (List Val) := match v with
  | .d (.dT kvs) => .ok (kvs.map fun p => .d p.2) t
  | _ => .stuck
theorem ents_valsV {K : PySem.W.Frag} {F : Hp} : ∀ {es : List DictEntry} {kvs : List (NestedKey × V)}, EntsOk K F es kvs → Vals (kvs.map (·.2)) (es.map (·.val))
  | _, _, .nil => .nil
  | _, _, .cons h1 h2 h3 h4 h5 hs => .cons h5 (ents_valsV hs)
theorem repT_vals {K : PySem.W.Frag} {F : Hp} : ∀ {xs : List (NestedKey × V)} {ds : List (NestedKey × D)}, RepT K F xs ds → Reps K F (xs.map (·.2)) (ds.map (·.2))
  | _, _, .nil => .nil
  | _, _, .cons h hs => .cons h (repT_vals hs)
theorem jl_valsT {X : Cx} {W : WX} {e : Expr} {m : ME Val} {p apos cpos pos : Pos} (hc : X.calm = true) (hm : X.mg "list" = none) (he : JE X W e m) (hg : Gl X "list" := by rfl) (hv : bootBuiltins "list" = some (.type "list") := by decide +kernel) (hbase : attributeBase e "values" X.env (eval e X.env) = eval e X.env := by rfl) (hline : (apos.endLine == cpos.line) = true := by rfl)
    (hs : starEach [.Call (.Attribute e "values" apos) [] [] cpos] X.env = (false, eval (.Call (.Attribute e "values" apos) [] [] cpos) X.env) :: starEach [] X.env := by rfl) :
    JL X W (.Call (.Name "list" p) [.Call (.Attribute e "values" apos) [] [] cpos] [] pos) (m1 fDVals2 m) :=
  PE.imp (pe_listValsN hc he hg hm hv hbase hline hs) fun σ H Q ⟨w, ρ, t, rt, rr, pp⟩ => by
    refine ⟨w, ρ, t, rt, rr, PostE.imp (PostE.bind pp) fun w1 H1 v t1 e1 s1 r1 q1 x rx => ?_⟩
    have q := q1 t1 e1 r1
    unfold fDVals2 at q
    split at q
    · rename_i kvs
      have rx' : Rep X.K (Fz w1 H1) x (.dT kvs) := rx
      cases rx' with
      | @dT a o es ep ys _ h hd hen hs' =>
        refine ⟨a, o, es, ep, ys.map (·.2), rfl, (Fz.of h).1, hd.exact_, hd.data, hd.sys, ?_, ents_valsV hen, fun l hl => ?_⟩
        · have h1 := hd.size
          have h2 := ents_len hen
          rw [List.length_map] at h1
          rw [Array.length_toList] at h2
          omega
        · have rv := reps_vs (repT_vals hs')
          rw [List.map_map] at rv
          exact q.here r1 l _ hl rv
    · exact q.elim
end En
set_option Elab.async false
set_option linter.all false
set_option maxRecDepth 100000
set_option maxHeartbeats 1000000
set_option autoImplicit false
namespace En
open PySem PySem.Spec PyProof.Rows L2
def rLenN (K : PySem.W.Frag) : List V → Hp → VK → Prop := fun vs H Q => ∃ (F : Hp) (a : Addr) (o : Obj) (es : Array DictEntry) (ep : Nat) (ys : List (NestedKey × V)), vs = [.ref a] ∧ Ex F H ∧ H a = some (dicO a o) ∧ DicOk a o es ep (ys.map (·.1)) ∧ EntsOk K F es.toList ys ∧ Q (.int ys.length) H
theorem cr_lenN {X : Cx} : CallR X (.builtin "len") (rLenN X.K) := by
  intro pins s σ H vs us Q I r h
  obtain ⟨F, a, o, es, ep, ys, rfl, ex, h1, h2, h3, q⟩ := h
  rw [Vals.ref1 r]
  obtain ⟨zs, e1, e2, e3, pr⟩ := ents_xsF ex I h3
  have ho : s.heap.get? a = some o := (I.hok a _ h1).1
  have dd : s.heap.DictOfH (nestedKind X.prog X.w) a zs := ⟨o, es, ep, ho, h2.exact_, h2.data, e1, fun y hy => (e3 y hy).1, by rw [e2]; exact h2.nodup⟩
  have l1 : ys.length = zs.length := Paired.length pr
  have hl := line63
  have hs : sizeLine = 16777216 := sizeLine_eq
  have hz := h2.size
  rw [List.length_map] at hz
  exact call_len_dictH h2.sys dd (by omega) ⟨.int ys.length, H, I.tok _, ⟨_, by rw [l1]⟩, q⟩
def fLenT (vs : List Val) (t : T) : R Val := match vs with
  | [.d (.dT kvs)] => retI kvs.length t
  | _ => .stuck
theorem c_lenT {K : PySem.W.Frag} {W : WX} : CallS K W (rLenN K) fLenT := by
  intro w t σ H xs vs Q r rx p
  unfold fLenT at p
  split at p
  · rename_i kvs
    obtain ⟨x, rfl, rx1⟩ := rx.one
    have rx' : Rep K (Fz w H) x (.dT kvs) := rx1
    cases rx' with
    | @dT a o es ep ys _ h hd hen hs =>
      refine ⟨Fz w H, a, o, es, ep, ys, rfl, Fz.ex, (Fz.of h).1, hd, hen, ?_⟩
      have := repT_len hs
      rw [this]
      exact p.here r _ (Rep.int _)
  · exact p.elim
end En
set_option Elab.async false
set_option linter.all false
set_option maxRecDepth 100000
set_option maxHeartbeats 4000000
namespace K91
open PySem PySem.Spec PyProof.Rows L2 En
noncomputable section
def d_LAND : D := (.str ".")
def d_WATER : D := (.str "~")
def d_LETTERS : D := (.str "ABCDEFGHIJKLMNOPQRSTUVWXYZ")
def d_MAX_SIZE : D := (.int 12)
def d_MOVES : D := (.tup [(.tup [(.int (-1)), (.int 0)]), (.tup [(.int 0), (.int 1)]), (.tup [(.int 1), (.int 0)]), (.tup [(.int 0), (.int (-1))])])
def d_MAX_GOALS : D := (.int 7)
def d_MAX_WEIGHT : D := (.int 1000000000)
def m_Island____init__ : MS :=
  (sSeq (sIf (mOr (m1 asB (m2 fEq (mL fLenB (mCons (mVar 1) mNil)) (mC (.int 0)))) (m1 asB (m2 fEq (m2 fIx (mVar 1) (mC (.int 0))) (mC (.str "")))))
   sNever
   sNil)
   (sSeq (sFor (gT 2 (gsCons (gN 2) (gsCons (gN 3) gsNil))) (mL fEnum (mCons (mVar 1) mNil))
    (sSeq (sIf (m1 asB (m2 fEq (mVar 2) (mC d_MAX_SIZE)))
     sNever
     sNil)
     (sSeq (sFor (gT 2 (gsCons (gN 4) (gsCons (gN 5) gsNil))) (mL fEnum (mCons (mVar 3) mNil))
      (sIf (mOr (m1 asB (m2 fEq (mVar 4) (mL fMin2 (mCons (mC d_MAX_SIZE) (mCons (mL fLenB (mCons (m2 fIx (mVar 1) (mC (.int 0))) mNil)) mNil))))) (m1 asB (m2 fNotIn (mVar 5) (m2 fAdd (m2 fAdd (mC d_LAND) (mC d_WATER)) (mC d_LETTERS)))))
       sNever
       sNil))
      (sIf (m1 asB (m2 fLt (mL fLenB (mCons (mVar 3) mNil)) (mL fLenB (mCons (m2 fIx (mVar 1) (mC (.int 0))) mNil))))
       sNever
       sNil))))
    (sFldV ["Island"] "own_rows" (mVar 0) (mVar 1))))
def f_Island____init__ : List Val → T → R Val := runG 6 m_Island____init__
def r__law_alike (f : MF) : MS :=
  (sSeq (sIf (m1 asB (m1 (fIsi ["dict"]) (mVar 1)))
   (sRet (mAndV (m1 (fIsi ["dict"]) (mVar 0)) (mAndV (mL (fCall f) (mCons (mL fSorted (mCons (mVar 0) mNil)) (mCons (mL fSorted (mCons (mVar 1) mNil)) mNil))) (m2 fEq (mVar 0) (mVar 1)))))
   sNil)
   (sSeq (sIf (m1 asB (m1 (fIsi ["tuple", "list"]) (mVar 1)))
    (sSeq (sIf (mOr (mNot (m1 asB (m1 (fIsi ["tuple", "list"]) (mVar 0)))) (m1 asB (m2 fNe (m1 (fIsi ["list"]) (mVar 0)) (m1 (fIsi ["list"]) (mVar 1)))))
     (sRet (mC (.bl false)))
     sNil)
     (sSeq (sIf (m1 asB (m2 fNe (mL fLenB (mCons (mVar 0) mNil)) (mL fLenB (mCons (mVar 1) mNil))))
      (sRet (mC (.bl false)))
      sNil)
      (sRet (m2 fEq (mL fFz (mLc [2] (gN 2) (mL fRange1 (mCons (mL fLenB (mCons (mVar 1) mNil)) mNil)) (mNot (m1 asB (mL (fCall f) (mCons (m2 fIx (mVar 0) (mVar 2)) (mCons (m2 fIx (mVar 1) (mVar 2)) mNil))))) (mVar 2))) (mL fFz (mL fLen mNil))))))
    sNil)
    (sSeq (sIf (mOr (m1 asB (m2 fIsN (mVar 1) (mC .non))) (m1 asB (m1 (fIsi ["str"]) (mVar 1))))
     (sRet (mAndV (m2 fEq (mVar 0) (mVar 1)) (m2 fEq (m1 (fIsi ["str"]) (mVar 0)) (m1 (fIsi ["str"]) (mVar 1)))))
     sNil)
     (sRet (mAndV (m1 (fIsi ["int"]) (mVar 0)) (mAndV (m2 fEq (m1 (fIsi ["bool"]) (mVar 0)) (m1 (fIsi ["bool"]) (mVar 1))) (m2 fEq (mVar 0) (mVar 1))))))))
def f__law_alike : Nat → MF
  | 0 => fun _ _ => .stuck
  | n + 1 => runF 3 (r__law_alike (f__law_alike n))
def m__law_cells : MS :=
  (sSeq (sSet 1 (mL fFz (mL fLen mNil)))
   (sSeq (sFor (gN 2) (mL fRange1 (mCons (mL fLenB (mCons (mVar 0) mNil)) mNil))
    (sSet 1 (m2 fAdd (mVar 1) (mL fFz (mLc [3] (gN 3) (mL fRange1 (mCons (mL fLenB (mCons (m2 fIx (mVar 0) (mC (.int 0))) mNil)) mNil)) (m1 asB (m2 fNe (m2 fIx (m2 fIx (mVar 0) (mVar 2)) (mVar 3)) (mC (.str "~")))) (mL fTup (mCons (mVar 2) (mCons (mVar 3) mNil))))))))
    (sRet (mVar 1))))
def f__law_cells : MF := runF 4 m__law_cells
def m__law_on : MS :=
  (sSeq (sAsg (gT 2 (gsCons (gN 2) (gsCons (gN 3) gsNil))) (m2 fIx (mL fFz (mL fLen (mCons (mL fTup (mCons (m2 fSub (mC (.int 0)) (mC (.int 1))) (mCons (mC (.int 0)) mNil))) (mCons (mL fTup (mCons (mC (.int 0)) (mCons (mC (.int 1)) mNil))) (mCons (mL fTup (mCons (mC (.int 1)) (mCons (mC (.int 0)) mNil))) (mCons (mL fTup (mCons (mC (.int 0)) (mCons (m2 fSub (mC (.int 0)) (mC (.int 1))) mNil))) mNil)))))) (m2 fMod (mL fIntB (mCons (mVar 1) mNil)) (mC (.int 4)))))
   (sRet (mL fTup (mCons (m2 fAdd (m2 fIx (mVar 0) (mC (.int 0))) (mVar 2)) (mCons (m2 fAdd (m2 fIx (mVar 0) (mC (.int 1))) (mVar 3)) mNil)))))
def f__law_on : MF := runF 4 m__law_on
def m__law_sign : MS :=
  (sSeq (sIf (mOr (mNot (m1 asB (m3c fLe fLt (mC (.int 0)) (m2 fIx (mVar 1) (mC (.int 0))) (mL fLenB (mCons (mVar 0) mNil))))) (mNot (m1 asB (m3c fLe fLt (mC (.int 0)) (m2 fIx (mVar 1) (mC (.int 1))) (mL fLenB (mCons (m2 fIx (mVar 0) (mC (.int 0))) mNil))))))
   (sRet (mC (.str "~")))
   sNil)
   (sRet (m2 fIx (m2 fIx (mVar 0) (m2 fIx (mVar 1) (mC (.int 0)))) (m2 fIx (mVar 1) (mC (.int 1))))))
def f__law_sign : MF := runF 2 m__law_sign
def m__law_far : MS :=
  (sSeq (sPar 2 3 (mCons (mDisp1 (mVar 1) (mC (.int 0))) (mCons (mL fFz (mL fLen (mCons (mVar 1) mNil))) mNil)))
   (sSeq (whileM (m1 asB (m2 fNe (mVar 3) (mL fFz (mL fLen mNil))))
    (sSeq (sSet 4 (mL fNew (mL fLen mNil)))
     (sSeq (sFor (gN 5) (m1 fIter (mVar 3))
      (sFor (gN 6) (mL fRange1 (mCons (mC (.int 4)) mNil))
       (sSeq (sSet 7 (mL (fCall f__law_on) (mCons (mVar 5) (mCons (mVar 6) mNil))))
        (sIf (mAnd (m1 asB (m2 fNe (mL (fCall f__law_sign) (mCons (mVar 0) (mCons (mVar 7) mNil))) (mC (.str "~")))) (m1 asB (m2 fDNotIn (mVar 7) (mVar 2))))
         (sSeq (sDPut (mVar 2) (mVar 7) (m2 fAdd (m2 fDGet (mVar 2) (mVar 5)) (mC (.int 1))))
          (sDrop (mMeth isLstB fAppend (mVar 4) (mCons (mVar 7) mNil))))
         sNil))))
      (sFz 4 (sSet 3 (mVar 4))))) 200)
    (sFzD 2 (sRet (mVar 2)))))
def f__law_far : MF := runF 8 m__law_far
def m__law_mix : MS :=
  (sSeq (sSet 2 (mVar 1))
   (sSeq (sFor (gN 3) (m1 fIter (mVar 0))
    (sSet 2 (m2 fMod (mL fIntB (mCons (m2 fAdd (m2 fAdd (m2 fMul (mVar 2) (mC (.int 48271))) (m2 fMod (mL fIntB (mCons (mVar 3) mNil)) (mC (.int 2147483629)))) (mC (.int 1))) mNil)) (mC (.int 2147483647)))))
    (sRet (mL fNew (mL fLen (mCons (mVar 2) (mCons (mL fNew (mL fListL (mCons (mVar 0) mNil))) (mCons (mC (.int 0)) mNil))))))))
def f__law_mix : List Val → T → R Val := runG 4 m__law_mix
def m__law_next : MS :=
  (sSeq (sSet 2 (m2 fIx (m2 fAdd (m2 fIx (mVar 0) (mC (.int 1))) (mL fFz (mL fLen (mCons (mC (.int 0)) mNil)))) (m2 fMod (mL fIntB (mCons (m2 fIx (mVar 0) (mC (.int 2))) mNil)) (mL fMax2 (mCons (mC (.int 1)) (mCons (mL fLenB (mCons (m2 fIx (mVar 0) (mC (.int 1))) mNil)) mNil))))))
   (sSeq (sIf (m1 asB (m2 fGe (mVar 2) (m2 fPow (mC (.int 10)) (mC (.int 18)))))
    (sSeq (sSub (m2 fIx (mVar 0) (mC (.int 1))) (m2 fMod (mL fIntB (mCons (m2 fIx (mVar 0) (mC (.int 2))) mNil)) (mL fLenB (mCons (m2 fIx (mVar 0) (mC (.int 1))) mNil))) (m2 fDiv (mVar 2) (mVar 1)))
     (sRet (m2 fMod (mL fIntB (mCons (mVar 2) mNil)) (mVar 1))))
    sNil)
    (sSeq (sSub (mVar 0) (mC (.int 0)) (m2 fMod (mL fIntB (mCons (m2 fAdd (m2 fAdd (m2 fMul (m2 fIx (mVar 0) (mC (.int 0))) (mC (.int 48271))) (m2 fMul (mVar 2) (mC (.int 69621)))) (mC (.int 11))) mNil)) (mC (.int 2147483647))))
     (sSeq (sSub (mVar 0) (mC (.int 2)) (m2 fAdd (m2 fIx (mVar 0) (mC (.int 2))) (mC (.int 1))))
      (sRet (m2 fMod (mL fIntB (mCons (m2 fDiv (m2 fIx (mVar 0) (mC (.int 0))) (mC (.int 7))) mNil)) (mVar 1)))))))
def f__law_next : List Val → T → R Val := runG 3 m__law_next
def m__law_orders : MS :=
  (sSeq (sSet 1 (mL fFz (mL fLen (mCons (mL fTup mNil) mNil))))
   (sSeq (sFor (gN 2) (m1 fIter (mVar 0))
    (sSeq (sSet 3 (mL fFz (mL fLen mNil)))
     (sSeq (sFor (gN 4) (m1 fIter (mVar 1))
      (sSet 3 (m2 fAdd (mVar 3) (mL fFz (mLc [5] (gN 5) (mL fRange1 (mCons (m2 fAdd (mL fLenB (mCons (mVar 4) mNil)) (mC (.int 1))) mNil)) mYes (m2 fAdd (m2 fAdd (mSl (mVar 4) mNoPart (m1 asPart (mVar 5))) (mL fTup (mCons (mVar 2) mNil))) (mSl (mVar 4) (m1 asPart (mVar 5)) mNoPart)))))))
      (sSet 1 (mVar 3)))))
    (sRet (mL fSorted (mCons (mVar 1) mNil)))))
def f__law_orders : MF := runF 6 m__law_orders
def m__law_total : MS :=
  (sSeq (sPar3 4 5 6 (mCons (mC (.int 0)) (mCons (mC (.int 0)) (mCons (mVar 1) mNil))))
   (sSeq (sFor (gN 7) (m1 fIter (mVar 2))
    (sSeq (sPar 4 6 (mCons (m2 fAdd (mVar 4) (m2 fDGet (m2 fDGet (mVar 0) (mVar 6)) (mVar 7))) (mCons (mVar 7) mNil)))
     (sSet 5 (m2 fAdd (mVar 5) (m2 fMul (mVar 4) (m2 fDGet (mVar 3) (mVar 7)))))))
    (sRet (mVar 5))))
def f__law_total : MF := runF 8 m__law_total
def m_Island____contains__ : MS :=
  (sSeq (sAsg (gT 2 (gsCons (gN 2) (gsCons (gN 3) gsNil))) (mVar 1))
   (sSeq (sIf (mOr (mNot (m1 asB (m3c fLe fLt (mC (.int 0)) (mVar 2) (mL fLenB (mCons (m1 (fFld ["Island"] "own_rows") (mVar 0)) mNil))))) (mNot (m1 asB (m3c fLe fLt (mC (.int 0)) (mVar 3) (mL fLenB (mCons (m2 fIx (m1 (fFld ["Island"] "own_rows") (mVar 0)) (mC (.int 0))) mNil))))))
    (sRet (mC (.bl false)))
    sNil)
    (sRet (m2 fNe (m2 fIx (m2 fIx (m1 (fFld ["Island"] "own_rows") (mVar 0)) (mVar 2)) (mVar 3)) (mC d_WATER)))))
def f_Island____contains__ : MF := runF 4 m_Island____contains__
def m_validate_cell : MS :=
  (sIf (m1 asB (m2 (fInO "Island" f_Island____contains__ true) (mVar 1) (mVar 0)))
   sNever
   sNil)
def f_validate_cell : MF := runF 2 m_validate_cell
def m_neighbors : MS :=
  (sSeq (sSet 2 (mL (if false then fNew else fFz) (mLc [3, 4] (gT 2 (gsCons (gN 3) (gsCons (gN 4) gsNil))) (m1 fIter (mC d_MOVES)) mYes (mL fTup (mCons (m2 fAdd (m2 fIx (mVar 1) (mC (.int 0))) (mVar 3)) (mCons (m2 fAdd (m2 fIx (mVar 1) (mC (.int 1))) (mVar 4)) mNil))))))
   (sRet (mL fSorted (mCons (mL fFz (mLc [5] (gN 5) (m1 fIter (mVar 2)) (m1 asB (m2 (fInO "Island" f_Island____contains__ false) (mVar 5) (mVar 0))) (mVar 5))) mNil))))
def f_neighbors : MF := runF 6 m_neighbors
def m_distances : MS :=
  (sSeq (sPar 2 3 (mCons (mDisp1 (mVar 1) (mC (.int 0))) (mCons (mL fFz (mL fLen (mCons (mVar 1) mNil))) mNil)))
   (sSeq (whileM (m1 asB (m2 fNe (mVar 3) (mL fFz (mL fLen mNil))))
    (sSeq (sSet 4 (mL fNew (mL fLen mNil)))
     (sSeq (sFor (gN 5) (m1 fIter (mVar 3))
      (sFor (gN 6) (m1 fIter (mL (fCall f_neighbors) (mCons (mVar 0) (mCons (mVar 5) mNil))))
       (sIf (m1 asB (m2 fDNotIn (mVar 6) (mVar 2)))
        (sSeq (sDPut (mVar 2) (mVar 6) (m2 fAdd (m2 fDGet (mVar 2) (mVar 5)) (mC (.int 1))))
         (sDrop (mMeth isLstB fAppend (mVar 4) (mCons (mVar 6) mNil))))
        sNil)))
      (sFz 4 (sSet 3 (mVar 4))))) 200)
    (sFzD 2 (sRet (mVar 2)))))
def f_distances : MF := runF 7 m_distances
def m_Waits____init__ : MS :=
  (sSeq (sFldV ["Waits"] "heavy" (mVar 0) (mVar 3))
   (sSeq (sFldV ["Waits"] "tables" (mVar 0) (fDFz (mDc [4] (gN 4) (m1 fIter (mL fFz (mL fLen (mCons (mVar 2) (mStarT (mVar 3) mNil))))) mYes (mVar 4) (mL (fCall f_distances) (mCons (mVar 1) (mCons (mVar 4) mNil))))))
    (sFldV ["Waits"] "known" (mVar 0) mDNewT)))
def f_Waits____init__ : List Val → T → R Val := runG 5 m_Waits____init__
def r_Waits__totals (f : MG) : MS :=
  (sSeq (sPar 3 4 (mCons (mL fSum1 (mCons (mL fFz (mLc [5] (gN 5) (m1 fIter (mVar 2)) mYes (m2 fDGet (m1 (fFld ["Waits"] "heavy") (mVar 0)) (mVar 5)))) mNil)) (mCons (mL fNew (mL fLen mNil)) mNil)))
   (sSeq (sFor (gN 5) (m1 fIter (mVar 2))
    (sSeq (sSet 6 (mL fTuple (mCons (mL fFz (mLc [7] (gN 7) (m1 fIter (mVar 2)) (m1 asB (m2 fNe (mVar 7) (mVar 5))) (mVar 7))) mNil)))
     (sDrop (mMeth isLstB fAppend (mVar 4) (mCons (mL fTup (mCons (m2 fAdd (m2 fMul (m2 fDGet (m2 fDGet (m1 (fFld ["Waits"] "tables") (mVar 0)) (mVar 1)) (mVar 5)) (mVar 3)) (mMethG "Waits" "least" f (mVar 0) (mCons (mVar 5) (mCons (mVar 6) mNil)))) (mCons (mVar 5) mNil))) mNil)))))
    (sFz 4 (sRet (mVar 4)))))
def f_Waits__totals (f : MG) : MG := runG 8 (r_Waits__totals f)
def r_Waits__least (f : MG) : MS :=
  (sSeq (sIf (m1 asB (m2 fEq (mVar 2) (mL fTup mNil)))
   (sRet (mC (.int 0)))
   sNil)
   (sSeq (sIf (m1 asB (m2 fDNotIn (mL fTup (mCons (mVar 1) (mCons (mVar 2) mNil))) (m1 (fFld ["Waits"] "known") (mVar 0))))
    (sDPut (m1 (fFld ["Waits"] "known") (mVar 0)) (mL fTup (mCons (mVar 1) (mCons (mVar 2) mNil))) (mL fMin1 (mCons (mL fFz (mLc [3, 4] (gT 2 (gsCons (gN 3) (gsCons (gN 4) gsNil))) (m1 fIter (mMethG "Waits" "totals" (f_Waits__totals f) (mVar 0) (mCons (mVar 1) (mCons (mVar 2) mNil)))) mYes (mVar 3))) mNil)))
    sNil)
    (sRet (m2 fDGet (m1 (fFld ["Waits"] "known") (mVar 0)) (mL fTup (mCons (mVar 1) (mCons (mVar 2) mNil)))))))
def f_Waits__least : Nat → MG
  | 0 => fun _ _ => .stuck
  | n + 1 => runG 5 (r_Waits__least (f_Waits__least n))
def m_waited : MS :=
  (sSeq (sIf (m1 asB (m2 fGt (mL fLenT (mCons (mVar 2) mNil)) (mC d_MAX_GOALS)))
   sNever
   sNil)
   (sSeq (sAsgT (gsCons (gN 3) (gsCons (gN 4) gsNil)) 2 (mCons (mL (fMakeG "Waits" f_Waits____init__) (mCons (mVar 0) (mCons (mVar 1) (mCons (mVar 2) mNil)))) (mCons (mL fTuple (mCons (mL fSortedT (mCons (mVar 2) mNil)) mNil)) mNil)))
    (sSeq (sIf (m1 asB (m2 fNe (mL fFz (mLc [9] (gN 9) (m1 fIter (mVar 4)) (m1 asB (m2 fDNotIn (mVar 9) (m2 fDGet (m1 (fFld ["Waits"] "tables") (mVar 3)) (mVar 1)))) (mVar 9))) (mL fFz (mL fLen mNil))))
     (sRet (mC .non))
     sNil)
     (sSeq (sAsgT (gsCons (gN 5) (gsCons (gN 6) (gsCons (gN 7) gsNil))) 3 (mCons (mMethG "Waits" "least" (f_Waits__least 8) (mVar 3) (mCons (mVar 1) (mCons (mVar 4) mNil))) (mCons (mL fNew (mL fLen mNil)) (mCons (mVar 1) mNil))))
      (sSeq (whileM (m1 asB (m2 fNe (mVar 4) (mL fTup mNil)))
       (sSeq (sSet 8 (mMethG "Waits" "least" (f_Waits__least 8) (mVar 3) (mCons (mVar 7) (mCons (mVar 4) mNil))))
        (sSeq (sSet 7 (m2 fIx (mL fFz (mLc [10, 11] (gT 2 (gsCons (gN 10) (gsCons (gN 11) gsNil))) (m1 fIter (mMethG "Waits" "totals" (f_Waits__totals (f_Waits__least 8)) (mVar 3) (mCons (mVar 7) (mCons (mVar 4) mNil)))) (m1 asB (m2 fEq (mVar 10) (mVar 8))) (mVar 11))) (mC (.int 0))))
         (sSeq (sDrop (mMeth isLstB fAppend (mVar 6) (mCons (mVar 7) mNil)))
          (sSet 4 (mL fTuple (mCons (mL fFz (mLc [11] (gN 11) (m1 fIter (mVar 4)) (m1 asB (m2 fNe (mVar 11) (mVar 7))) (mVar 11))) mNil)))))) 9)
       (sFz 6 (sRet (mL fTup (mCons (mVar 5) (mCons (mVar 6) mNil))))))))))
def f_waited : MF := runF 12 m_waited
def m_dig_walk : MS :=
  (sSeq (sDrop (mL (fCall f_validate_cell) (mCons (mVar 0) (mCons (mVar 1) mNil))))
   (sSeq (sFor (gN 3) (m1 fIter (mVar 2))
    (sDrop (mL (fCall f_validate_cell) (mCons (mVar 0) (mCons (mVar 3) mNil)))))
    (sRet (mL (fCall f_waited) (mCons (mVar 0) (mCons (mVar 1) (mCons (fDFz (mDc [3] (gN 3) (m1 fIter (mVar 2)) mYes (mVar 3) (mC (.int 1)))) mNil)))))))
def f_dig_walk : MF := runF 4 m_dig_walk
def m_is_number : MS :=
  (sRet (mAndV (m1 (fIsi ["int"]) (mVar 0)) (mAndV (mNotV (m1 (fIsi ["bool"]) (mVar 0))) (m3c fLe fLe (mVar 1) (mVar 0) (mVar 2)))))
def f_is_number : MF := runF 3 m_is_number
def m_weighed_walk : MS :=
  (sSeq (sDrop (mL (fCall f_validate_cell) (mCons (mVar 0) (mCons (mVar 1) mNil))))
   (sSeq (sFor (gN 3) (m1 fDKeysT (mVar 2))
    (sDrop (mL (fCall f_validate_cell) (mCons (mVar 0) (mCons (mVar 3) mNil)))))
    (sSeq (sIf (m1 asB (m2 fNe (mL fFz (mLc [4] (gN 4) (m1 fDValsT (mVar 2)) (mNot (m1 asB (mL (fCall f_is_number) (mCons (mVar 4) (mCons (mC (.int 1)) (mCons (mC d_MAX_WEIGHT) mNil)))))) (mVar 4))) (mL fFz (mL fLen mNil))))
     sNever
     sNil)
     (sRet (mL (fCall f_waited) (mCons (mVar 0) (mCons (mVar 1) (mCons (mVar 2) mNil))))))))
def f_weighed_walk : MF := runF 5 m_weighed_walk
def m_law : MS :=
  (sSeq (sSet 1 (mL (fBegun bg_law_mix) (mCons (mVar 0) (mCons (mC (.int 91)) mNil))))
   (sSeq (sPar 2 3 (mCons (m2 fAdd (mC (.int 3)) (mL (fDraw drNext) (mCons (mVar 1) (mCons (mC (.int 2)) mNil)))) (mCons (m2 fAdd (mC (.int 3)) (mL (fDraw drNext) (mCons (mVar 1) (mCons (mC (.int 2)) mNil)))) mNil)))
    (sSeq (sSet 4 (mL fNew (mL fLen mNil)))
     (sSeq (sFor (gN 5) (mL fRange1 (mCons (mVar 2) mNil))
      (sDrop (mMeth isLstB fAppend (mVar 4) (mCons (mMeth isStrB fJoin (mC (.str "")) (mCons (mL fFz (mLc [19] (gN 19) (mL fRange1 (mCons (mVar 3) mNil)) mYes (m2 fIx (mL fFz (mL fLen (mCons (mC (.str ".")) (mCons (mC (.str "A")) mNil)))) (mL (fDraw drNext) (mCons (mVar 1) (mCons (mC (.int 2)) mNil)))))) mNil)) mNil))))
      (sFz 4 (sSeq (sSet 4 (mL fTuple (mCons (mVar 4) mNil)))
       (sSeq (sPar 6 7 (mCons (mL (fMake "Island" f_Island____init__) (mCons (mVar 4) mNil)) (mCons (mL (fCall f__law_cells) (mCons (mVar 4) mNil)) mNil)))
        (sSeq (sPar3 8 9 10 (mCons (m2 fIx (mVar 7) (mL (fDraw drNext) (mCons (mVar 1) (mCons (mL fLenB (mCons (mVar 7) mNil)) mNil)))) (mCons (mL fNew (mL fListL (mCons (mVar 7) mNil))) (mCons (mL fNew (mL fLen mNil)) mNil))))
         (sSeq (whileM (m1 asB (m2 fLt (mL fLenB (mCons (mVar 10) mNil)) (mC (.int 6))))
          (sDrop (mMeth isLstB fAppend (mVar 10) (mCons (mMeth isLstB fPopAt (mVar 9) (mCons (mL (fDraw drNext) (mCons (mVar 1) (mCons (mL fLenB (mCons (mVar 9) mNil)) mNil))) mNil)) mNil))) 7)
          (sFz 10 (sSeq (sSet 10 (mL fTuple (mCons (mL fSorted (mCons (mVar 10) mNil)) mNil)))
           (sSeq (sSet 11 (fDFz (mDictL (mCons (mL fFz (mLc [20] (gN 20) (m1 fIter (m2 fAdd (mVar 10) (mL fTup (mCons (mVar 8) mNil)))) mYes (mL fTup (mCons (mVar 20) (mCons (mL (fCall f__law_far) (mCons (mVar 4) (mCons (mVar 20) mNil))) mNil))))) mNil))))
            (sSeq (sSet 12 (fDFz (mDictL (mCons (mL fFz (mLc [20] (gN 20) (m1 fIter (mVar 10)) mYes (mL fTup (mCons (mVar 20) (mCons (mC (.int 1)) mNil))))) mNil))))
             (sSeq (sSet 13 (fDFz (mDictL (mCons (mL fFz (mLc [20] (gN 20) (m1 fIter (mVar 10)) mYes (mL fTup (mCons (mVar 20) (mCons (m2 fAdd (mC (.int 1)) (mL (fDraw drNext) (mCons (mVar 1) (mCons (m2 fIx (mL fFz (mL fLen (mCons (mC (.int 2)) (mCons (m2 fPow (mC (.int 10)) (mC (.int 9))) mNil)))) (mL (fDraw drNext) (mCons (mVar 1) (mCons (mC (.int 2)) mNil)))) mNil)))) mNil))))) mNil))))
              (sSeq (sAsgT (gsCons (gN 14) (gsCons (gN 15) gsNil)) 2 (mCons (mC .non) (mCons (mC .non) mNil)))
               (sSeq (sFor (gN 16) (m1 fIter (mL (fCall f__law_orders) (mCons (mVar 10) mNil)))
                (sSeq (sPar 17 18 (mCons (mL (fCall f__law_total) (mCons (mVar 11) (mCons (mVar 8) (mCons (mVar 16) (mCons (mVar 12) mNil))))) (mCons (mL (fCall f__law_total) (mCons (mVar 11) (mCons (mVar 8) (mCons (mVar 16) (mCons (mVar 13) mNil))))) mNil)))
                 (sSeq (sSet 14 (mIf (mOr (m1 asB (m2 fIsN (mVar 14) (mC .non))) (m1 asB (m2 fLt (mVar 17) (m2 fIx (mVar 14) (mC (.int 0)))))) (mL fTup (mCons (mVar 17) (mCons (mVar 16) mNil))) (mVar 14)))
                  (sSet 15 (mIf (mOr (m1 asB (m2 fIsN (mVar 15) (mC .non))) (m1 asB (m2 fLt (mVar 18) (m2 fIx (mVar 15) (mC (.int 0)))))) (mL fTup (mCons (mVar 18) (mCons (mVar 16) mNil))) (mVar 15))))))
                (sSeq (sIf (mNot (m1 asB (mL (fCall (f__law_alike 6)) (mCons (mL (fCall f_dig_walk) (mCons (mVar 6) (mCons (mVar 8) (mCons (mVar 10) mNil)))) (mCons (mL fTup (mCons (m2 fIx (mVar 14) (mC (.int 0))) (mCons (mL fFz (mL fListL (mCons (m2 fIx (mVar 14) (mC (.int 1))) mNil))) mNil))) mNil)))))
                 (sRet (mC (.bl false)))
                 sNil)
                 (sRet (mL (fCall (f__law_alike 6)) (mCons (mL (fCall f_weighed_walk) (mCons (mVar 6) (mCons (mVar 8) (mCons (mVar 13) mNil)))) (mCons (mL fTup (mCons (m2 fIx (mVar 15) (mC (.int 0))) (mCons (mL fFz (mL fListL (mCons (m2 fIx (mVar 15) (mC (.int 1))) mNil))) mNil))) mNil)))))))))))))))))))))
def f_law : MF := runF 21 m_law
end
end K91
set_option Elab.async false
set_option linter.all false
set_option maxRecDepth 100000
set_option maxHeartbeats 2000000
namespace En
open PySem PySem.Spec PyProof.Rows L2
theorem datas_map (ds : List D) : datas (ds.map Val.d) = some ds := by
  induction ds with
  | nil => rfl
  | cons d ds ih => simp only [List.map_cons, datas, ih]
theorem dints_eq (ns : List Int) : dints ns = (ns.map D.int).map Val.d := by simp [dints]
theorem dints_len (ns : List Int) : (dints ns).length = ns.length := by simp [dints]
theorem ixN_of {n : Nat} {i : Int} (h0 : 0 ≤ i) (h : i < n) : ixN n i = some i.toNat := by
  unfold ixN
  rw [if_pos h0, if_pos h]
theorem atI_of {α : Type} {xs : List α} {i : Int} (h0 : 0 ≤ i) (h : i < xs.length) : atI xs i = xs[i.toNat]? := by
  unfold atI
  rw [ixN_of h0 h]
  rfl
theorem mVar_eq {i : Nat} {v : Val} {ρ : Rho} {t : T} (h : ρ[i]? = some (some v)) : mVar i ρ t = .ok v t := by
  unfold mVar
  rw [h]
def m_next : MS :=
  (sSeq (sSet 2 (m2 fIx (m2 fAdd (m2 fIx (mVar 0) (mC (.int 1))) (mL fFz (mL fLen (mCons (mC (.int 0)) mNil)))) (m2 fMod (mL fIntB (mCons (m2 fIx (mVar 0) (mC (.int 2))) mNil)) (mL fMax2 (mCons (mC (.int 1)) (mCons (mL fLenB (mCons (m2 fIx (mVar 0) (mC (.int 1))) mNil)) mNil))))))
   (sSeq (sIf (m1 asB (m2 fGe (mVar 2) (m2 fPow (mC (.int 10)) (mC (.int 18)))))
    (sSeq (sSub (m2 fIx (mVar 0) (mC (.int 1))) (m2 fMod (mL fIntB (mCons (m2 fIx (mVar 0) (mC (.int 2))) mNil)) (mL fLenB (mCons (m2 fIx (mVar 0) (mC (.int 1))) mNil))) (m2 fDiv (mVar 2) (mVar 1)))
     (sRet (m2 fMod (mL fIntB (mCons (mVar 2) mNil)) (mVar 1))))
    sNil)
    (sSeq (sSub (mVar 0) (mC (.int 0)) (m2 fMod (mL fIntB (mCons (m2 fAdd (m2 fAdd (m2 fMul (m2 fIx (mVar 0) (mC (.int 0))) (mC (.int 48271))) (m2 fMul (mVar 2) (mC (.int 69621)))) (mC (.int 11))) mNil)) (mC (.int 2147483647))))
     (sSeq (sSub (mVar 0) (mC (.int 2)) (m2 fAdd (m2 fIx (mVar 0) (mC (.int 2))) (mC (.int 1))))
      (sRet (m2 fMod (mL fIntB (mCons (m2 fDiv (m2 fIx (mVar 0) (mC (.int 0))) (mC (.int 7))) mNil)) (mVar 1)))))))
theorem drCell_ix (b : Box) : (0 : Int) ≤ b.ix % max 1 (b.ns.length : Int) ∧ b.ix % max 1 (b.ns.length : Int) < ((b.ns ++ [0]).length : Nat) := by
  have h1 : (0 : Int) < max 1 (b.ns.length : Int) := by omega
  have h2 := Int.emod_nonneg b.ix (show max 1 (b.ns.length : Int) ≠ 0 by omega)
  have h3 := Int.emod_lt_of_pos b.ix h1
  refine ⟨h2, ?_⟩
  simp only [List.length_append, List.length_cons, List.length_nil]
  omega
theorem max2_eq (i j : Int) : (if j > i then j else i) = max i j := by
  simp only [Int.max_def]
  split <;> split <;> omega
theorem R.bind_ok {α β : Type} (a : α) (t : T) (f : α → T → R β) : (R.ok a t).bind f = f a t := rfl
theorem R.toS_ok {α : Type} (a : α) (t : T) (ρ : Rho) (f : α → T → RS) : (R.ok a t).toS ρ f = f a t := rfl
def BT (b : Box) : T := ⟨[.lst (dints b.ns), .lst [.d (.int b.st), .loc 0, .d (.int b.ix)]], box0⟩
theorem boxCells_f {b : Box} (hv : b.v = false) : (⟨boxCells b, box0⟩ : T) = BT b := by
  unfold boxCells BT
  rw [hv] <;> rfl
section
variable {b : Box} {n : Int}
theorem bt_ix0 : fIx (.loc 1) (.d (.int 0)) (BT b) = .ok (.d (.int b.st)) (BT b) := rfl
theorem bt_ix1 : fIx (.loc 1) (.d (.int 1)) (BT b) = .ok (.loc 0) (BT b) := rfl
theorem bt_ix2 : fIx (.loc 1) (.d (.int 2)) (BT b) = .ok (.d (.int b.ix)) (BT b) := rfl
theorem bt_len : fLenB [.loc 0] (BT b) = .ok (.d (.int (b.ns.length : Int))) (BT b) := by
  show retI ((dints b.ns).length : Nat) _ = _
  rw [dints_len] <;> rfl
theorem bt_add (hl : b.ns.length ≤ 1000) : fAdd (.loc 0) (.d (.lst [.int 0])) (BT b) = .ok (.d (.lst ((b.ns ++ [0]).map D.int))) (BT b) := by
  show (if (dints b.ns).length + 1 ≤ lim then _ else _) = _
  rw [dints_len, if_pos (by show b.ns.length + 1 ≤ 100000; omega)]
  have e1 : dints b.ns ++ [Val.d (.int 0)] = ((b.ns ++ [0]).map D.int).map Val.d := by simp [dints]
  show (match datas (dints b.ns ++ [Val.d (.int 0)]) with | some ds => _ | none => _) = _
  rw [e1, datas_map]
theorem max2_ok {i j : Int} {t : T} : fMax2 [.d (.int i), .d (.int j)] t = .ok (.d (.int (max i j))) t := by
  show retI _ _ = _
  rw [max2_eq] <;> rfl
theorem mod_ok {i j : Int} {t : T} (h : 0 < j) : fMod (.d (.int i)) (.d (.int j)) t = .ok (.d (.int (i % j))) t := by
  show (if decide ((0 : Int) < j) = true then _ else _) = _
  rw [if_pos (decide_eq_true h)] <;> rfl
theorem div_ok {i j : Int} {t : T} (h : 0 < j) (h2 : j < 1073741824) : fDiv (.d (.int i)) (.d (.int j)) t = .ok (.d (.int (i / j))) t := by
  show (if cDiv i j = true then _ else _) = _
  rw [if_pos (by unfold cDiv; simp [h, h2])] <;> rfl
theorem mul_ok {i j : Int} {t : T} (h : cMul i j = true) : fMul (.d (.int i)) (.d (.int j)) t = .ok (.d (.int (i * j))) t := by
  show (if cMul i j = true then _ else _) = _
  rw [if_pos h] <;> rfl
theorem add_ok {i j : Int} {t : T} : fAdd (.d (.int i)) (.d (.int j)) t = .ok (.d (.int (i + j))) t := rfl
theorem sub_ok {i j : Int} {t : T} : fSub (.d (.int i)) (.d (.int j)) t = .ok (.d (.int (i - j))) t := rfl
theorem int_ok' {i : Int} {t : T} : fIntB [.d (.int i)] t = .ok (.d (.int i)) t := rfl
theorem ge_ok {i j : Int} {t : T} : fGe (.d (.int i)) (.d (.int j)) t = .ok (.d (.bl (decide (j ≤ i)))) t := rfl
theorem pow_ok (t : T) : fPow (.d (.int 10)) (.d (.int 18)) t = .ok (.d (.int (10 ^ 18))) t := by
  have h : cPow 10 18 = true := by decide
  unfold fPow fInt2
  simp only [h, if_true]
  rfl
theorem fLen_ok {vs : List Val} {t : T} (h : vs.length ≤ lim) : fLen vs t = .ok vs t := if_pos h
theorem fz0_ok (t : T) : fFz [.d (.int 0)] t = .ok (.d (.lst [.int 0])) t := rfl
theorem len1_ok (v : Val) (t : T) : fLen [v] t = .ok [v] t := rfl
theorem ixl_ok {ds : List D} {i : Int} {t : T} (h0 : 0 ≤ i) (h : i < ds.length) : fIx (.d (.lst ds)) (.d (.int i)) t = .ok (.d (ds.getD i.toNat .non)) t := by
  show (match atI (ds.map Val.d) i with | some v => _ | none => _) = _
  rw [atI_of h0 (by simpa using h)]
  have h3 : i.toNat < ds.length := by omega
  rw [List.getElem?_map, List.getD_eq_getElem?_getD, List.getElem?_eq_getElem h3]
  rfl
theorem ixt_ok {ds : List D} {i : Int} {t : T} (h0 : 0 ≤ i) (h : i < ds.length) : fIx (.d (.tup ds)) (.d (.int i)) t = .ok (.d (ds.getD i.toNat .non)) t := by
  show (match atI (ds.map Val.d) i with | some v => _ | none => _) = _
  rw [atI_of h0 (by simpa using h)]
  have h3 : i.toNat < ds.length := by omega
  rw [List.getElem?_map, List.getD_eq_getElem?_getD, List.getElem?_eq_getElem h3]
  rfl
theorem bt_cell : fIx (.d (.lst ((b.ns ++ [0]).map D.int))) (.d (.int (b.ix % max 1 (b.ns.length : Int)))) (BT b) = .ok (.d (.int (drCell b))) (BT b) := by
  obtain ⟨h1, h2⟩ := drCell_ix b
  rw [ixl_ok h1 (by simpa using h2)]
  have h3 : (b.ix % max 1 (b.ns.length : Int)).toNat < (b.ns ++ [0]).length := by omega
  rw [List.getD_eq_getElem?_getD, List.getElem?_map]
  unfold drCell
  rw [List.getD_eq_getElem?_getD, List.getElem?_eq_getElem h3]
  rfl
theorem bt_st0 : (BT b).st[0]? = some (.lst (dints b.ns)) := rfl
theorem bt_st1 : (BT b).st[1]? = some (.lst [.d (.int b.st), .loc 0, .d (.int b.ix)]) := rfl
theorem bt_put0 {k : Nat} {v : Int} : putL 0 ((dints b.ns).set k (.d (.int v))) (BT b) = BT { b with ns := b.ns.set k v } := by
  unfold putL BT
  have e : (dints b.ns).set k (.d (.int v)) = dints (b.ns.set k v) := by simp [dints, List.map_set]
  rw [e] <;> rfl
theorem bt_put1 {s i : Int} : putL 1 [.d (.int s), .loc 0, .d (.int i)] (BT b) = BT { b with st := s, ix := i } := rfl
theorem ixN_30 : ixN 3 0 = some 0 := rfl
theorem ixN_32 : ixN 3 2 = some 2 := rfl
theorem asB_ok (k : Bool) (t : T) : asB (.d (.bl k)) t = .ok k t := rfl
end
theorem drNextOk0 : DrawOk drNext (runG 3 m_next) := by
  intro b n hv hn hl
  have hv' : b.v = false := hv
  have hb : BT b = ⟨boxCells b, box0⟩ := (boxCells_f hv').symm
  unfold okN at hn
  simp only [Bool.and_eq_true, decide_eq_true_eq] at hn
  obtain ⟨hn0, hn1⟩ := hn
  have hmax : (0 : Int) < max 1 (b.ns.length : Int) := by omega
  have c1 : cMul b.st 48271 = true := by simp [cMul]
  have c2 : cMul (drCell b) 69621 = true := by simp [cMul]
  by_cases hc : (10 : Int) ^ 18 ≤ drCell b
  · have hg : drNext.go b n = (drCell b % n, { b with ns := b.ns.set (b.ix % (b.ns.length : Int)).toNat (drCell b / n) }) := by
      show (if _ then _ else _) = _
      rw [if_pos hc]
    rw [hg]
    have hlen : 0 < b.ns.length := by
      rcases Nat.eq_zero_or_pos b.ns.length with z | z
      · exfalso
        have e : b.ns = [] := List.eq_nil_of_length_eq_zero z
        have : drCell b = 0 := by
          unfold drCell
          rw [e]
          have z1 : b.ix % max 1 ((([] : List Int).length : Nat) : Int) = 0 := by
            show b.ix % 1 = 0
            exact Int.emod_one _
          rw [z1]
          rfl
        rw [this] at hc
        exact absurd hc (by decide)
      · exact z
    have hlen' : (0 : Int) < (b.ns.length : Int) := by omega
    refine ⟨?_, rfl, rfl⟩
    have hb2 : (⟨boxCells { b with ns := b.ns.set (b.ix % (b.ns.length : Int)).toNat (drCell b / n) }, box0⟩ : T) = BT { b with ns := b.ns.set (b.ix % (b.ns.length : Int)).toNat (drCell b / n) } := boxCells_f hv'
    rw [hb2, ← hb]
    have hx := Int.emod_nonneg b.ix (show (b.ns.length : Int) ≠ 0 by omega)
    have hy := Int.emod_lt_of_pos b.ix hlen'
    unfold runG m_next
    simp only [List.map_cons, List.map_nil, List.length_cons, List.length_nil, List.replicate, List.cons_append, List.nil_append, sSeq, sSet, sIf, sSub, sRet, sNil, m2, m1, mL, mCons, mNil, mC, mVar, List.getElem?_cons_zero, List.getElem?_cons_succ, R.bind_ok, R.toS_ok, bt_ix0, bt_ix1, bt_ix2, bt_len, len1_ok, fz0_ok, int_ok', max2_ok, mod_ok hmax, mod_ok hlen', mod_ok hn0, div_ok hn0 hn1, bt_add hl, bt_cell, List.set_cons_succ, List.set_cons_zero, pow_ok, ge_ok, asB_ok, decide_eq_true hc, if_true]
    simp only [bt_st0, dints_len, ixN_of hx hy, bt_put0, List.getElem?_cons_zero, List.getElem?_cons_succ, R.bind_ok, R.toS_ok, int_ok', mod_ok hn0]
  · have hg : drNext.go b n = (((b.st * 48271 + drCell b * 69621 + 11) % 2147483647) / 7 % n, { b with st := (b.st * 48271 + drCell b * 69621 + 11) % 2147483647, ix := b.ix + 1 }) := by
      show (if _ then _ else _) = _
      rw [if_neg hc]
    rw [hg]
    refine ⟨?_, rfl, rfl⟩
    have hb2 : (⟨boxCells { b with st := (b.st * 48271 + drCell b * 69621 + 11) % 2147483647, ix := b.ix + 1 }, box0⟩ : T) = BT { b with st := (b.st * 48271 + drCell b * 69621 + 11) % 2147483647, ix := b.ix + 1 } := boxCells_f hv'
    rw [hb2, ← hb]
    have hk : (0 : Int) < 2147483647 := by decide
    have h7 : (0 : Int) < 7 := by decide
    have h71 : (7 : Int) < 1073741824 := by decide
    unfold runG m_next
    simp only [List.map_cons, List.map_nil, List.length_cons, List.length_nil, List.replicate, List.cons_append, List.nil_append, sSeq, sSet, sIf, sSub, sRet, sNil, m2, m1, mL, mCons, mNil, mC, mVar, List.getElem?_cons_zero, List.getElem?_cons_succ, R.bind_ok, R.toS_ok, bt_ix0, bt_ix1, bt_ix2, bt_len, len1_ok, fz0_ok, int_ok', max2_ok, mod_ok hmax, mod_ok hk, mod_ok hn0, div_ok hn0 hn1, div_ok h7 h71, bt_add hl, bt_cell, List.set_cons_succ, List.set_cons_zero, pow_ok, ge_ok, asB_ok, decide_eq_false hc, Bool.false_eq_true, if_false, mul_ok c1, mul_ok c2, add_ok, bt_st1, Nat.zero_add, Nat.reduceAdd, ixN_30, ixN_32, bt_put1]
def m_mix : MS :=
  (sSeq (sSet 2 (mVar 1))
   (sSeq (sFor (gN 3) (m1 fIter (mVar 0))
    (sSet 2 (m2 fMod (mL fIntB (mCons (m2 fAdd (m2 fAdd (m2 fMul (mVar 2) (mC (.int 48271))) (m2 fMod (mL fIntB (mCons (mVar 3) mNil)) (mC (.int 2147483629)))) (mC (.int 1))) mNil)) (mC (.int 2147483647)))))
    (sRet (mL fNew (mL fLen (mCons (mVar 2) (mCons (mL fNew (mL fListL (mCons (mVar 0) mNil))) (mCons (mC (.int 0)) mNil))))))))
theorem mix_loop {s sd : Option Val} {t : T} : ∀ (ns : List Int) (st : Int) (o : Option Val), ∃ o', forM (gN 3) (sSet 2 (m2 fMod (mL fIntB (mCons (m2 fAdd (m2 fAdd (m2 fMul (mVar 2) (mC (.int 48271))) (m2 fMod (mL fIntB (mCons (mVar 3) mNil)) (mC (.int 2147483629)))) (mC (.int 1))) mNil)) (mC (.int 2147483647)))) (ns.map fun n => .d (.int n)) [s, sd, some (.d (.int st)), o] t = .nx [s, sd, some (.d (.int (mixSt ns st))), o'] t
  | [], st, o => ⟨o, rfl⟩
  | n :: ns, st, o => by
    obtain ⟨o', h⟩ := mix_loop (s := s) (sd := sd) (t := t) ns ((st * 48271 + n % 2147483629 + 1) % 2147483647) (some (.d (.int n)))
    refine ⟨o', ?_⟩
    have c1 : cMul st 48271 = true := by simp [cMul]
    have hk : (0 : Int) < 2147483647 := by decide
    have hk2 : (0 : Int) < 2147483629 := by decide
    rw [List.map_cons]
    unfold forM
    simp only [gN, List.set_cons_succ, List.set_cons_zero, sSet, m2, m1, mL, mCons, mNil, mC, mVar, List.getElem?_cons_zero, List.getElem?_cons_succ, R.bind_ok, R.toS_ok, mul_ok c1, int_ok', mod_ok hk, mod_ok hk2, add_ok, turnS]
    exact h
theorem bgOk_mix0 : BegunOk 2 bg_law_mix (runG 4 m_mix) := by
  intro vs b h
  unfold bg_law_mix at h
  split at h
  · rename_i ns seed
    split at h
    · rename_i hl
      cases h
      refine ⟨rfl, rfl, rfl, ?_⟩
      obtain ⟨o', hloop⟩ := mix_loop (s := some (.d (.scr ns))) (sd := some (.d (.int seed))) (t := ⟨[], box0⟩) ns seed none
      unfold runG m_mix
      simp only [List.map_cons, List.map_nil, List.length_cons, List.length_nil, List.replicate, List.cons_append, List.nil_append, sSeq, sSet, sFor, mVar, m1, List.getElem?_cons_zero, List.getElem?_cons_succ, R.bind_ok, R.toS_ok, List.set_cons_succ, List.set_cons_zero, fIter, Nat.reduceAdd, Nat.reduceSub, Nat.zero_add]
      rw [hloop]
      rfl
    · cases h
  · cases h
end En
set_option Elab.async false
set_option linter.all false
set_option maxRecDepth 100000
set_option maxHeartbeats 2000000
namespace En
open PySem PySem.Spec PyProof.Rows L2
def R.sat {α : Type} (r : R α) (Q : α → T → Prop) : Prop := ∃ a t, r = .ok a t ∧ Q a t
def RS.sat (r : RS) (N : Rho → T → Prop) (V : Val → T → Prop) : Prop := match r with
  | .nx ρ t => N ρ t
  | .rt v t => V v t
  | _ => False
theorem sat_ok {α : Type} {a : α} {t : T} {Q : α → T → Prop} : (R.ok a t).sat Q = Q a t := by
  apply propext
  constructor
  · rintro ⟨a', t', e, q⟩
    cases e
    exact q
  · intro q
    exact ⟨a, t, rfl, q⟩
theorem sat_stuck {α : Type} {Q : α → T → Prop} : (R.stuck : R α).sat Q = False := by
  apply propext
  constructor
  · rintro ⟨_, _, e, _⟩
    cases e
  · exact False.elim
theorem sat_bind {α β : Type} {r : R α} {f : α → T → R β} {Q : β → T → Prop} : (r.bind f).sat Q = r.sat fun a t => (f a t).sat Q := by
  apply propext
  cases r with
  | ok a t => simp only [R.bind, sat_ok]
  | exc x t =>
    constructor
    · rintro ⟨_, _, e, _⟩
      cases e
    · rintro ⟨_, _, e, _⟩
      cases e
  | stuck => simp only [R.bind, sat_stuck]
theorem sat_toS {α : Type} {r : R α} {ρ : Rho} {f : α → T → RS} {N : Rho → T → Prop} {V : Val → T → Prop} : (r.toS ρ f).sat N V = r.sat fun a t => (f a t).sat N V := by
  apply propext
  cases r with
  | ok a t => simp only [R.toS, sat_ok]
  | exc x t =>
    constructor
    · intro h
      exact h.elim
    · rintro ⟨_, _, e, _⟩
      cases e
  | stuck =>
    simp only [R.toS, sat_stuck]
    exact Iff.rfl
theorem sat_mono {α : Type} {r : R α} {Q Q' : α → T → Prop} (h : r.sat Q) (k : ∀ a t, Q a t → Q' a t) : r.sat Q' := by
  obtain ⟨a, t, e, q⟩ := h
  exact ⟨a, t, e, k a t q⟩
section
variable {ρ : Rho} {t : T} {ma mb : ME Val} {α : Type}
theorem w_m2 {f : Val → Val → T → R α} {Q : α → T → Prop} : (m2 f ma mb ρ t).sat Q = (ma ρ t).sat fun x t => (mb ρ t).sat fun y t => (f x y t).sat Q := by
  unfold m2; simp only [sat_bind]
theorem w_m1 {f : Val → T → R α} {Q : α → T → Prop} : (m1 f ma ρ t).sat Q = (ma ρ t).sat fun x t => (f x t).sat Q := by
  unfold m1; simp only [sat_bind]
theorem w_mL {f : List Val → T → R α} {m : ME (List Val)} {Q : α → T → Prop} : (mL f m ρ t).sat Q = (m ρ t).sat fun x t => (f x t).sat Q := by
  unfold mL; simp only [sat_bind]
theorem w_mCons {m : ME (List Val)} {Q : List Val → T → Prop} : (mCons ma m ρ t).sat Q = (ma ρ t).sat fun x t => (m ρ t).sat fun xs t => Q (x :: xs) t := by
  unfold mCons; simp only [sat_bind, sat_ok]
theorem w_mNil {Q : List Val → T → Prop} : (mNil ρ t).sat Q = Q [] t := by unfold mNil; exact sat_ok
theorem w_mC {d : D} {Q : Val → T → Prop} : (mC d ρ t).sat Q = Q (.d d) t := by unfold mC; exact sat_ok
theorem w_mVar {i : Nat} {v : Val} {Q : Val → T → Prop} (h : ρ[i]? = some (some v)) : (mVar i ρ t).sat Q = Q v t := by rw [mVar_eq h]; exact sat_ok
theorem w_mIf {c : ME Bool} {a b : ME α} {Q : α → T → Prop} : (mIf c a b ρ t).sat Q = (c ρ t).sat fun k t => (if k then a ρ t else b ρ t).sat Q := by
  unfold mIf; simp only [sat_bind]
theorem w_mAnd {a b : ME Bool} {Q : Bool → T → Prop} : (mAnd a b ρ t).sat Q = (a ρ t).sat fun k t => (if k then b ρ t else .ok false t).sat Q := by
  unfold mAnd; simp only [sat_bind]
theorem w_mOr {a b : ME Bool} {Q : Bool → T → Prop} : (mOr a b ρ t).sat Q = (a ρ t).sat fun k t => (if k then .ok true t else b ρ t).sat Q := by
  unfold mOr; simp only [sat_bind]
theorem w_mNot {a : ME Bool} {Q : Bool → T → Prop} : (mNot a ρ t).sat Q = (a ρ t).sat fun k t => Q (!k) t := by
  unfold mNot; simp only [sat_bind, sat_ok]
theorem w_asB {k : Bool} {Q : Bool → T → Prop} : (asB (.d (.bl k)) t).sat Q = Q k t := by rw [asB_ok]; exact sat_ok
theorem w_sNil {N : Rho → T → Prop} {V : Val → T → Prop} : (sNil ρ t).sat N V = N ρ t := rfl
theorem w_sSeq {a b : MS} {N : Rho → T → Prop} {V : Val → T → Prop} : (sSeq a b ρ t).sat N V = (a ρ t).sat (fun ρ t => (b ρ t).sat N V) V := by
  unfold sSeq
  cases a ρ t <;> rfl
theorem w_sSet {i : Nat} {N : Rho → T → Prop} {V : Val → T → Prop} : (sSet i ma ρ t).sat N V = (ma ρ t).sat fun v t => N (ρ.set i (some v)) t := by
  unfold sSet; rw [sat_toS]; rfl
theorem w_sRet {N : Rho → T → Prop} {V : Val → T → Prop} : (sRet ma ρ t).sat N V = (ma ρ t).sat fun v t => V v t := by
  unfold sRet; rw [sat_toS]; rfl
theorem w_sDrop {N : Rho → T → Prop} {V : Val → T → Prop} : (sDrop ma ρ t).sat N V = (ma ρ t).sat fun _ t => N ρ t := by
  unfold sDrop; rw [sat_toS]; rfl
theorem w_sIf {c : ME Bool} {a b : MS} {N : Rho → T → Prop} {V : Val → T → Prop} : (sIf c a b ρ t).sat N V = (c ρ t).sat fun k t => (if k then a ρ t else b ρ t).sat N V := by
  unfold sIf; rw [sat_toS]
theorem w_sFor {f : Val → Rho → Option Rho} {mi : ME (List Val)} {b : MS} {N : Rho → T → Prop} {V : Val → T → Prop} : (sFor f mi b ρ t).sat N V = (mi ρ t).sat fun vs t => (forM f b vs ρ t).sat N V := by
  unfold sFor; rw [sat_toS]
end
theorem forM_sat {f : Val → Rho → Option Rho} {b : MS} {N : Rho → T → Prop} {V : Val → T → Prop} (I : List Val → Rho → T → Prop) : ∀ (vs : List Val) (ρ : Rho) (t : T), I vs ρ t →
    (∀ v vs ρ t, I (v :: vs) ρ t → ∃ ρ', f v ρ = some ρ' ∧ (b ρ' t).sat (fun ρ t => I vs ρ t) V) → (∀ ρ t, I [] ρ t → N ρ t) → (forM f b vs ρ t).sat N V
  | [], ρ, t, h, _, he => he ρ t h
  | v :: vs, ρ, t, h, hs, he => by
    obtain ⟨ρ', e, q⟩ := hs v vs ρ t h
    unfold forM
    rw [e]
    show RS.sat (turnS (b ρ' t) (forM f b vs)) N V
    cases hb : b ρ' t with
    | nx ρ2 t2 =>
      rw [hb] at q
      exact forM_sat I vs ρ2 t2 q hs he
    | rt v2 t2 =>
      rw [hb] at q
      exact q
    | bk _ _ => rw [hb] at q; exact q.elim
    | ct _ _ => rw [hb] at q; exact q.elim
    | exc _ _ _ => rw [hb] at q; exact q.elim
    | stuck => rw [hb] at q; exact q.elim
theorem lcM_sat {f : Val → Rho → Option Rho} {tt : ME Bool} {te : ME Val} {ρ : Rho} {Q : List Val → T → Prop} (I : List Val → List Val → T → Prop) : ∀ (vs acc : List Val) (t : T), I vs acc t →
    (∀ v vs acc t, I (v :: vs) acc t → ∃ ρ', f v ρ = some ρ' ∧ (tt ρ' t).sat fun k t => if k then (te ρ' t).sat fun y t => acc.length < lim ∧ I vs (acc ++ [y]) t else I vs acc t) → (∀ acc t, I [] acc t → Q acc t) → (lcM f tt te ρ vs acc t).sat Q
  | [], acc, t, h, _, he => ⟨acc, t, rfl, he acc t h⟩
  | v :: vs, acc, t, h, hs, he => by
    obtain ⟨ρ', e, k, t1, e1, q⟩ := hs v vs acc t h
    unfold lcM
    rw [e]
    show ((tt ρ' t).bindN _).sat Q
    rw [e1]
    show (if k = true then _ else _ : R (List Val)).sat Q
    cases k with
    | true =>
      rw [if_pos rfl] at q ⊢
      obtain ⟨y, t2, e2, hl, q2⟩ := q
      rw [e2]
      show (if acc.length < lim then _ else _ : R (List Val)).sat Q
      rw [if_pos hl]
      exact lcM_sat I vs _ t2 q2 hs he
    | false =>
      rw [if_neg (by decide)] at q ⊢
      exact lcM_sat I vs acc t1 q hs he
theorem call_sat {mf : MF} {vs : List Val} {t : T} {Q : Val → T → Prop} (ha : vs.all argOk = true) (h : (mf vs t.b).sat fun v t' => ∃ d, v = .d d ∧ t'.b.on = t.b.on ∧ Q (.d d) { t with b := t'.b }) : (fCall mf vs t).sat Q := by
  obtain ⟨v, t', e, d, rfl, hon, q⟩ := h
  unfold fCall
  rw [if_pos ha, e]
  simp only [hon, if_true]
  exact sat_ok ▸ q
theorem run_sat {n : Nat} {ms : MS} {vs : List Val} {t : T} {Q : Val → T → Prop} (h : (ms (vs.map some ++ List.replicate (n - vs.length) none) t).sat (fun _ t => Q (.d .non) t) Q) : (runG n ms vs t).sat Q := by
  unfold runG
  cases hm : ms (vs.map some ++ List.replicate (n - vs.length) none) t with
  | nx ρ t' => rw [hm] at h; exact ⟨_, _, rfl, h⟩
  | rt v t' => rw [hm] at h; exact ⟨_, _, rfl, h⟩
  | bk _ _ => rw [hm] at h; exact h.elim
  | ct _ _ => rw [hm] at h; exact h.elim
  | exc _ _ _ => rw [hm] at h; exact h.elim
  | stuck => rw [hm] at h; exact h.elim
structure GoodB (b : Box) : Prop where
  on : b.on = true
  v : b.v = false
  len : b.ns.length ≤ 1000
theorem draw_sat {n : Int} {t : T} {Q : Val → T → Prop} (g : GoodB t.b) (h0 : 0 < n) (h1 : n < 1073741824) (h : ∀ (k : Int) (b : Box), 0 ≤ k → k < n → GoodB b → Q (.d (.int k)) { t with b := b }) : (fDraw drNext [.box, .d (.int n)] t).sat Q := by
  have e : fDraw drNext [.box, .d (.int n)] t = .ok (.d (.int (drNext.go t.b n).1)) { t with b := (drNext.go t.b n).2 } := by
    show (if (okN n && (t.b.v == drNext.v) && decide (t.b.ns.length ≤ 1000)) = true then _ else _) = _
    rw [if_pos]
    have hv : (t.b.v == drNext.v) = true := by rw [g.v]; rfl
    rw [hv]
    simp [okN, h0, h1, g.len]
  rw [e, sat_ok]
  by_cases hc : (10 : Int) ^ 18 ≤ drCell t.b
  · have hg : drNext.go t.b n = (drCell t.b % n, { t.b with ns := t.b.ns.set (t.b.ix % (t.b.ns.length : Int)).toNat (drCell t.b / n) }) := by
      show (if _ then _ else _) = _
      rw [if_pos hc]
    rw [hg]
    exact h _ _ (Int.emod_nonneg _ (by omega)) (Int.emod_lt_of_pos _ h0) ⟨g.on, g.v, by simpa using g.len⟩
  · have hg : drNext.go t.b n = (((t.b.st * 48271 + drCell t.b * 69621 + 11) % 2147483647) / 7 % n, { t.b with st := (t.b.st * 48271 + drCell t.b * 69621 + 11) % 2147483647, ix := t.b.ix + 1 }) := by
      show (if _ then _ else _) = _
      rw [if_neg hc]
    rw [hg]
    exact h _ _ (Int.emod_nonneg _ (by omega)) (Int.emod_lt_of_pos _ h0) ⟨g.on, g.v, g.len⟩
end En
set_option Elab.async false
set_option linter.all false
set_option maxRecDepth 100000
set_option maxHeartbeats 2000000
namespace En
open PySem PySem.Spec PyProof.Rows L2
def cellD (c : Int × Int) : D := .tup [.int c.1, .int c.2]
def cellP (c : Int × Int) : PyData := .tuple [.int c.1, .int c.2]
theorem val_cell (c : Int × Int) (t : T) : valPy (.d (cellD c)) t = some (cellP c) := rfl
theorem val_int (i : Int) (t : T) : valPy (.d (.int i)) t = some (.int i) := rfl
theorem val_bl (i : Bool) (t : T) : valPy (.d (.bl i)) t = some (.bool i) := rfl
theorem val_non (t : T) : valPy (.d .non) t = some .none := rfl
theorem val_str {x : Str} (h : PyData.strOk x = true) (t : T) : valPy (.d (.str x)) t = some (.str x) := by
  show (if SeqAt.shaped (.str x) = true then _ else _) = _
  rw [if_pos]
  unfold SeqAt.shaped
  simp only [PyData.canLay0, PyData.depth]
  rw [show PyData.strOk x = true from h]
  rfl
theorem eqv_cell (c p : Int × Int) : PyData.eqv (cellP c) (cellP p) = decide (c = p) := by
  obtain ⟨a, b⟩ := c
  obtain ⟨a', b'⟩ := p
  show PyData.eqv (.tuple [.int a, .int b]) (.tuple [.int a', .int b']) = _
  simp only [PyData.eqv, PyData.eqvAll, Bool.and_true, Prod.mk.injEq]
  by_cases h1 : a = a' <;> by_cases h2 : b = b' <;> simp [h1, h2]
theorem eq_of_val {a b : Val} {x y : PyData} {t : T} (h1 : valPy a t = some x) (h2 : valPy b t = some y) : fEq a b t = .ok (.d (.bl (PyData.eqv x y))) t := by
  unfold fEq
  rw [h1, h2]
  rfl
theorem ne_of_val {a b : Val} {x y : PyData} {t : T} (h1 : valPy a t = some x) (h2 : valPy b t = some y) : fNe a b t = .ok (.d (.bl (!PyData.eqv x y))) t := by
  unfold fNe
  rw [h1, h2]
  rfl
theorem eq_cell (c p : Int × Int) (t : T) : fEq (.d (cellD c)) (.d (cellD p)) t = .ok (.d (.bl (decide (c = p)))) t := by
  rw [eq_of_val (val_cell c t) (val_cell p t), eqv_cell]
theorem eq_int (i j : Int) (t : T) : fEq (.d (.int i)) (.d (.int j)) t = .ok (.d (.bl (decide (i = j)))) t := by
  rw [eq_of_val (val_int i t) (val_int j t)]
  simp only [PyData.eqv]
  by_cases h : i = j <;> simp [h]
theorem ne_int (i j : Int) (t : T) : fNe (.d (.int i)) (.d (.int j)) t = .ok (.d (.bl (!decide (i = j)))) t := by
  rw [ne_of_val (val_int i t) (val_int j t)]
  simp only [PyData.eqv]
  by_cases h : i = j <;> simp [h]
theorem eq_str {x y : Str} (hx : PyData.strOk x = true) (hy : PyData.strOk y = true) (t : T) : fEq (.d (.str x)) (.d (.str y)) t = .ok (.d (.bl (x == y))) t := by
  rw [eq_of_val (val_str hx t) (val_str hy t)]
  simp only [PyData.eqv]
theorem ne_str {x y : Str} (hx : PyData.strOk x = true) (hy : PyData.strOk y = true) (t : T) : fNe (.d (.str x)) (.d (.str y)) t = .ok (.d (.bl (!(x == y)))) t := by
  rw [ne_of_val (val_str hx t) (val_str hy t)]
  simp only [PyData.eqv]
theorem cell_0 (c : Int × Int) (t : T) : fIx (.d (cellD c)) (.d (.int 0)) t = .ok (.d (.int c.1)) t := rfl
theorem cell_1 (c : Int × Int) (t : T) : fIx (.d (cellD c)) (.d (.int 1)) t = .ok (.d (.int c.2)) t := rfl
inductive Rule where
  | plain | rows | near (k : Int)
def ruleD : Rule → D
  | .plain => .tup [.str "plain"]
  | .rows => .tup [.str "rows"]
  | .near k => .tup [.str "near", .int k]
def Rule.ok : Rule → Prop
  | .near k => 1 ≤ k ∧ k ≤ 22
  | _ => True
def absI (i : Int) : Int := if i < 0 then -i else i
def told (r : Rule) (c p : Int × Int) : Str := if c = p then "found" else match r with
  | .plain => "empty"
  | .near k => if absI (c.1 - p.1) + absI (c.2 - p.2) ≤ k then "near" else "far"
  | .rows => if c.1 = p.1 then "level" else if p.1 < c.1 then "north" else "south"
theorem abs_ok (i : Int) (t : T) : fAbs [.d (.int i)] t = .ok (.d (.int (absI i))) t := rfl
theorem le_ok (i j : Int) (t : T) : fLe (.d (.int i)) (.d (.int j)) t = .ok (.d (.bl (decide (i ≤ j)))) t := rfl
theorem lt_ok (i j : Int) (t : T) : fLt (.d (.int i)) (.d (.int j)) t = .ok (.d (.bl (decide (i < j)))) t := rfl
end En
set_option Elab.async false
set_option linter.all false
set_option maxRecDepth 100000
set_option maxHeartbeats 2000000
namespace K91
open PySem PySem.Spec PyProof.Rows L2 En
theorem drNextOk : DrawOk drNext f__law_next := drNextOk0
theorem bgOk_law_mix : BegunOk 2 bg_law_mix f__law_mix := bgOk_mix0
theorem eqL {x y : Str} {k : Bool} (t : T) (hx : PyData.strOk x = true := by decide +kernel) (hy : PyData.strOk y = true := by decide +kernel) (hk : (x == y) = k := by decide +kernel) : fEq (.d (.str x)) (.d (.str y)) t = .ok (.d (.bl k)) t := by
  rw [En.eq_str hx hy, hk]
theorem e_pp (t : T) : fEq (.d (.str "plain")) (.d (.str "plain")) t = .ok (.d (.bl true)) t := eqL t
theorem e_rp (t : T) : fEq (.d (.str "rows")) (.d (.str "plain")) t = .ok (.d (.bl false)) t := eqL t
theorem e_np (t : T) : fEq (.d (.str "near")) (.d (.str "plain")) t = .ok (.d (.bl false)) t := eqL t
theorem e_pn (t : T) : fEq (.d (.str "plain")) (.d (.str "near")) t = .ok (.d (.bl false)) t := eqL t
theorem e_rn (t : T) : fEq (.d (.str "rows")) (.d (.str "near")) t = .ok (.d (.bl false)) t := eqL t
theorem e_nn (t : T) : fEq (.d (.str "near")) (.d (.str "near")) t = .ok (.d (.bl true)) t := eqL t
theorem e_pr (t : T) : fEq (.d (.str "plain")) (.d (.str "rows")) t = .ok (.d (.bl false)) t := eqL t
theorem e_rr (t : T) : fEq (.d (.str "rows")) (.d (.str "rows")) t = .ok (.d (.bl true)) t := eqL t
theorem e_nr (t : T) : fEq (.d (.str "near")) (.d (.str "rows")) t = .ok (.d (.bl false)) t := eqL t
theorem isi_int (i : Int) (t : T) : fIsi ["int"] (.d (.int i)) t = .ok (.d (.bl true)) t := rfl
theorem isb_int (i : Int) (t : T) : fIsi ["bool"] (.d (.int i)) t = .ok (.d (.bl false)) t := rfl
theorem is_number_eq (i j k : Int) (b : Box) : f_is_number [.d (.int i), .d (.int j), .d (.int k)] b = .ok (.d (.bl (decide (j ≤ i) && decide (i ≤ k)))) ⟨[], b⟩ := by
  unfold f_is_number runF runG m_is_number
  simp only [List.map_cons, List.map_nil, List.length_cons, List.length_nil, List.replicate, List.cons_append, List.nil_append, List.append_nil, sSeq, sIf, sRet, sNil, sSet, sDrop, m2, m1, mL, mCons, mNil, mC, mVar, mIf, List.getElem?_cons_zero, List.getElem?_cons_succ, List.set_cons_zero, List.set_cons_succ, R.bind_ok, R.toS_ok, Nat.reduceAdd, Nat.reduceSub, Nat.zero_add, En.eq_cell, En.asB_ok, En.eq_int, En.lt_ok, En.le_ok, En.sub_ok, En.add_ok, En.abs_ok, En.cell_0, En.cell_1, decide_true, decide_false, Bool.false_eq_true, if_true, if_false, Bool.not_true, Bool.not_false, mAndV, mNotV, m3c, isi_int, isb_int]
  by_cases h : j ≤ i <;> by_cases h2 : i ≤ k <;> simp only [List.map_cons, List.map_nil, List.length_cons, List.length_nil, List.replicate, List.cons_append, List.nil_append, List.append_nil, sSeq, sIf, sRet, sNil, sSet, sDrop, m2, m1, mL, mCons, mNil, mC, mVar, mIf, List.getElem?_cons_zero, List.getElem?_cons_succ, List.set_cons_zero, List.set_cons_succ, R.bind_ok, R.toS_ok, Nat.reduceAdd, Nat.reduceSub, Nat.zero_add, En.eq_cell, En.asB_ok, En.eq_int, En.lt_ok, En.le_ok, En.sub_ok, En.add_ok, En.abs_ok, En.cell_0, En.cell_1, decide_true, decide_false, Bool.false_eq_true, if_true, if_false, Bool.not_true, Bool.not_false, h, h2, Bool.and_true, Bool.and_false, Bool.true_and, Bool.false_and]
theorem call_eq {mf : MF} {vs : List Val} {t : T} {d : D} (ha : vs.all argOk = true) (h : mf vs t.b = .ok (.d d) ⟨[], t.b⟩) : fCall mf vs t = .ok (.d d) t := by
  unfold fCall
  rw [if_pos ha, h]
  simp only [if_true]
end K91
set_option Elab.async false
set_option linter.all false
set_option maxRecDepth 100000
set_option maxHeartbeats 4000000
namespace K91
open PySem PySem.Spec PyProof.Rows L2 En
abbrev P : Program := PySem.Challenge.pw_oldmap_k91_whole_long_walks_of_least_wai
def top (i : Nat) : Stmt := P.main.body.getD i (.Pass ⟨0, 0, 0, 0⟩)
abbrev s_Island____init__ : Stmt := (clsB (top 13)).getD 0 (.Pass ⟨0, 0, 0, 0⟩)
abbrev s__law_alike : Stmt := top 29
abbrev s__law_cells : Stmt := top 31
abbrev s__law_on : Stmt := top 32
abbrev s__law_sign : Stmt := top 30
abbrev s__law_far : Stmt := top 33
abbrev s__law_mix : Stmt := top 27
abbrev s__law_next : Stmt := top 28
abbrev s__law_orders : Stmt := top 34
abbrev s__law_total : Stmt := top 35
abbrev s_Island____contains__ : Stmt := (clsB (top 13)).getD 9 (.Pass ⟨0, 0, 0, 0⟩)
abbrev s_validate_cell : Stmt := top 14
abbrev s_neighbors : Stmt := top 18
abbrev s_distances : Stmt := top 19
abbrev s_Waits____init__ : Stmt := (clsB (top 22)).getD 0 (.Pass ⟨0, 0, 0, 0⟩)
abbrev s_Waits__totals : Stmt := (clsB (top 22)).getD 2 (.Pass ⟨0, 0, 0, 0⟩)
abbrev s_Waits__least : Stmt := (clsB (top 22)).getD 1 (.Pass ⟨0, 0, 0, 0⟩)
abbrev s_waited : Stmt := top 23
abbrev s_dig_walk : Stmt := top 24
abbrev s_is_number : Stmt := top 12
abbrev s_weighed_walk : Stmt := top 25
abbrev s_law : Stmt := top 36
structure Fx (w : World) (K : PySem.W.Frag) (mg : Str → Option Value) where
  fd_Island____init__ : FuncData
  F_Island____init__ : FunD K "__init__" "Island.__init__" (defArgs s_Island____init__) (defBody s_Island____init__) (defScope s_Island____init__) [] [] (He.ma K (He.ga K "Island") "__init__") fd_Island____init__
  fd__law_alike : FuncData
  F__law_alike : FunD K "_law_alike" "_law_alike" (defArgs s__law_alike) (defBody s__law_alike) (defScope s__law_alike) [] [] (He.ga K "_law_alike") fd__law_alike
  fd__law_cells : FuncData
  F__law_cells : FunD K "_law_cells" "_law_cells" (defArgs s__law_cells) (defBody s__law_cells) (defScope s__law_cells) [] [] (He.ga K "_law_cells") fd__law_cells
  fd__law_on : FuncData
  F__law_on : FunD K "_law_on" "_law_on" (defArgs s__law_on) (defBody s__law_on) (defScope s__law_on) [] [] (He.ga K "_law_on") fd__law_on
  fd__law_sign : FuncData
  F__law_sign : FunD K "_law_sign" "_law_sign" (defArgs s__law_sign) (defBody s__law_sign) (defScope s__law_sign) [] [] (He.ga K "_law_sign") fd__law_sign
  fd__law_far : FuncData
  F__law_far : FunD K "_law_far" "_law_far" (defArgs s__law_far) (defBody s__law_far) (defScope s__law_far) [] [] (He.ga K "_law_far") fd__law_far
  fd__law_mix : FuncData
  F__law_mix : FunD K "_law_mix" "_law_mix" (defArgs s__law_mix) (defBody s__law_mix) (defScope s__law_mix) [] [] (He.ga K "_law_mix") fd__law_mix
  fd__law_next : FuncData
  F__law_next : FunD K "_law_next" "_law_next" (defArgs s__law_next) (defBody s__law_next) (defScope s__law_next) [] [] (He.ga K "_law_next") fd__law_next
  fd__law_orders : FuncData
  F__law_orders : FunD K "_law_orders" "_law_orders" (defArgs s__law_orders) (defBody s__law_orders) (defScope s__law_orders) [] [] (He.ga K "_law_orders") fd__law_orders
  fd__law_total : FuncData
  F__law_total : FunD K "_law_total" "_law_total" (defArgs s__law_total) (defBody s__law_total) (defScope s__law_total) [] [] (He.ga K "_law_total") fd__law_total
  fd_Island____contains__ : FuncData
  F_Island____contains__ : FunD K "__contains__" "Island.__contains__" (defArgs s_Island____contains__) (defBody s_Island____contains__) (defScope s_Island____contains__) [] [] (He.ma K (He.ga K "Island") "__contains__") fd_Island____contains__
  fd_validate_cell : FuncData
  F_validate_cell : FunD K "validate_cell" "validate_cell" (defArgs s_validate_cell) (defBody s_validate_cell) (defScope s_validate_cell) [] [] (He.ga K "validate_cell") fd_validate_cell
  fd_neighbors : FuncData
  F_neighbors : FunD K "neighbors" "neighbors" (defArgs s_neighbors) (defBody s_neighbors) (defScope s_neighbors) [] [] (He.ga K "neighbors") fd_neighbors
  fd_distances : FuncData
  F_distances : FunD K "distances" "distances" (defArgs s_distances) (defBody s_distances) (defScope s_distances) [] [] (He.ga K "distances") fd_distances
  fd_Waits____init__ : FuncData
  F_Waits____init__ : FunD K "__init__" "Waits.__init__" (defArgs s_Waits____init__) (defBody s_Waits____init__) (defScope s_Waits____init__) [] [] (He.ma K (He.ga K "Waits") "__init__") fd_Waits____init__
  fd_Waits__totals : FuncData
  F_Waits__totals : FunD K "totals" "Waits.totals" (defArgs s_Waits__totals) (defBody s_Waits__totals) (defScope s_Waits__totals) [] [] (He.ma K (He.ga K "Waits") "totals") fd_Waits__totals
  fd_Waits__least : FuncData
  F_Waits__least : FunD K "least" "Waits.least" (defArgs s_Waits__least) (defBody s_Waits__least) (defScope s_Waits__least) [] [] (He.ma K (He.ga K "Waits") "least") fd_Waits__least
  fd_waited : FuncData
  F_waited : FunD K "waited" "waited" (defArgs s_waited) (defBody s_waited) (defScope s_waited) [] [] (He.ga K "waited") fd_waited
  fd_dig_walk : FuncData
  F_dig_walk : FunD K "dig_walk" "dig_walk" (defArgs s_dig_walk) (defBody s_dig_walk) (defScope s_dig_walk) [] [] (He.ga K "dig_walk") fd_dig_walk
  fd_is_number : FuncData
  F_is_number : FunD K "is_number" "is_number" (defArgs s_is_number) (defBody s_is_number) (defScope s_is_number) [] [] (He.ga K "is_number") fd_is_number
  fd_weighed_walk : FuncData
  F_weighed_walk : FunD K "weighed_walk" "weighed_walk" (defArgs s_weighed_walk) (defBody s_weighed_walk) (defScope s_weighed_walk) [] [] (He.ga K "weighed_walk") fd_weighed_walk
  fd_law : FuncData
  F_law : FunD K "law" "law" (defArgs s_law) (defBody s_law) (defScope s_law) [] [] (He.ga K "law") fd_law
  g__law_mix : mg "_law_mix" = some (.ref (He.ga K "_law_mix"))
  g__law_next : mg "_law_next" = some (.ref (He.ga K "_law_next"))
  g_Island : mg "Island" = some (.ref (He.ga K "Island"))
  g__law_cells : mg "_law_cells" = some (.ref (He.ga K "_law_cells"))
  g__law_far : mg "_law_far" = some (.ref (He.ga K "_law_far"))
  g__law_orders : mg "_law_orders" = some (.ref (He.ga K "_law_orders"))
  g__law_total : mg "_law_total" = some (.ref (He.ga K "_law_total"))
  g_dig_walk : mg "dig_walk" = some (.ref (He.ga K "dig_walk"))
  g__law_alike : mg "_law_alike" = some (.ref (He.ga K "_law_alike"))
  g_weighed_walk : mg "weighed_walk" = some (.ref (He.ga K "weighed_walk"))
  g__law_on : mg "_law_on" = some (.ref (He.ga K "_law_on"))
  g__law_sign : mg "_law_sign" = some (.ref (He.ga K "_law_sign"))
  g_validate_cell : mg "validate_cell" = some (.ref (He.ga K "validate_cell"))
  g_waited : mg "waited" = some (.ref (He.ga K "waited"))
  g_Waits : mg "Waits" = some (.ref (He.ga K "Waits"))
  g_distances : mg "distances" = some (.ref (He.ga K "distances"))
  g_neighbors : mg "neighbors" = some (.ref (He.ga K "neighbors"))
  g_is_number : mg "is_number" = some (.ref (He.ga K "is_number"))
  fr_range : mg "range" = none
  fr_tuple : mg "tuple" = none
  fr_len : mg "len" = none
  fr_list : mg "list" = none
  fr_sorted : mg "sorted" = none
  fr_dict : mg "dict" = none
  fr_enumerate : mg "enumerate" = none
  fr_min : mg "min" = none
  fr_isinstance : mg "isinstance" = none
  fr_str : mg "str" = none
  fr_int : mg "int" = none
  fr_bool : mg "bool" = none
  fr_max : mg "max" = none
  fr_sum : mg "sum" = none
  gc_MAX_SIZE : GlobD mg K "MAX_SIZE" d_MAX_SIZE
  gc_LAND : GlobD mg K "LAND" d_LAND
  gc_WATER : GlobD mg K "WATER" d_WATER
  gc_LETTERS : GlobD mg K "LETTERS" d_LETTERS
  gc_MAX_GOALS : GlobD mg K "MAX_GOALS" d_MAX_GOALS
  gc_MOVES : GlobD mg K "MOVES" d_MOVES
  gc_MAX_WEIGHT : GlobD mg K "MAX_WEIGHT" d_MAX_WEIGHT
  cl_Island : Cls K (He.ga K "Island")
  cl_Waits : Cls K (He.ga K "Waits")
  na_Island_own_rows : NoAttr K (He.ga K "Island") "own_rows"
  na_Waits_tables : NoAttr K (He.ga K "Waits") "tables"
  na_Waits_heavy : NoAttr K (He.ga K "Waits") "heavy"
  na_Waits_known : NoAttr K (He.ga K "Waits") "known"
  mk_Island : Mk K (He.ga K "Island") (He.ma K (He.ga K "Island") "__init__")
  mk_Waits : Mk K (He.ga K "Waits") (He.ma K (He.ga K "Waits") "__init__")
  me_Island___contains__ : Meth K (He.ga K "Island") "__contains__" (He.ma K (He.ga K "Island") "__contains__")
  me_Waits_least : Meth K (He.ga K "Waits") "least" (He.ma K (He.ga K "Waits") "least")
  me_Waits_totals : Meth K (He.ga K "Waits") "totals" (He.ma K (He.ga K "Waits") "totals")
variable {w : World} {K : PySem.W.Frag} {mg : Str → Option Value}
theorem sc_Island____init__ : FnScope ["self", "rows", "row", "text", "column", "sign"] ["self", "rows"] (defScope s_Island____init__) := ⟨rfl, rfl, rfl, by decide +kernel, rfl, by decide +kernel, by decide +kernel⟩
theorem b_Island____init__ (c : Fx w K mg) : Binds K c.fd_Island____init__ ["self", "rows"] [] := c.F_Island____init__.bindsN fun _ _ _ _ _ _ us hl => match us, hl with | [_, _], _ => rfl
theorem ok_Island____init__ (c : Fx w K mg) (base : Heap) : FnOk P w K mg base (L2.CX P w) 1 (He.ma K (He.ga K "Island") "__init__") c.fd_Island____init__ ["self", "rows"] (spG K 2 f_Island____init__) := by
  refine (show FnOk P w K mg base (L2.CX P w) (0 + 1) (He.ma K (He.ga K "Island") "__init__") c.fd_Island____init__ ["self", "rows"] (spG K ["self", "rows"].length (runG ["self", "rows", "row", "text", "column", "sign"].length m_Island____init__)) from jdG (N := ["self", "rows", "row", "text", "column", "sign"]) (ps := ["self", "rows"]) (k := 0) (ms := m_Island____init__) c.F_Island____init__ sc_Island____init__ fun cdv A outer s H E hr => ?_)
  unfold m_Island____init__
  exact
    (jss_cons (js_if (jw_pt (jw_or (jt_cmp (op_eqD hr.units) s_eq (nomark _) (je_callB call_len (c_len (X := _)) c.fr_len (ja_cons (je_pv 1) ja_nil)) je_int) (jw_or1 (jt_cmp (op_eqD hr.units) s_eq (nomark _) (je_ix (je_pv 1) je_int) je_str))))
     (jss_one js_never)
     jss_nil)
     (jss_cons (js_for (passes_of rfl) rfl (ji_enum c.fr_enumerate (ja_cons (je_pv 1) ja_nil)) (jg_tup rfl (jgs_cons (jg_name (i := 2) sc_Island____init__.nd rfl (by first | exact .inl rfl | exact .inr rfl)) (jgs_cons (jg_name (i := 3) sc_Island____init__.nd rfl (by first | exact .inl rfl | exact .inr rfl)) jgs_nil)))
      (jss_cons (js_if (jt_cmp (op_eqD hr.units) s_eq (nomark _) (je_pv 2) (je_gc c.gc_MAX_SIZE))
       (jss_one js_never)
       jss_nil)
       (jss_cons (js_for (passes_of rfl) rfl (ji_enum c.fr_enumerate (ja_cons (je_pv 3) ja_nil)) (jg_tup rfl (jgs_cons (jg_name (i := 4) sc_Island____init__.nd rfl (by first | exact .inl rfl | exact .inr rfl)) (jgs_cons (jg_name (i := 5) sc_Island____init__.nd rfl (by first | exact .inl rfl | exact .inr rfl)) jgs_nil)))
        (jss_one (js_if (jw_pt (jw_or (jt_cmp (op_eqD hr.units) s_eq (nomark _) (je_pv 4) (je_callB (call_min2 rfl) c_min2 c.fr_min (ja_cons (je_gc c.gc_MAX_SIZE) (ja_cons (je_callB call_len (c_len (X := _)) c.fr_len (ja_cons (je_ix (je_pv 1) je_int) ja_nil)) ja_nil)))) (jw_or1 (jt_cmp (op_notInAll (u65 hr)) s_notIn (by rfl) (je_pv 5) (je_op op_addAll s_add (je_op op_addAll s_add (je_gc c.gc_LAND) (je_gc c.gc_WATER)) (je_gc c.gc_LETTERS))))))
         (jss_one js_never)
         jss_nil)))
        (jss_one (js_if (jt_cmp op_lt s_cmp (nomark _) (je_callB call_len (c_len (X := _)) c.fr_len (ja_cons (je_pv 3) ja_nil)) (je_callB call_len (c_len (X := _)) c.fr_len (ja_cons (je_ix (je_pv 1) je_int) ja_nil)))
         (jss_one js_never)
         jss_nil)))))
      (jss_one (js_fld ["Island"] (by intro z hz; first | (have e : z = "Island" := by simpa using hz); subst e; exact ⟨c.cl_Island, c.na_Island_own_rows⟩) (je_pv 0) (je_pv 1)))))
theorem sc__law_alike : FnScope ["_law_found", "_law_due", "_law_k"] ["_law_found", "_law_due"] (defScope s__law_alike) := ⟨rfl, rfl, rfl, by decide +kernel, rfl, by decide +kernel, by decide +kernel⟩
theorem b__law_alike (c : Fx w K mg) : Binds K c.fd__law_alike ["_law_found", "_law_due"] [] := c.F__law_alike.bindsN fun _ _ _ _ _ _ us hl => match us, hl with | [_, _], _ => rfl
theorem ok__law_alike (c : Fx w K mg) (base : Heap) : ∀ n : Nat, FnOk P w K mg base (L2.CX P w) (1 + n) (He.ga K "_law_alike") c.fd__law_alike ["_law_found", "_law_due"] (spF K 2 (f__law_alike n))
  | 0 => fnOk0
  | n + 1 => by
    have F := ok__law_alike c base n
    refine (show FnOk P w K mg base (L2.CX P w) ((1 + n) + 1) (He.ga K "_law_alike") c.fd__law_alike ["_law_found", "_law_due"] (spF K ["_law_found", "_law_due"].length (runF ["_law_found", "_law_due", "_law_k"].length (r__law_alike (f__law_alike n)))) from jd (N := ["_law_found", "_law_due", "_law_k"]) (ps := ["_law_found", "_law_due"]) (k := (1 + n)) (ms := (r__law_alike (f__law_alike n))) c.F__law_alike sc__law_alike fun cdv A outer s H E hr => ?_)
    unfold r__law_alike
    exact
      (jss_cons (js_if (jt_val (je_isi (b := "dict") c.fr_isinstance c.fr_dict (je_pv 1)))
       (jss_one (js_ret (je_and (je_isi (b := "dict") c.fr_isinstance c.fr_dict (je_pv 0)) (je_and (je_call F (hr.mono (Nat.le_refl _)) c.g__law_alike c.F__law_alike.kp (b__law_alike c) (takes_of rfl rfl rfl rfl) (ja_cons (je_callB (cr_sortD (u65 hr)) c_sorted c.fr_sorted (ja_cons (je_pv 0) ja_nil)) (ja_cons (je_callB (cr_sortD (u65 hr)) c_sorted c.fr_sorted (ja_cons (je_pv 1) ja_nil)) ja_nil)) (hla := (mCons_len (mCons_len mNil_len)))) (je_one (je_cmp (op_eqD hr.units) s_eq (nomark _) (je_pv 0) (je_pv 1)))))))
       jss_nil)
       (jss_cons (js_if (jt_val (je_isi2 (b := "tuple") (c := "list") c.fr_isinstance c.fr_tuple c.fr_list (je_pv 1)))
        (jss_cons (js_if (jw_pt (jw_or (jt_not (jt_val (je_isi2 (b := "tuple") (c := "list") c.fr_isinstance c.fr_tuple c.fr_list (je_pv 0)))) (jw_or1 (jt_cmp (op_neD hr.units) s_ne (nomark _) (je_isi (b := "list") c.fr_isinstance c.fr_list (je_pv 0)) (je_isi (b := "list") c.fr_isinstance c.fr_list (je_pv 1))))))
         (jss_one (js_ret je_bl))
         jss_nil)
         (jss_cons (js_if (jt_cmp (op_neD hr.units) s_ne (nomark _) (je_callB call_len (c_len (X := _)) c.fr_len (ja_cons (je_pv 0) ja_nil)) (je_callB call_len (c_len (X := _)) c.fr_len (ja_cons (je_pv 1) ja_nil)))
          (jss_one (js_ret je_bl))
          jss_nil)
          (jss_one (js_ret (je_cmp (op_eqD hr.units) s_eq (nomark _) (je_ofL (jl_lc [("_law_k", 2)] rfl sc__law_alike.nd (ji_range1 c.fr_range (ja_cons (je_callB call_len (c_len (X := _)) c.fr_len (ja_cons (je_pv 1) ja_nil)) ja_nil)) (blkOk_by (by kernel_rfl)) ⟨_, nt_name 2, fun _ _ _ _ _ => pg_name sc__law_alike.nd rfl (by first | exact .inl rfl | exact .inr rfl)⟩ (fun _ _ _ _ _ => jts_one (jt_not (jt_val (je_call F (hr.mono (Nat.le_refl _)) c.g__law_alike c.F__law_alike.kp (b__law_alike c) takes0 (ja_cons (je_ix (je_pv 0) (je_pv 2)) (ja_cons (je_ix (je_pv 1) (je_pv 2)) ja_nil)) (hla := (mCons_len (mCons_len mNil_len))))))) (fun _ _ _ _ _ => (je_pv 2)))) (je_ofL (jl_lst ja_nil)))))))
        jss_nil)
        (jss_cons (js_if (jw_pt (jw_or (jt_cmp op_isN s_isN (nomark _) (je_pv 1) je_non) (jw_or1 (jt_val (je_isi (b := "str") c.fr_isinstance c.fr_str (je_pv 1))))))
         (jss_one (js_ret (je_and (je_cmp (op_eqD hr.units) s_eq (nomark _) (je_pv 0) (je_pv 1)) (je_one (je_cmp (op_eqD hr.units) s_eq (nomark _) (je_isi (b := "str") c.fr_isinstance c.fr_str (je_pv 0)) (je_isi (b := "str") c.fr_isinstance c.fr_str (je_pv 1)))))))
         jss_nil)
         (jss_one (js_ret (je_and (je_isi (b := "int") c.fr_isinstance c.fr_int (je_pv 0)) (je_and (je_cmp (op_eqD hr.units) s_eq (nomark _) (je_isi (b := "bool") c.fr_isinstance c.fr_bool (je_pv 0)) (je_isi (b := "bool") c.fr_isinstance c.fr_bool (je_pv 1))) (je_one (je_cmp (op_eqD hr.units) s_eq (nomark _) (je_pv 0) (je_pv 1))))))))))
theorem sc__law_cells : FnScope ["_law_rows", "_law_found", "_law_row", "_law_column"] ["_law_rows"] (defScope s__law_cells) := ⟨rfl, rfl, rfl, by decide +kernel, rfl, by decide +kernel, by decide +kernel⟩
theorem b__law_cells (c : Fx w K mg) : Binds K c.fd__law_cells ["_law_rows"] [] := c.F__law_cells.bindsN fun _ _ _ _ _ _ us hl => match us, hl with | [_], _ => rfl
theorem ok__law_cells (c : Fx w K mg) (base : Heap) : FnOk P w K mg base (L2.CX P w) 1 (He.ga K "_law_cells") c.fd__law_cells ["_law_rows"] (spF K 1 f__law_cells) := by
  refine (show FnOk P w K mg base (L2.CX P w) (0 + 1) (He.ga K "_law_cells") c.fd__law_cells ["_law_rows"] (spF K ["_law_rows"].length (runF ["_law_rows", "_law_found", "_law_row", "_law_column"].length m__law_cells)) from jd (N := ["_law_rows", "_law_found", "_law_row", "_law_column"]) (ps := ["_law_rows"]) (k := 0) (ms := m__law_cells) c.F__law_cells sc__law_cells fun cdv A outer s H E hr => ?_)
  unfold m__law_cells
  exact
    (jss_cons (js_set (i := 1) sc__law_cells.nd rfl (by first | exact .inl rfl | exact .inr rfl) (je_ofL (jl_lst ja_nil)))
     (jss_cons (js_for (passes_of rfl) rfl (ji_range1 c.fr_range (ja_cons (je_callB call_len (c_len (X := _)) c.fr_len (ja_cons (je_pv 0) ja_nil)) ja_nil)) (jg_name (i := 2) sc__law_cells.nd rfl (by first | exact .inl rfl | exact .inr rfl))
      (jss_one (js_set (i := 1) sc__law_cells.nd rfl (by first | exact .inl rfl | exact .inr rfl) (je_op op_addAll s_add (je_pv 1) (je_ofL (jl_lc [("_law_column", 3)] rfl sc__law_cells.nd (ji_range1 c.fr_range (ja_cons (je_callB call_len (c_len (X := _)) c.fr_len (ja_cons (je_ix (je_pv 0) je_int) ja_nil)) ja_nil)) (blkOk_by (by kernel_rfl)) ⟨_, nt_name 3, fun _ _ _ _ _ => pg_name sc__law_cells.nd rfl (by first | exact .inl rfl | exact .inr rfl)⟩ (fun _ _ _ _ _ => jts_one (jt_cmp (op_neD hr.units) s_ne (nomark _) (je_ix (je_ix (je_pv 0) (je_pv 2)) (je_pv 3)) je_str)) (fun _ _ _ _ _ => (je_tup (ja_cons (je_pv 2) (ja_cons (je_pv 3) ja_nil))))))))))
      (jss_one (js_ret (je_pv 1)))))
theorem sc__law_on : FnScope ["_law_cell", "_law_facing", "_law_down", "_law_right"] ["_law_cell", "_law_facing"] (defScope s__law_on) := ⟨rfl, rfl, rfl, by decide +kernel, rfl, by decide +kernel, by decide +kernel⟩
theorem b__law_on (c : Fx w K mg) : Binds K c.fd__law_on ["_law_cell", "_law_facing"] [] := c.F__law_on.bindsN fun _ _ _ _ _ _ us hl => match us, hl with | [_, _], _ => rfl
theorem ok__law_on (c : Fx w K mg) (base : Heap) : FnOk P w K mg base (L2.CX P w) 1 (He.ga K "_law_on") c.fd__law_on ["_law_cell", "_law_facing"] (spF K 2 f__law_on) := by
  refine (show FnOk P w K mg base (L2.CX P w) (0 + 1) (He.ga K "_law_on") c.fd__law_on ["_law_cell", "_law_facing"] (spF K ["_law_cell", "_law_facing"].length (runF ["_law_cell", "_law_facing", "_law_down", "_law_right"].length m__law_on)) from jd (N := ["_law_cell", "_law_facing", "_law_down", "_law_right"]) (ps := ["_law_cell", "_law_facing"]) (k := 0) (ms := m__law_on) c.F__law_on sc__law_on fun cdv A outer s H E hr => ?_)
  unfold m__law_on
  exact
    (jss_cons (js_asg (jg_tup rfl (jgs_cons (jg_name (i := 2) sc__law_on.nd rfl (by first | exact .inl rfl | exact .inr rfl)) (jgs_cons (jg_name (i := 3) sc__law_on.nd rfl (by first | exact .inl rfl | exact .inr rfl)) jgs_nil))) (je_ix (je_ofL (jl_lst (ja_cons (je_tup (ja_cons (je_op op_subC s_sub je_int je_int) (ja_cons je_int ja_nil))) (ja_cons (je_tup (ja_cons je_int (ja_cons je_int ja_nil))) (ja_cons (je_tup (ja_cons je_int (ja_cons je_int ja_nil))) (ja_cons (je_tup (ja_cons je_int (ja_cons (je_op op_subC s_sub je_int je_int) ja_nil))) ja_nil)))))) (je_op op_mod s_mod (je_callTy call_intB c_int c.fr_int (ja_cons (je_pv 1) ja_nil)) je_int)))
     (jss_one (js_ret (je_tup (ja_cons (je_op op_addAll s_add (je_ix (je_pv 0) je_int) (je_pv 2)) (ja_cons (je_op op_addAll s_add (je_ix (je_pv 0) je_int) (je_pv 3)) ja_nil))))))
theorem sc__law_sign : FnScope ["_law_rows", "_law_cell"] ["_law_rows", "_law_cell"] (defScope s__law_sign) := ⟨rfl, rfl, rfl, by decide +kernel, rfl, by decide +kernel, by decide +kernel⟩
theorem b__law_sign (c : Fx w K mg) : Binds K c.fd__law_sign ["_law_rows", "_law_cell"] [] := c.F__law_sign.bindsN fun _ _ _ _ _ _ us hl => match us, hl with | [_, _], _ => rfl
theorem ok__law_sign (c : Fx w K mg) (base : Heap) : FnOk P w K mg base (L2.CX P w) 1 (He.ga K "_law_sign") c.fd__law_sign ["_law_rows", "_law_cell"] (spF K 2 f__law_sign) := by
  refine (show FnOk P w K mg base (L2.CX P w) (0 + 1) (He.ga K "_law_sign") c.fd__law_sign ["_law_rows", "_law_cell"] (spF K ["_law_rows", "_law_cell"].length (runF ["_law_rows", "_law_cell"].length m__law_sign)) from jd (N := ["_law_rows", "_law_cell"]) (ps := ["_law_rows", "_law_cell"]) (k := 0) (ms := m__law_sign) c.F__law_sign sc__law_sign fun cdv A outer s H E hr => ?_)
  unfold m__law_sign
  exact
    (jss_cons (js_if (jw_pt (jw_or (jt_not (jt_chain op_le s_cmp op_lt s_cmp je_int (je_ix (je_pv 1) je_int) (je_callB call_len (c_len (X := _)) c.fr_len (ja_cons (je_pv 0) ja_nil)))) (jw_or1 (jt_not (jt_chain op_le s_cmp op_lt s_cmp je_int (je_ix (je_pv 1) je_int) (je_callB call_len (c_len (X := _)) c.fr_len (ja_cons (je_ix (je_pv 0) je_int) ja_nil)))))))
     (jss_one (js_ret je_str))
     jss_nil)
     (jss_one (js_ret (je_ix (je_ix (je_pv 0) (je_ix (je_pv 1) je_int)) (je_ix (je_pv 1) je_int)))))
theorem sc__law_far : FnScope ["_law_rows", "_law_cell", "_law_found", "_law_level", "_law_later", "_law_one", "_law_side", "_law_other"] ["_law_rows", "_law_cell"] (defScope s__law_far) := ⟨rfl, rfl, rfl, by decide +kernel, rfl, by decide +kernel, by decide +kernel⟩
theorem b__law_far (c : Fx w K mg) : Binds K c.fd__law_far ["_law_rows", "_law_cell"] [] := c.F__law_far.bindsN fun _ _ _ _ _ _ us hl => match us, hl with | [_, _], _ => rfl
theorem ok__law_far (c : Fx w K mg) (base : Heap) : FnOk P w K mg base (L2.CX P w) 2 (He.ga K "_law_far") c.fd__law_far ["_law_rows", "_law_cell"] (spF K 2 f__law_far) := by
  refine (show FnOk P w K mg base (L2.CX P w) (1 + 1) (He.ga K "_law_far") c.fd__law_far ["_law_rows", "_law_cell"] (spF K ["_law_rows", "_law_cell"].length (runF ["_law_rows", "_law_cell", "_law_found", "_law_level", "_law_later", "_law_one", "_law_side", "_law_other"].length m__law_far)) from jd (N := ["_law_rows", "_law_cell", "_law_found", "_law_level", "_law_later", "_law_one", "_law_side", "_law_other"]) (ps := ["_law_rows", "_law_cell"]) (k := 1) (ms := m__law_far) c.F__law_far sc__law_far fun cdv A outer s H E hr => ?_)
  unfold m__law_far
  exact
    (jss_cons (js_par (i := 2) (j := 3) rfl sc__law_far.nd (ja_cons (je_disp1 (u65 hr) (je_pv 1) je_int) (ja_cons (je_ofL (jl_lst (ja_cons (je_pv 1) ja_nil))) ja_nil)))
     (jss_cons (js_while 200 (passes_of rfl) (jt_cmp (op_neD hr.units) s_ne (nomark _) (je_pv 3) (je_ofL (jl_lst ja_nil)))
      (jss_cons (js_set (i := 4) sc__law_far.nd rfl (by first | exact .inl rfl | exact .inr rfl) (je_new (jl_lst ja_nil)))
       (jss_cons (js_for (passes_of rfl) rfl (ji_val (je_pv 3)) (jg_name (i := 5) sc__law_far.nd rfl (by first | exact .inl rfl | exact .inr rfl))
        (jss_one (js_for (passes_of rfl) rfl (ji_range1 c.fr_range (ja_cons je_int ja_nil)) (jg_name (i := 6) sc__law_far.nd rfl (by first | exact .inl rfl | exact .inr rfl))
         (jss_cons (js_set (i := 7) sc__law_far.nd rfl (by first | exact .inl rfl | exact .inr rfl) (je_call (ok__law_on c _) (hr.mono (by decide)) c.g__law_on c.F__law_on.kp (b__law_on c) (takes_of rfl rfl rfl rfl) (ja_cons (je_pv 5) (ja_cons (je_pv 6) ja_nil)) (hla := (mCons_len (mCons_len mNil_len)))))
          (jss_one (js_if (jw_pt (jw_and (jt_cmp (op_neD hr.units) s_ne (nomark _) (je_call (ok__law_sign c _) (hr.mono (by decide)) c.g__law_sign c.F__law_sign.kp (b__law_sign c) (takes_of rfl rfl rfl rfl) (ja_cons (je_pv 0) (ja_cons (je_pv 7) ja_nil)) (hla := (mCons_len (mCons_len mNil_len)))) je_str) (jw_and1 (jt_cmp (op_dnotin (u65 hr)) s_dnotin (by rfl) (je_pv 7) (je_pv 2)))))
           (jss_cons (js_dput (u65 hr) (je_pv 2) (je_pv 7) (je_op op_addAll s_add (je_dget (u65 hr) (je_pv 2) (je_pv 5)) je_int))
            (jss_one (js_expr (je_bm PySem.F.plainAttrs_list PySem.F.slot_list_append PySem.F.type_list_append mt_append m_append ty_lst (je_pv 4) (ja_cons (je_pv 7) ja_nil)))))
           jss_nil))))))
        (jss_fz 4 (jss_one (js_set (i := 3) sc__law_far.nd rfl (by first | exact .inl rfl | exact .inr rfl) (je_pv 4)))))))
      (jss_fzD 2 (jss_one (js_ret (je_pv 2))))))
theorem sc__law_mix : FnScope ["_law_script", "_law_seed", "_law_state", "_law_cell"] ["_law_script", "_law_seed"] (defScope s__law_mix) := ⟨rfl, rfl, rfl, by decide +kernel, rfl, by decide +kernel, by decide +kernel⟩
theorem b__law_mix (c : Fx w K mg) : Binds K c.fd__law_mix ["_law_script", "_law_seed"] [] := c.F__law_mix.bindsN fun _ _ _ _ _ _ us hl => match us, hl with | [_, _], _ => rfl
theorem ok__law_mix (c : Fx w K mg) (base : Heap) : FnOk P w K mg base (L2.CX P w) 1 (He.ga K "_law_mix") c.fd__law_mix ["_law_script", "_law_seed"] (spG K 2 f__law_mix) := by
  refine (show FnOk P w K mg base (L2.CX P w) (0 + 1) (He.ga K "_law_mix") c.fd__law_mix ["_law_script", "_law_seed"] (spG K ["_law_script", "_law_seed"].length (runG ["_law_script", "_law_seed", "_law_state", "_law_cell"].length m__law_mix)) from jdG (N := ["_law_script", "_law_seed", "_law_state", "_law_cell"]) (ps := ["_law_script", "_law_seed"]) (k := 0) (ms := m__law_mix) c.F__law_mix sc__law_mix fun cdv A outer s H E hr => ?_)
  unfold m__law_mix
  exact
    (jss_cons (js_set (i := 2) sc__law_mix.nd rfl (by first | exact .inl rfl | exact .inr rfl) (je_pv 1))
     (jss_cons (js_for (passes_of rfl) rfl (ji_val (je_pv 0)) (jg_name (i := 3) sc__law_mix.nd rfl (by first | exact .inl rfl | exact .inr rfl))
      (jss_one (js_set (i := 2) sc__law_mix.nd rfl (by first | exact .inl rfl | exact .inr rfl) (je_op op_mod s_mod (je_callTy call_intB c_int c.fr_int (ja_cons (je_op op_addAll s_add (je_op op_addAll s_add (je_op op_mulAll s_mul (je_pv 2) je_int) (je_op op_mod s_mod (je_callTy call_intB c_int c.fr_int (ja_cons (je_pv 3) ja_nil)) je_int)) je_int) ja_nil)) je_int))))
      (jss_one (js_ret (je_new (jl_lst (ja_cons (je_pv 2) (ja_cons (je_new (jl_list c.fr_list (ja_cons (je_pv 0) ja_nil))) (ja_cons je_int ja_nil)))))))))
theorem sc__law_next : FnScope ["_law_h", "_law_limit", "_law_cell"] ["_law_h", "_law_limit"] (defScope s__law_next) := ⟨rfl, rfl, rfl, by decide +kernel, rfl, by decide +kernel, by decide +kernel⟩
theorem b__law_next (c : Fx w K mg) : Binds K c.fd__law_next ["_law_h", "_law_limit"] [] := c.F__law_next.bindsN fun _ _ _ _ _ _ us hl => match us, hl with | [_, _], _ => rfl
theorem ok__law_next (c : Fx w K mg) (base : Heap) : FnOk P w K mg base (L2.CX P w) 1 (He.ga K "_law_next") c.fd__law_next ["_law_h", "_law_limit"] (spG K 2 f__law_next) := by
  refine (show FnOk P w K mg base (L2.CX P w) (0 + 1) (He.ga K "_law_next") c.fd__law_next ["_law_h", "_law_limit"] (spG K ["_law_h", "_law_limit"].length (runG ["_law_h", "_law_limit", "_law_cell"].length m__law_next)) from jdG (N := ["_law_h", "_law_limit", "_law_cell"]) (ps := ["_law_h", "_law_limit"]) (k := 0) (ms := m__law_next) c.F__law_next sc__law_next fun cdv A outer s H E hr => ?_)
  unfold m__law_next
  exact
    (jss_cons (js_set (i := 2) sc__law_next.nd rfl (by first | exact .inl rfl | exact .inr rfl) (je_ix (je_op op_addAll s_add (je_ix (je_pv 0) je_int) (je_ofL (jl_lst (ja_cons je_int ja_nil)))) (je_op op_mod s_mod (je_callTy call_intB c_int c.fr_int (ja_cons (je_ix (je_pv 0) je_int) ja_nil)) (je_callB (call_max2 rfl) c_max2 c.fr_max (ja_cons je_int (ja_cons (je_callB call_len (c_len (X := _)) c.fr_len (ja_cons (je_ix (je_pv 0) je_int) ja_nil)) ja_nil))))))
     (jss_cons (js_if (jt_cmp op_ge s_cmp (nomark _) (je_pv 2) (je_op op_pow s_pow je_int je_int))
      (jss_cons (js_sub (je_ix (je_pv 0) je_int) (je_op op_mod s_mod (je_callTy call_intB c_int c.fr_int (ja_cons (je_ix (je_pv 0) je_int) ja_nil)) (je_callB call_len (c_len (X := _)) c.fr_len (ja_cons (je_ix (je_pv 0) je_int) ja_nil))) (je_op op_fdiv s_div (je_pv 2) (je_pv 1)))
       (jss_one (js_ret (je_op op_mod s_mod (je_callTy call_intB c_int c.fr_int (ja_cons (je_pv 2) ja_nil)) (je_pv 1)))))
      jss_nil)
      (jss_cons (js_sub (je_pv 0) je_int (je_op op_mod s_mod (je_callTy call_intB c_int c.fr_int (ja_cons (je_op op_addAll s_add (je_op op_addAll s_add (je_op op_mulAll s_mul (je_ix (je_pv 0) je_int) je_int) (je_op op_mulAll s_mul (je_pv 2) je_int)) je_int) ja_nil)) je_int))
       (jss_cons (js_sub (je_pv 0) je_int (je_op op_addAll s_add (je_ix (je_pv 0) je_int) je_int))
        (jss_one (js_ret (je_op op_mod s_mod (je_callTy call_intB c_int c.fr_int (ja_cons (je_op op_fdiv s_div (je_ix (je_pv 0) je_int) je_int) ja_nil)) (je_pv 1))))))))
theorem sc__law_orders : FnScope ["_law_goals", "_law_found", "_law_goal", "_law_longer", "_law_some", "_law_k"] ["_law_goals"] (defScope s__law_orders) := ⟨rfl, rfl, rfl, by decide +kernel, rfl, by decide +kernel, by decide +kernel⟩
theorem b__law_orders (c : Fx w K mg) : Binds K c.fd__law_orders ["_law_goals"] [] := c.F__law_orders.bindsN fun _ _ _ _ _ _ us hl => match us, hl with | [_], _ => rfl
theorem ok__law_orders (c : Fx w K mg) (base : Heap) : FnOk P w K mg base (L2.CX P w) 1 (He.ga K "_law_orders") c.fd__law_orders ["_law_goals"] (spF K 1 f__law_orders) := by
  refine (show FnOk P w K mg base (L2.CX P w) (0 + 1) (He.ga K "_law_orders") c.fd__law_orders ["_law_goals"] (spF K ["_law_goals"].length (runF ["_law_goals", "_law_found", "_law_goal", "_law_longer", "_law_some", "_law_k"].length m__law_orders)) from jd (N := ["_law_goals", "_law_found", "_law_goal", "_law_longer", "_law_some", "_law_k"]) (ps := ["_law_goals"]) (k := 0) (ms := m__law_orders) c.F__law_orders sc__law_orders fun cdv A outer s H E hr => ?_)
  unfold m__law_orders
  exact
    (jss_cons (js_set (i := 1) sc__law_orders.nd rfl (by first | exact .inl rfl | exact .inr rfl) (je_ofL (jl_lst (ja_cons (je_tup ja_nil) ja_nil))))
     (jss_cons (js_for (passes_of rfl) rfl (ji_val (je_pv 0)) (jg_name (i := 2) sc__law_orders.nd rfl (by first | exact .inl rfl | exact .inr rfl))
      (jss_cons (js_set (i := 3) sc__law_orders.nd rfl (by first | exact .inl rfl | exact .inr rfl) (je_ofL (jl_lst ja_nil)))
       (jss_cons (js_for (passes_of rfl) rfl (ji_val (je_pv 1)) (jg_name (i := 4) sc__law_orders.nd rfl (by first | exact .inl rfl | exact .inr rfl))
        (jss_one (js_set (i := 3) sc__law_orders.nd rfl (by first | exact .inl rfl | exact .inr rfl) (je_op op_addAll s_add (je_pv 3) (je_ofL (jl_lc [("_law_k", 5)] rfl sc__law_orders.nd (ji_range1 c.fr_range (ja_cons (je_op op_addAll s_add (je_callB call_len (c_len (X := _)) c.fr_len (ja_cons (je_pv 4) ja_nil)) je_int) ja_nil)) (blkOk_by (by kernel_rfl)) ⟨_, nt_name 5, fun _ _ _ _ _ => pg_name sc__law_orders.nd rfl (by first | exact .inl rfl | exact .inr rfl)⟩ (fun _ _ _ _ _ => jts_nil) (fun _ _ _ _ _ => (je_op op_addAll s_add (je_op op_addAll s_add (je_sl (je_pv 4) jo_none (jo_some (je_pv 5))) (je_tup (ja_cons (je_pv 2) ja_nil))) (je_sl (je_pv 4) (jo_some (je_pv 5)) jo_none)))))))))
        (jss_one (js_set (i := 1) sc__law_orders.nd rfl (by first | exact .inl rfl | exact .inr rfl) (je_pv 3))))))
      (jss_one (js_ret (je_callB (cr_sortD (u65 hr)) c_sorted c.fr_sorted (ja_cons (je_pv 1) ja_nil))))))
theorem sc__law_total : FnScope ["_law_tables", "_law_begin", "_law_order", "_law_heavy", "_law_paces", "_law_total_here", "_law_here", "_law_cell"] ["_law_tables", "_law_begin", "_law_order", "_law_heavy"] (defScope s__law_total) := ⟨rfl, rfl, rfl, by decide +kernel, rfl, by decide +kernel, by decide +kernel⟩
theorem b__law_total (c : Fx w K mg) : Binds K c.fd__law_total ["_law_tables", "_law_begin", "_law_order", "_law_heavy"] [] := c.F__law_total.bindsN fun _ _ _ _ _ _ us hl => match us, hl with | [_, _, _, _], _ => rfl
theorem ok__law_total (c : Fx w K mg) (base : Heap) : FnOk P w K mg base (L2.CX P w) 1 (He.ga K "_law_total") c.fd__law_total ["_law_tables", "_law_begin", "_law_order", "_law_heavy"] (spF K 4 f__law_total) := by
  refine (show FnOk P w K mg base (L2.CX P w) (0 + 1) (He.ga K "_law_total") c.fd__law_total ["_law_tables", "_law_begin", "_law_order", "_law_heavy"] (spF K ["_law_tables", "_law_begin", "_law_order", "_law_heavy"].length (runF ["_law_tables", "_law_begin", "_law_order", "_law_heavy", "_law_paces", "_law_total_here", "_law_here", "_law_cell"].length m__law_total)) from jd (N := ["_law_tables", "_law_begin", "_law_order", "_law_heavy", "_law_paces", "_law_total_here", "_law_here", "_law_cell"]) (ps := ["_law_tables", "_law_begin", "_law_order", "_law_heavy"]) (k := 0) (ms := m__law_total) c.F__law_total sc__law_total fun cdv A outer s H E hr => ?_)
  unfold m__law_total
  exact
    (jss_cons (js_par3 (i := 4) (j := 5) (l := 6) rfl sc__law_total.nd (ja_cons je_int (ja_cons je_int (ja_cons (je_pv 1) ja_nil))))
     (jss_cons (js_for (passes_of rfl) rfl (ji_val (je_pv 2)) (jg_name (i := 7) sc__law_total.nd rfl (by first | exact .inl rfl | exact .inr rfl))
      (jss_cons (js_par (i := 4) (j := 6) rfl sc__law_total.nd (ja_cons (je_op op_addAll s_add (je_pv 4) (je_dget (u65 hr) (je_dget (u65 hr) (je_pv 0) (je_pv 6)) (je_pv 7))) (ja_cons (je_pv 7) ja_nil)))
       (jss_one (js_set (i := 5) sc__law_total.nd rfl (by first | exact .inl rfl | exact .inr rfl) (je_op op_addAll s_add (je_pv 5) (je_op op_mulAll s_mul (je_pv 4) (je_dget (u65 hr) (je_pv 3) (je_pv 7))))))))
      (jss_one (js_ret (je_pv 5)))))
theorem sc_Island____contains__ : FnScope ["self", "cell", "row", "column"] ["self", "cell"] (defScope s_Island____contains__) := ⟨rfl, rfl, rfl, by decide +kernel, rfl, by decide +kernel, by decide +kernel⟩
theorem b_Island____contains__ (c : Fx w K mg) : Binds K c.fd_Island____contains__ ["self", "cell"] [] := c.F_Island____contains__.bindsN fun _ _ _ _ _ _ us hl => match us, hl with | [_, _], _ => rfl
theorem ok_Island____contains__ (c : Fx w K mg) (base : Heap) : FnOk P w K mg base (L2.CX P w) 1 (He.ma K (He.ga K "Island") "__contains__") c.fd_Island____contains__ ["self", "cell"] (spF K 2 f_Island____contains__) := by
  refine (show FnOk P w K mg base (L2.CX P w) (0 + 1) (He.ma K (He.ga K "Island") "__contains__") c.fd_Island____contains__ ["self", "cell"] (spF K ["self", "cell"].length (runF ["self", "cell", "row", "column"].length m_Island____contains__)) from jd (N := ["self", "cell", "row", "column"]) (ps := ["self", "cell"]) (k := 0) (ms := m_Island____contains__) c.F_Island____contains__ sc_Island____contains__ fun cdv A outer s H E hr => ?_)
  unfold m_Island____contains__
  exact
    (jss_cons (js_asg (jg_tup rfl (jgs_cons (jg_name (i := 2) sc_Island____contains__.nd rfl (by first | exact .inl rfl | exact .inr rfl)) (jgs_cons (jg_name (i := 3) sc_Island____contains__.nd rfl (by first | exact .inl rfl | exact .inr rfl)) jgs_nil))) (je_pv 1))
     (jss_cons (js_if (jw_pt (jw_or (jt_not (jt_chain op_le s_cmp op_lt s_cmp je_int (je_pv 2) (je_callB call_len (c_len (X := _)) c.fr_len (ja_cons (je_fld ["Island"] (by intro z hz; first | (have e : z = "Island" := by simpa using hz); subst e; exact ⟨c.cl_Island, c.na_Island_own_rows⟩) (je_pv 0)) ja_nil)))) (jw_or1 (jt_not (jt_chain op_le s_cmp op_lt s_cmp je_int (je_pv 3) (je_callB call_len (c_len (X := _)) c.fr_len (ja_cons (je_ix (je_fld ["Island"] (by intro z hz; first | (have e : z = "Island" := by simpa using hz); subst e; exact ⟨c.cl_Island, c.na_Island_own_rows⟩) (je_pv 0)) je_int) ja_nil)))))))
      (jss_one (js_ret je_bl))
      jss_nil)
      (jss_one (js_ret (je_cmp (op_neD hr.units) s_ne (nomark _) (je_ix (je_ix (je_fld ["Island"] (by intro z hz; first | (have e : z = "Island" := by simpa using hz); subst e; exact ⟨c.cl_Island, c.na_Island_own_rows⟩) (je_pv 0)) (je_pv 2)) (je_pv 3)) (je_gc c.gc_WATER))))))
theorem sc_validate_cell : FnScope ["island", "cell"] ["island", "cell"] (defScope s_validate_cell) := ⟨rfl, rfl, rfl, by decide +kernel, rfl, by decide +kernel, by decide +kernel⟩
theorem b_validate_cell (c : Fx w K mg) : Binds K c.fd_validate_cell ["island", "cell"] [] := c.F_validate_cell.bindsN fun _ _ _ _ _ _ us hl => match us, hl with | [_, _], _ => rfl
theorem ok_validate_cell (c : Fx w K mg) (base : Heap) : FnOk P w K mg base (L2.CX P w) 2 (He.ga K "validate_cell") c.fd_validate_cell ["island", "cell"] (spF K 2 f_validate_cell) := by
  refine (show FnOk P w K mg base (L2.CX P w) (1 + 1) (He.ga K "validate_cell") c.fd_validate_cell ["island", "cell"] (spF K ["island", "cell"].length (runF ["island", "cell"].length m_validate_cell)) from jd (N := ["island", "cell"]) (ps := ["island", "cell"]) (k := 1) (ms := m_validate_cell) c.F_validate_cell sc_validate_cell fun cdv A outer s H E hr => ?_)
  unfold m_validate_cell
  exact
    (jss_one (js_if (jt_cmp (op_notInO c.me_Island___contains__ (ok_Island____contains__ c _) (hr.mono (by decide)) (b_Island____contains__ c)) s_inO (by rfl) (je_pv 1) (je_pv 0))
     (jss_one js_never)
     jss_nil))
theorem sc_neighbors : FnScope ["island", "cell", "some", "down", "right", "other"] ["island", "cell"] (defScope s_neighbors) := ⟨rfl, rfl, rfl, by decide +kernel, rfl, by decide +kernel, by decide +kernel⟩
theorem b_neighbors (c : Fx w K mg) : Binds K c.fd_neighbors ["island", "cell"] [] := c.F_neighbors.bindsN fun _ _ _ _ _ _ us hl => match us, hl with | [_, _], _ => rfl
theorem ok_neighbors (c : Fx w K mg) (base : Heap) : FnOk P w K mg base (L2.CX P w) 2 (He.ga K "neighbors") c.fd_neighbors ["island", "cell"] (spF K 2 f_neighbors) := by
  refine (show FnOk P w K mg base (L2.CX P w) (1 + 1) (He.ga K "neighbors") c.fd_neighbors ["island", "cell"] (spF K ["island", "cell"].length (runF ["island", "cell", "some", "down", "right", "other"].length m_neighbors)) from jd (N := ["island", "cell", "some", "down", "right", "other"]) (ps := ["island", "cell"]) (k := 1) (ms := m_neighbors) c.F_neighbors sc_neighbors fun cdv A outer s H E hr => ?_)
  unfold m_neighbors
  exact
    (jss_cons (js_setLc (i := 2) [("down", 3), ("right", 4)] false rfl sc_neighbors.nd rfl rfl rfl (ji_val (je_gc c.gc_MOVES)) (blkOk_by (by kernel_rfl)) ⟨_, nt_tup (nts_cons (nt_name 3) (nts_cons (nt_name 4) nts_nil)), fun _ _ _ _ _ => pg_tup rfl (pgs_cons (pg_name sc_neighbors.nd rfl (by first | exact .inl rfl | exact .inr rfl)) (pgs_cons (pg_name sc_neighbors.nd rfl (by first | exact .inl rfl | exact .inr rfl)) pgs_nil))⟩ (fun _ _ _ _ _ => jts_nil) (fun _ _ _ _ _ => (je_tup (ja_cons (je_op op_addAll s_add (je_ix (je_pv 1) je_int) (je_pv 3)) (ja_cons (je_op op_addAll s_add (je_ix (je_pv 1) je_int) (je_pv 4)) ja_nil)))))
     (jss_one (js_ret (je_callB (cr_sortD (u65 hr)) c_sorted c.fr_sorted (ja_cons (je_ofL (jl_lc [("other", 5)] rfl sc_neighbors.nd (ji_val (je_pv 2)) (blkOk_by (by kernel_rfl)) ⟨_, nt_name 5, fun _ _ _ _ _ => pg_name sc_neighbors.nd rfl (by first | exact .inl rfl | exact .inr rfl)⟩ (fun _ _ _ _ _ => jts_one (jt_cmp (op_inO c.me_Island___contains__ (ok_Island____contains__ c _) (hr.mono (by decide)) (b_Island____contains__ c)) s_inO (by rfl) (je_pv 5) (je_pv 0))) (fun _ _ _ _ _ => (je_pv 5)))) ja_nil)))))
theorem sc_distances : FnScope ["island", "cell", "found", "level", "later", "here", "other"] ["island", "cell"] (defScope s_distances) := ⟨rfl, rfl, rfl, by decide +kernel, rfl, by decide +kernel, by decide +kernel⟩
theorem b_distances (c : Fx w K mg) : Binds K c.fd_distances ["island", "cell"] [] := c.F_distances.bindsN fun _ _ _ _ _ _ us hl => match us, hl with | [_, _], _ => rfl
theorem ok_distances (c : Fx w K mg) (base : Heap) : FnOk P w K mg base (L2.CX P w) 3 (He.ga K "distances") c.fd_distances ["island", "cell"] (spF K 2 f_distances) := by
  refine (show FnOk P w K mg base (L2.CX P w) (2 + 1) (He.ga K "distances") c.fd_distances ["island", "cell"] (spF K ["island", "cell"].length (runF ["island", "cell", "found", "level", "later", "here", "other"].length m_distances)) from jd (N := ["island", "cell", "found", "level", "later", "here", "other"]) (ps := ["island", "cell"]) (k := 2) (ms := m_distances) c.F_distances sc_distances fun cdv A outer s H E hr => ?_)
  unfold m_distances
  exact
    (jss_cons (js_par (i := 2) (j := 3) rfl sc_distances.nd (ja_cons (je_disp1 (u65 hr) (je_pv 1) je_int) (ja_cons (je_ofL (jl_lst (ja_cons (je_pv 1) ja_nil))) ja_nil)))
     (jss_cons (js_while 200 (passes_of rfl) (jt_cmp (op_neD hr.units) s_ne (nomark _) (je_pv 3) (je_ofL (jl_lst ja_nil)))
      (jss_cons (js_set (i := 4) sc_distances.nd rfl (by first | exact .inl rfl | exact .inr rfl) (je_new (jl_lst ja_nil)))
       (jss_cons (js_for (passes_of rfl) rfl (ji_val (je_pv 3)) (jg_name (i := 5) sc_distances.nd rfl (by first | exact .inl rfl | exact .inr rfl))
        (jss_one (js_for (passes_of rfl) rfl (ji_val (je_call (ok_neighbors c _) (hr.mono (by decide)) c.g_neighbors c.F_neighbors.kp (b_neighbors c) (takes_of rfl rfl rfl rfl) (ja_cons (je_pv 0) (ja_cons (je_pv 5) ja_nil)) (hla := (mCons_len (mCons_len mNil_len))))) (jg_name (i := 6) sc_distances.nd rfl (by first | exact .inl rfl | exact .inr rfl))
         (jss_one (js_if (jt_cmp (op_dnotin (u65 hr)) s_dnotin (by rfl) (je_pv 6) (je_pv 2))
          (jss_cons (js_dput (u65 hr) (je_pv 2) (je_pv 6) (je_op op_addAll s_add (je_dget (u65 hr) (je_pv 2) (je_pv 5)) je_int))
           (jss_one (js_expr (je_bm PySem.F.plainAttrs_list PySem.F.slot_list_append PySem.F.type_list_append mt_append m_append ty_lst (je_pv 4) (ja_cons (je_pv 6) ja_nil)))))
          jss_nil)))))
        (jss_fz 4 (jss_one (js_set (i := 3) sc_distances.nd rfl (by first | exact .inl rfl | exact .inr rfl) (je_pv 4)))))))
      (jss_fzD 2 (jss_one (js_ret (je_pv 2))))))
theorem sc_Waits____init__ : FnScope ["self", "island", "begin", "heavy", "cell"] ["self", "island", "begin", "heavy"] (defScope s_Waits____init__) := ⟨rfl, rfl, rfl, by decide +kernel, rfl, by decide +kernel, by decide +kernel⟩
theorem b_Waits____init__ (c : Fx w K mg) : Binds K c.fd_Waits____init__ ["self", "island", "begin", "heavy"] [] := c.F_Waits____init__.bindsN fun _ _ _ _ _ _ us hl => match us, hl with | [_, _, _, _], _ => rfl
theorem ok_Waits____init__ (c : Fx w K mg) (base : Heap) : FnOk P w K mg base (L2.CX P w) 4 (He.ma K (He.ga K "Waits") "__init__") c.fd_Waits____init__ ["self", "island", "begin", "heavy"] (spG K 4 f_Waits____init__) := by
  refine (show FnOk P w K mg base (L2.CX P w) (3 + 1) (He.ma K (He.ga K "Waits") "__init__") c.fd_Waits____init__ ["self", "island", "begin", "heavy"] (spG K ["self", "island", "begin", "heavy"].length (runG ["self", "island", "begin", "heavy", "cell"].length m_Waits____init__)) from jdG (N := ["self", "island", "begin", "heavy", "cell"]) (ps := ["self", "island", "begin", "heavy"]) (k := 3) (ms := m_Waits____init__) c.F_Waits____init__ sc_Waits____init__ fun cdv A outer s H E hr => ?_)
  unfold m_Waits____init__
  exact
    (jss_cons (js_fld ["Waits"] (by intro z hz; first | (have e : z = "Waits" := by simpa using hz); subst e; exact ⟨c.cl_Waits, c.na_Waits_heavy⟩) (je_pv 0) (je_pv 3))
     (jss_cons (js_fld ["Waits"] (by intro z hz; first | (have e : z = "Waits" := by simpa using hz); subst e; exact ⟨c.cl_Waits, c.na_Waits_tables⟩) (je_pv 0) (je_dfz (jd_dc [("cell", 4)] (u65 hr) rfl sc_Waits____init__.nd (ji_val (je_ofL (jl_lst (ja_cons (je_pv 2) (ja_starT rfl (je_pv 3) ja_nil))))) (blkOk_by (by kernel_rfl)) ⟨_, nt_name 4, fun _ _ _ _ _ => pg_name sc_Waits____init__.nd rfl (by first | exact .inl rfl | exact .inr rfl)⟩ (fun _ _ _ _ _ => jts_nil) (fun _ _ _ _ _ => (je_pv 4)) (fun _ _ _ _ _ => (je_call (ok_distances c _) (hr.mono (by decide)) c.g_distances c.F_distances.kp (b_distances c) takes0 (ja_cons (je_pv 1) (ja_cons (je_pv 4) ja_nil)) (hla := (mCons_len (mCons_len mNil_len))))))))
      (jss_one (js_fld ["Waits"] (by intro z hz; first | (have e : z = "Waits" := by simpa using hz); subst e; exact ⟨c.cl_Waits, c.na_Waits_known⟩) (je_pv 0) je_dnewT))))
theorem sc_Waits__totals : FnScope ["self", "cell", "left", "weight", "found", "goal", "rest", "other"] ["self", "cell", "left"] (defScope s_Waits__totals) := ⟨rfl, rfl, rfl, by decide +kernel, rfl, by decide +kernel, by decide +kernel⟩
theorem b_Waits__totals (c : Fx w K mg) : Binds K c.fd_Waits__totals ["self", "cell", "left"] [] := c.F_Waits__totals.bindsN fun _ _ _ _ _ _ us hl => match us, hl with | [_, _, _], _ => rfl
theorem b_Waits__least0 (c : Fx w K mg) : Binds K c.fd_Waits__least ["self", "cell", "left"] [] := c.F_Waits__least.bindsN fun _ _ _ _ _ _ us hl => match us, hl with | [_, _, _], _ => rfl
theorem ok_Waits__totals (c : Fx w K mg) (base : Heap) {k : Nat} (hk : 1 ≤ k) {f : MG} (F : FnOk P w K mg base (L2.CX P w) k (He.ma K (He.ga K "Waits") "least") c.fd_Waits__least ["self", "cell", "left"] (spG K 3 f)) : FnOk P w K mg base (L2.CX P w) (k + 1) (He.ma K (He.ga K "Waits") "totals") c.fd_Waits__totals ["self", "cell", "left"] (spG K 3 (f_Waits__totals f)) := by
  refine (show FnOk P w K mg base (L2.CX P w) (k + 1) (He.ma K (He.ga K "Waits") "totals") c.fd_Waits__totals ["self", "cell", "left"] (spG K ["self", "cell", "left"].length (runG ["self", "cell", "left", "weight", "found", "goal", "rest", "other"].length (r_Waits__totals f))) from jdG (N := ["self", "cell", "left", "weight", "found", "goal", "rest", "other"]) (ps := ["self", "cell", "left"]) (k := k) (ms := (r_Waits__totals f)) c.F_Waits__totals sc_Waits__totals fun cdv A outer s H E hr => ?_)
  unfold r_Waits__totals
  exact
    (jss_cons (js_par (i := 3) (j := 4) rfl sc_Waits__totals.nd (ja_cons (je_callB (cr_sum rfl) c_sum1 c.fr_sum (ja_cons (je_ofL (jl_lc [("goal", 5)] rfl sc_Waits__totals.nd (ji_val (je_pv 2)) (blkOk_by (by kernel_rfl)) ⟨_, nt_name 5, fun _ _ _ _ _ => pg_name sc_Waits__totals.nd rfl (by first | exact .inl rfl | exact .inr rfl)⟩ (fun _ _ _ _ _ => jts_nil) (fun _ _ _ _ _ => (je_dget (u65 hr) (je_fld ["Waits"] (by intro z hz; first | (have e : z = "Waits" := by simpa using hz); subst e; exact ⟨c.cl_Waits, c.na_Waits_heavy⟩) (je_pv 0)) (je_pv 5))))) ja_nil)) (ja_cons (je_new (jl_lst ja_nil)) ja_nil)))
     (jss_cons (js_for (passes_of rfl) rfl (ji_val (je_pv 2)) (jg_name (i := 5) sc_Waits__totals.nd rfl (by first | exact .inl rfl | exact .inr rfl))
      (jss_cons (js_set (i := 6) sc_Waits__totals.nd rfl (by first | exact .inl rfl | exact .inr rfl) (je_callTy call_tuple_of c_tuple c.fr_tuple (ja_cons (je_ofL (jl_lc [("other", 7)] rfl sc_Waits__totals.nd (ji_val (je_pv 2)) (blkOk_by (by kernel_rfl)) ⟨_, nt_name 7, fun _ _ _ _ _ => pg_name sc_Waits__totals.nd rfl (by first | exact .inl rfl | exact .inr rfl)⟩ (fun _ _ _ _ _ => jts_one (jt_cmp (op_neD hr.units) s_ne (nomark _) (je_pv 7) (je_pv 5))) (fun _ _ _ _ _ => (je_pv 7)))) ja_nil)))
       (jss_one (js_expr (je_bm PySem.F.plainAttrs_list PySem.F.slot_list_append PySem.F.type_list_append mt_append m_append ty_lst (je_pv 4) (ja_cons (je_tup (ja_cons (je_op op_addAll s_add (je_op op_mulAll s_mul (je_dget (u65 hr) (je_dget (u65 hr) (je_fld ["Waits"] (by intro z hz; first | (have e : z = "Waits" := by simpa using hz); subst e; exact ⟨c.cl_Waits, c.na_Waits_tables⟩) (je_pv 0)) (je_pv 1)) (je_pv 5)) (je_pv 3)) (je_methG (je_pv 0) c.cl_Waits c.me_Waits_least F (hr.mono (Nat.le_refl _)) (b_Waits__least0 c) (takes_of rfl rfl rfl rfl) (ja_cons (je_pv 5) (ja_cons (je_pv 6) ja_nil)) (mCons_len (mCons_len mNil_len)))) (ja_cons (je_pv 5) ja_nil))) ja_nil))))))
      (jss_fz 4 (jss_one (js_ret (je_pv 4))))))
theorem sc_Waits__least : FnScope ["self", "cell", "left", "total", "goal"] ["self", "cell", "left"] (defScope s_Waits__least) := ⟨rfl, rfl, rfl, by decide +kernel, rfl, by decide +kernel, by decide +kernel⟩
theorem b_Waits__least (c : Fx w K mg) : Binds K c.fd_Waits__least ["self", "cell", "left"] [] := c.F_Waits__least.bindsN fun _ _ _ _ _ _ us hl => match us, hl with | [_, _, _], _ => rfl
theorem ok_Waits__least (c : Fx w K mg) (base : Heap) : ∀ n : Nat, FnOk P w K mg base (L2.CX P w) (1 + 2 * n) (He.ma K (He.ga K "Waits") "least") c.fd_Waits__least ["self", "cell", "left"] (spG K 3 (f_Waits__least n))
  | 0 => fnOk0G
  | n + 1 => by
    have F := ok_Waits__least c base n
    refine (show FnOk P w K mg base (L2.CX P w) ((1 + 2 * n + 1) + 1) (He.ma K (He.ga K "Waits") "least") c.fd_Waits__least ["self", "cell", "left"] (spG K ["self", "cell", "left"].length (runG ["self", "cell", "left", "total", "goal"].length (r_Waits__least (f_Waits__least n)))) from jdG (N := ["self", "cell", "left", "total", "goal"]) (ps := ["self", "cell", "left"]) (k := (1 + 2 * n + 1)) (ms := (r_Waits__least (f_Waits__least n))) c.F_Waits__least sc_Waits__least fun cdv A outer s H E hr => ?_)
    unfold r_Waits__least
    exact
      (jss_cons (js_if (jt_cmp (op_eqD hr.units) s_eq (nomark _) (je_pv 2) (je_tup ja_nil))
       (jss_one (js_ret je_int))
       jss_nil)
       (jss_cons (js_if (jt_cmp (op_dnotin (u65 hr)) s_dnotin (by rfl) (je_tup (ja_cons (je_pv 1) (ja_cons (je_pv 2) ja_nil))) (je_fld ["Waits"] (by intro z hz; first | (have e : z = "Waits" := by simpa using hz); subst e; exact ⟨c.cl_Waits, c.na_Waits_known⟩) (je_pv 0)))
        (jss_one (js_dput (u65 hr) (je_fld ["Waits"] (by intro z hz; first | (have e : z = "Waits" := by simpa using hz); subst e; exact ⟨c.cl_Waits, c.na_Waits_known⟩) (je_pv 0)) (je_tup (ja_cons (je_pv 1) (ja_cons (je_pv 2) ja_nil))) (je_callB (cr_min rfl) c_min1 c.fr_min (ja_cons (je_ofL (jl_lc [("total", 3), ("goal", 4)] rfl sc_Waits__least.nd (ji_val (je_methG (je_pv 0) c.cl_Waits c.me_Waits_totals (ok_Waits__totals c _ (by omega) F) (hr.mono (Nat.le_refl _)) (b_Waits__totals c) (takes_of rfl rfl rfl rfl) (ja_cons (je_pv 1) (ja_cons (je_pv 2) ja_nil)) (mCons_len (mCons_len mNil_len)))) (blkOk_by (by kernel_rfl)) ⟨_, nt_tup (nts_cons (nt_name 3) (nts_cons (nt_name 4) nts_nil)), fun _ _ _ _ _ => pg_tup rfl (pgs_cons (pg_name sc_Waits__least.nd rfl (by first | exact .inl rfl | exact .inr rfl)) (pgs_cons (pg_name sc_Waits__least.nd rfl (by first | exact .inl rfl | exact .inr rfl)) pgs_nil))⟩ (fun _ _ _ _ _ => jts_nil) (fun _ _ _ _ _ => (je_pv 3)))) ja_nil))))
        jss_nil)
        (jss_one (js_ret (je_dget (u65 hr) (je_fld ["Waits"] (by intro z hz; first | (have e : z = "Waits" := by simpa using hz); subst e; exact ⟨c.cl_Waits, c.na_Waits_known⟩) (je_pv 0)) (je_tup (ja_cons (je_pv 1) (ja_cons (je_pv 2) ja_nil))))))))
theorem sc_waited : FnScope ["island", "begin", "heavy", "waits", "left", "total", "order", "here", "due", "cell", "points", "goal"] ["island", "begin", "heavy"] (defScope s_waited) := ⟨rfl, rfl, rfl, by decide +kernel, rfl, by decide +kernel, by decide +kernel⟩
theorem b_waited (c : Fx w K mg) : Binds K c.fd_waited ["island", "begin", "heavy"] [] := c.F_waited.bindsN fun _ _ _ _ _ _ us hl => match us, hl with | [_, _, _], _ => rfl
theorem ok_waited (c : Fx w K mg) (base : Heap) : FnOk P w K mg base (L2.CX P w) 19 (He.ga K "waited") c.fd_waited ["island", "begin", "heavy"] (spF K 3 f_waited) := by
  refine (show FnOk P w K mg base (L2.CX P w) (18 + 1) (He.ga K "waited") c.fd_waited ["island", "begin", "heavy"] (spF K ["island", "begin", "heavy"].length (runF ["island", "begin", "heavy", "waits", "left", "total", "order", "here", "due", "cell", "points", "goal"].length m_waited)) from jd (N := ["island", "begin", "heavy", "waits", "left", "total", "order", "here", "due", "cell", "points", "goal"]) (ps := ["island", "begin", "heavy"]) (k := 18) (ms := m_waited) c.F_waited sc_waited fun cdv A outer s H E hr => ?_)
  unfold m_waited
  exact
    (jss_cons (js_if (jt_cmp op_gt s_cmp (nomark _) (je_callB cr_lenN c_lenT c.fr_len (ja_cons (je_pv 2) ja_nil)) (je_gc c.gc_MAX_GOALS))
     (jss_one js_never)
     jss_nil)
     (jss_cons (js_asgT rfl (jgs_cons (jg_name (i := 3) sc_waited.nd rfl (by first | exact .inl rfl | exact .inr rfl)) (jgs_cons (jg_name (i := 4) sc_waited.nd rfl (by first | exact .inl rfl | exact .inr rfl)) jgs_nil)) (ja_cons (je_makeG c.mk_Waits (ok_Waits____init__ c _) (hr.mono (by decide)) c.g_Waits (b_Waits____init__ c) (takes_of rfl rfl rfl rfl) (ja_cons (je_pv 0) (ja_cons (je_pv 1) (ja_cons (je_pv 2) ja_nil))) (mCons_len (mCons_len (mCons_len mNil_len)))) (ja_cons (je_callTy call_tuple_of c_tuple c.fr_tuple (ja_cons (je_callB (cr_sortN rfl (u65 hr)) c_sortedT c.fr_sorted (ja_cons (je_pv 2) ja_nil)) ja_nil)) ja_nil)))
      (jss_cons (js_if (jt_cmp (op_neD hr.units) s_ne (nomark _) (je_ofL (jl_lc [("cell", 9)] rfl sc_waited.nd (ji_val (je_pv 4)) (blkOk_by (by kernel_rfl)) ⟨_, nt_name 9, fun _ _ _ _ _ => pg_name sc_waited.nd rfl (by first | exact .inl rfl | exact .inr rfl)⟩ (fun _ _ _ _ _ => jts_one (jt_cmp (op_dnotin (u65 hr)) s_dnotin (by rfl) (je_pv 9) (je_dget (u65 hr) (je_fld ["Waits"] (by intro z hz; first | (have e : z = "Waits" := by simpa using hz); subst e; exact ⟨c.cl_Waits, c.na_Waits_tables⟩) (je_pv 3)) (je_pv 1)))) (fun _ _ _ _ _ => (je_pv 9)))) (je_ofL (jl_lst ja_nil)))
       (jss_one (js_ret je_non))
       jss_nil)
       (jss_cons (js_asgT rfl (jgs_cons (jg_name (i := 5) sc_waited.nd rfl (by first | exact .inl rfl | exact .inr rfl)) (jgs_cons (jg_name (i := 6) sc_waited.nd rfl (by first | exact .inl rfl | exact .inr rfl)) (jgs_cons (jg_name (i := 7) sc_waited.nd rfl (by first | exact .inl rfl | exact .inr rfl)) jgs_nil))) (ja_cons (je_methG (je_pv 3) c.cl_Waits c.me_Waits_least (ok_Waits__least c _ 8) (hr.mono (by decide)) (b_Waits__least c) (takes_of rfl rfl rfl rfl) (ja_cons (je_pv 1) (ja_cons (je_pv 4) ja_nil)) (mCons_len (mCons_len mNil_len))) (ja_cons (je_new (jl_lst ja_nil)) (ja_cons (je_pv 1) ja_nil))))
        (jss_cons (js_while 9 (passes_of rfl) (jt_cmp (op_neD hr.units) s_ne (nomark _) (je_pv 4) (je_tup ja_nil))
         (jss_cons (js_set (i := 8) sc_waited.nd rfl (by first | exact .inl rfl | exact .inr rfl) (je_methG (je_pv 3) c.cl_Waits c.me_Waits_least (ok_Waits__least c _ 8) (hr.mono (by decide)) (b_Waits__least c) (takes_of rfl rfl rfl rfl) (ja_cons (je_pv 7) (ja_cons (je_pv 4) ja_nil)) (mCons_len (mCons_len mNil_len))))
          (jss_cons (js_set (i := 7) sc_waited.nd rfl (by first | exact .inl rfl | exact .inr rfl) (je_ix (je_ofL (jl_lc [("points", 10), ("goal", 11)] rfl sc_waited.nd (ji_val (je_methG (je_pv 3) c.cl_Waits c.me_Waits_totals (ok_Waits__totals c _ (by omega) (ok_Waits__least c _ 8)) (hr.mono (by decide)) (b_Waits__totals c) (takes_of rfl rfl rfl rfl) (ja_cons (je_pv 7) (ja_cons (je_pv 4) ja_nil)) (mCons_len (mCons_len mNil_len)))) (blkOk_by (by kernel_rfl)) ⟨_, nt_tup (nts_cons (nt_name 10) (nts_cons (nt_name 11) nts_nil)), fun _ _ _ _ _ => pg_tup rfl (pgs_cons (pg_name sc_waited.nd rfl (by first | exact .inl rfl | exact .inr rfl)) (pgs_cons (pg_name sc_waited.nd rfl (by first | exact .inl rfl | exact .inr rfl)) pgs_nil))⟩ (fun _ _ _ _ _ => jts_one (jt_cmp (op_eqD hr.units) s_eq (nomark _) (je_pv 10) (je_pv 8))) (fun _ _ _ _ _ => (je_pv 11)))) je_int))
           (jss_cons (js_expr (je_bm PySem.F.plainAttrs_list PySem.F.slot_list_append PySem.F.type_list_append mt_append m_append ty_lst (je_pv 6) (ja_cons (je_pv 7) ja_nil)))
            (jss_one (js_set (i := 4) sc_waited.nd rfl (by first | exact .inl rfl | exact .inr rfl) (je_callTy call_tuple_of c_tuple c.fr_tuple (ja_cons (je_ofL (jl_lc [("goal", 11)] rfl sc_waited.nd (ji_val (je_pv 4)) (blkOk_by (by kernel_rfl)) ⟨_, nt_name 11, fun _ _ _ _ _ => pg_name sc_waited.nd rfl (by first | exact .inl rfl | exact .inr rfl)⟩ (fun _ _ _ _ _ => jts_one (jt_cmp (op_neD hr.units) s_ne (nomark _) (je_pv 11) (je_pv 7))) (fun _ _ _ _ _ => (je_pv 11)))) ja_nil))))))))
         (jss_fz 6 (jss_one (js_ret (je_tup (ja_cons (je_pv 5) (ja_cons (je_pv 6) ja_nil)))))))))))
theorem sc_dig_walk : FnScope ["island", "begin", "cells", "cell"] ["island", "begin", "cells"] (defScope s_dig_walk) := ⟨rfl, rfl, rfl, by decide +kernel, rfl, by decide +kernel, by decide +kernel⟩
theorem b_dig_walk (c : Fx w K mg) : Binds K c.fd_dig_walk ["island", "begin", "cells"] [] := c.F_dig_walk.bindsN fun _ _ _ _ _ _ us hl => match us, hl with | [_, _, _], _ => rfl
theorem ok_dig_walk (c : Fx w K mg) (base : Heap) : FnOk P w K mg base (L2.CX P w) 20 (He.ga K "dig_walk") c.fd_dig_walk ["island", "begin", "cells"] (spF K 3 f_dig_walk) := by
  refine (show FnOk P w K mg base (L2.CX P w) (19 + 1) (He.ga K "dig_walk") c.fd_dig_walk ["island", "begin", "cells"] (spF K ["island", "begin", "cells"].length (runF ["island", "begin", "cells", "cell"].length m_dig_walk)) from jd (N := ["island", "begin", "cells", "cell"]) (ps := ["island", "begin", "cells"]) (k := 19) (ms := m_dig_walk) c.F_dig_walk sc_dig_walk fun cdv A outer s H E hr => ?_)
  unfold m_dig_walk
  exact
    (jss_cons (js_expr (je_call (ok_validate_cell c _) (hr.mono (by decide)) c.g_validate_cell c.F_validate_cell.kp (b_validate_cell c) (takes_of rfl rfl rfl rfl) (ja_cons (je_pv 0) (ja_cons (je_pv 1) ja_nil)) (hla := (mCons_len (mCons_len mNil_len)))))
     (jss_cons (js_for (passes_of rfl) rfl (ji_val (je_pv 2)) (jg_name (i := 3) sc_dig_walk.nd rfl (by first | exact .inl rfl | exact .inr rfl))
      (jss_one (js_expr (je_call (ok_validate_cell c _) (hr.mono (by decide)) c.g_validate_cell c.F_validate_cell.kp (b_validate_cell c) (takes_of rfl rfl rfl rfl) (ja_cons (je_pv 0) (ja_cons (je_pv 3) ja_nil)) (hla := (mCons_len (mCons_len mNil_len)))))))
      (jss_one (js_ret (je_call (ok_waited c _) (hr.mono (by decide)) c.g_waited c.F_waited.kp (b_waited c) (takes_of rfl rfl rfl rfl) (ja_cons (je_pv 0) (ja_cons (je_pv 1) (ja_cons (je_dfz (jd_dc [("cell", 3)] (u65 hr) rfl sc_dig_walk.nd (ji_val (je_pv 2)) (blkOk_by (by kernel_rfl)) ⟨_, nt_name 3, fun _ _ _ _ _ => pg_name sc_dig_walk.nd rfl (by first | exact .inl rfl | exact .inr rfl)⟩ (fun _ _ _ _ _ => jts_nil) (fun _ _ _ _ _ => (je_pv 3)) (fun _ _ _ _ _ => je_int))) ja_nil))) (hla := (mCons_len (mCons_len (mCons_len mNil_len)))))))))
theorem sc_is_number : FnScope ["value", "lowest", "highest"] ["value", "lowest", "highest"] (defScope s_is_number) := ⟨rfl, rfl, rfl, by decide +kernel, rfl, by decide +kernel, by decide +kernel⟩
theorem b_is_number (c : Fx w K mg) : Binds K c.fd_is_number ["value", "lowest", "highest"] [] := c.F_is_number.bindsN fun _ _ _ _ _ _ us hl => match us, hl with | [_, _, _], _ => rfl
theorem ok_is_number (c : Fx w K mg) (base : Heap) : FnOk P w K mg base (L2.CX P w) 1 (He.ga K "is_number") c.fd_is_number ["value", "lowest", "highest"] (spF K 3 f_is_number) := by
  refine (show FnOk P w K mg base (L2.CX P w) (0 + 1) (He.ga K "is_number") c.fd_is_number ["value", "lowest", "highest"] (spF K ["value", "lowest", "highest"].length (runF ["value", "lowest", "highest"].length m_is_number)) from jd (N := ["value", "lowest", "highest"]) (ps := ["value", "lowest", "highest"]) (k := 0) (ms := m_is_number) c.F_is_number sc_is_number fun cdv A outer s H E hr => ?_)
  unfold m_is_number
  exact
    (jss_one (js_ret (je_and (je_isi (b := "int") c.fr_isinstance c.fr_int (je_pv 0)) (je_and (je_not (je_isi (b := "bool") c.fr_isinstance c.fr_bool (je_pv 0))) (je_one (je_chain op_le s_cmp op_le s_cmp (je_pv 1) (je_pv 0) (je_pv 2)))))))
theorem sc_weighed_walk : FnScope ["island", "begin", "weights", "cell", "weight"] ["island", "begin", "weights"] (defScope s_weighed_walk) := ⟨rfl, rfl, rfl, by decide +kernel, rfl, by decide +kernel, by decide +kernel⟩
theorem b_weighed_walk (c : Fx w K mg) : Binds K c.fd_weighed_walk ["island", "begin", "weights"] [] := c.F_weighed_walk.bindsN fun _ _ _ _ _ _ us hl => match us, hl with | [_, _, _], _ => rfl
theorem ok_weighed_walk (c : Fx w K mg) (base : Heap) : FnOk P w K mg base (L2.CX P w) 20 (He.ga K "weighed_walk") c.fd_weighed_walk ["island", "begin", "weights"] (spF K 3 f_weighed_walk) := by
  refine (show FnOk P w K mg base (L2.CX P w) (19 + 1) (He.ga K "weighed_walk") c.fd_weighed_walk ["island", "begin", "weights"] (spF K ["island", "begin", "weights"].length (runF ["island", "begin", "weights", "cell", "weight"].length m_weighed_walk)) from jd (N := ["island", "begin", "weights", "cell", "weight"]) (ps := ["island", "begin", "weights"]) (k := 19) (ms := m_weighed_walk) c.F_weighed_walk sc_weighed_walk fun cdv A outer s H E hr => ?_)
  unfold m_weighed_walk
  exact
    (jss_cons (js_expr (je_call (ok_validate_cell c _) (hr.mono (by decide)) c.g_validate_cell c.F_validate_cell.kp (b_validate_cell c) (takes_of rfl rfl rfl rfl) (ja_cons (je_pv 0) (ja_cons (je_pv 1) ja_nil)) (hla := (mCons_len (mCons_len mNil_len)))))
     (jss_cons (js_for (passes_of rfl) rfl (ji_keysT (je_pv 2)) (jg_name (i := 3) sc_weighed_walk.nd rfl (by first | exact .inl rfl | exact .inr rfl))
      (jss_one (js_expr (je_call (ok_validate_cell c _) (hr.mono (by decide)) c.g_validate_cell c.F_validate_cell.kp (b_validate_cell c) (takes_of rfl rfl rfl rfl) (ja_cons (je_pv 0) (ja_cons (je_pv 3) ja_nil)) (hla := (mCons_len (mCons_len mNil_len)))))))
      (jss_cons (js_if (jt_cmp (op_neD hr.units) s_ne (nomark _) (je_ofL (jl_lc [("weight", 4)] rfl sc_weighed_walk.nd (ji_valsT (je_pv 2)) (blkOk_by (by kernel_rfl)) ⟨_, nt_name 4, fun _ _ _ _ _ => pg_name sc_weighed_walk.nd rfl (by first | exact .inl rfl | exact .inr rfl)⟩ (fun _ _ _ _ _ => jts_one (jt_not (jt_val (je_call (ok_is_number c _) (hr.mono (by decide)) c.g_is_number c.F_is_number.kp (b_is_number c) takes0 (ja_cons (je_pv 4) (ja_cons je_int (ja_cons (je_gc c.gc_MAX_WEIGHT) ja_nil))) (hla := (mCons_len (mCons_len (mCons_len mNil_len)))))))) (fun _ _ _ _ _ => (je_pv 4)))) (je_ofL (jl_lst ja_nil)))
       (jss_one js_never)
       jss_nil)
       (jss_one (js_ret (je_call (ok_waited c _) (hr.mono (by decide)) c.g_waited c.F_waited.kp (b_waited c) (takes_of rfl rfl rfl rfl) (ja_cons (je_pv 0) (ja_cons (je_pv 1) (ja_cons (je_pv 2) ja_nil))) (hla := (mCons_len (mCons_len (mCons_len mNil_len))))))))))
theorem sc_law : FnScope ["_law_script", "_law_h", "_law_high", "_law_wide", "_law_rows", "_law_row", "_law_island", "_law_cells_here", "_law_begin", "_law_left", "_law_goals", "_law_tables", "_law_plain", "_law_heavy", "_law_best", "_law_most", "_law_order", "_law_one", "_law_other", "_law_column", "_law_cell"] ["_law_script"] (defScope s_law) := ⟨rfl, rfl, rfl, by decide +kernel, rfl, by decide +kernel, by decide +kernel⟩
theorem b_law (c : Fx w K mg) : Binds K c.fd_law ["_law_script"] [] := c.F_law.bindsN fun _ _ _ _ _ _ us hl => match us, hl with | [_], _ => rfl
theorem ok_law (c : Fx w K mg) (base : Heap) : FnOk P w K mg base (L2.CX P w) 21 (He.ga K "law") c.fd_law ["_law_script"] (spF K 1 f_law) := by
  refine (show FnOk P w K mg base (L2.CX P w) (20 + 1) (He.ga K "law") c.fd_law ["_law_script"] (spF K ["_law_script"].length (runF ["_law_script", "_law_h", "_law_high", "_law_wide", "_law_rows", "_law_row", "_law_island", "_law_cells_here", "_law_begin", "_law_left", "_law_goals", "_law_tables", "_law_plain", "_law_heavy", "_law_best", "_law_most", "_law_order", "_law_one", "_law_other", "_law_column", "_law_cell"].length m_law)) from jd (N := ["_law_script", "_law_h", "_law_high", "_law_wide", "_law_rows", "_law_row", "_law_island", "_law_cells_here", "_law_begin", "_law_left", "_law_goals", "_law_tables", "_law_plain", "_law_heavy", "_law_best", "_law_most", "_law_order", "_law_one", "_law_other", "_law_column", "_law_cell"]) (ps := ["_law_script"]) (k := 20) (ms := m_law) c.F_law sc_law fun cdv A outer s H E hr => ?_)
  unfold m_law
  exact
    (jss_cons (js_set (i := 1) sc_law.nd rfl (by first | exact .inl rfl | exact .inr rfl) (je_begun bgOk_law_mix (ok__law_mix c _) (hr.mono (by decide)) c.g__law_mix c.F__law_mix.kp (b__law_mix c) (takes_of rfl rfl rfl rfl) (ja_cons (je_pv 0) (ja_cons je_int ja_nil))))
     (jss_cons (js_par (i := 2) (j := 3) rfl sc_law.nd (ja_cons (je_op op_addAll s_add je_int (je_draw drNextOk (ok__law_next c _) (hr.mono (by decide)) c.g__law_next c.F__law_next.kp (b__law_next c) (takes_of rfl rfl rfl rfl) (ja_cons (je_pv 1) (ja_cons je_int ja_nil)))) (ja_cons (je_op op_addAll s_add je_int (je_draw drNextOk (ok__law_next c _) (hr.mono (by decide)) c.g__law_next c.F__law_next.kp (b__law_next c) (takes_of rfl rfl rfl rfl) (ja_cons (je_pv 1) (ja_cons je_int ja_nil)))) ja_nil)))
      (jss_cons (js_set (i := 4) sc_law.nd rfl (by first | exact .inl rfl | exact .inr rfl) (je_new (jl_lst ja_nil)))
       (jss_cons (js_for (passes_of rfl) rfl (ji_range1 c.fr_range (ja_cons (je_pv 2) ja_nil)) (jg_name (i := 5) sc_law.nd rfl (by first | exact .inl rfl | exact .inr rfl))
        (jss_one (js_expr (je_bm PySem.F.plainAttrs_list PySem.F.slot_list_append PySem.F.type_list_append mt_append m_append ty_lst (je_pv 4) (ja_cons (je_bm PySem.F.plainAttrs_str PySem.F.slot_str_join PySem.F.type_str_join mt_join m_join ty_str je_str (ja_cons (je_ofL (jl_lc [("_law_column", 19)] rfl sc_law.nd (ji_range1 c.fr_range (ja_cons (je_pv 3) ja_nil)) (blkOk_by (by kernel_rfl)) ⟨_, nt_name 19, fun _ _ _ _ _ => pg_name sc_law.nd rfl (by first | exact .inl rfl | exact .inr rfl)⟩ (fun _ _ _ _ _ => jts_nil) (fun _ _ _ _ _ => (je_ix (je_ofL (jl_lst (ja_cons je_str (ja_cons je_str ja_nil)))) (je_draw drNextOk (ok__law_next c _) (hr.mono (by decide)) c.g__law_next c.F__law_next.kp (b__law_next c) takes0 (ja_cons (je_pv 1) (ja_cons je_int ja_nil))))))) ja_nil)) ja_nil)))))
        (jss_fz 4 (jss_cons (js_set (i := 4) sc_law.nd rfl (by first | exact .inl rfl | exact .inr rfl) (je_callTy call_tuple_of c_tuple c.fr_tuple (ja_cons (je_pv 4) ja_nil)))
         (jss_cons (js_par (i := 6) (j := 7) rfl sc_law.nd (ja_cons (je_make c.mk_Island (ok_Island____init__ c _) (hr.mono (by decide)) c.g_Island (b_Island____init__ c) (takes_of rfl rfl rfl rfl) (ja_cons (je_pv 4) ja_nil) (mCons_len mNil_len)) (ja_cons (je_call (ok__law_cells c _) (hr.mono (by decide)) c.g__law_cells c.F__law_cells.kp (b__law_cells c) (takes_of rfl rfl rfl rfl) (ja_cons (je_pv 4) ja_nil) (hla := (mCons_len mNil_len))) ja_nil)))
          (jss_cons (js_par3 (i := 8) (j := 9) (l := 10) rfl sc_law.nd (ja_cons (je_ix (je_pv 7) (je_draw drNextOk (ok__law_next c _) (hr.mono (by decide)) c.g__law_next c.F__law_next.kp (b__law_next c) (takes_of rfl rfl rfl rfl) (ja_cons (je_pv 1) (ja_cons (je_callB call_len (c_len (X := _)) c.fr_len (ja_cons (je_pv 7) ja_nil)) ja_nil)))) (ja_cons (je_new (jl_list c.fr_list (ja_cons (je_pv 7) ja_nil))) (ja_cons (je_new (jl_lst ja_nil)) ja_nil))))
           (jss_cons (js_while 7 (passes_of rfl) (jt_cmp op_lt s_cmp (nomark _) (je_callB call_len (c_len (X := _)) c.fr_len (ja_cons (je_pv 10) ja_nil)) je_int)
            (jss_one (js_expr (je_bm PySem.F.plainAttrs_list PySem.F.slot_list_append PySem.F.type_list_append mt_append m_append ty_lst (je_pv 10) (ja_cons (je_bm PySem.F.plainAttrs_list PySem.F.slot_list_pop PySem.F.type_list_pop mt_popAt m_popAt ty_lst (je_pv 9) (ja_cons (je_draw drNextOk (ok__law_next c _) (hr.mono (by decide)) c.g__law_next c.F__law_next.kp (b__law_next c) (takes_of rfl rfl rfl rfl) (ja_cons (je_pv 1) (ja_cons (je_callB call_len (c_len (X := _)) c.fr_len (ja_cons (je_pv 9) ja_nil)) ja_nil))) ja_nil)) ja_nil)))))
            (jss_fz 10 (jss_cons (js_set (i := 10) sc_law.nd rfl (by first | exact .inl rfl | exact .inr rfl) (je_callTy call_tuple_of c_tuple c.fr_tuple (ja_cons (je_callB (cr_sortD (u65 hr)) c_sorted c.fr_sorted (ja_cons (je_pv 10) ja_nil)) ja_nil)))
             (jss_cons (js_set (i := 11) sc_law.nd rfl (by first | exact .inl rfl | exact .inr rfl) (je_dfz (jd_dictL (u65 hr) rfl c.fr_dict (ja_cons (je_ofL (jl_lc [("_law_cell", 20)] rfl sc_law.nd (ji_val (je_op op_addAll s_add (je_pv 10) (je_tup (ja_cons (je_pv 8) ja_nil)))) (blkOk_by (by kernel_rfl)) ⟨_, nt_name 20, fun _ _ _ _ _ => pg_name sc_law.nd rfl (by first | exact .inl rfl | exact .inr rfl)⟩ (fun _ _ _ _ _ => jts_nil) (fun _ _ _ _ _ => (je_tup (ja_cons (je_pv 20) (ja_cons (je_call (ok__law_far c _) (hr.mono (by decide)) c.g__law_far c.F__law_far.kp (b__law_far c) takes0 (ja_cons (je_pv 4) (ja_cons (je_pv 20) ja_nil)) (hla := (mCons_len (mCons_len mNil_len)))) ja_nil)))))) ja_nil))))
              (jss_cons (js_set (i := 12) sc_law.nd rfl (by first | exact .inl rfl | exact .inr rfl) (je_dfz (jd_dictL (u65 hr) rfl c.fr_dict (ja_cons (je_ofL (jl_lc [("_law_cell", 20)] rfl sc_law.nd (ji_val (je_pv 10)) (blkOk_by (by kernel_rfl)) ⟨_, nt_name 20, fun _ _ _ _ _ => pg_name sc_law.nd rfl (by first | exact .inl rfl | exact .inr rfl)⟩ (fun _ _ _ _ _ => jts_nil) (fun _ _ _ _ _ => (je_tup (ja_cons (je_pv 20) (ja_cons je_int ja_nil)))))) ja_nil))))
               (jss_cons (js_set (i := 13) sc_law.nd rfl (by first | exact .inl rfl | exact .inr rfl) (je_dfz (jd_dictL (u65 hr) rfl c.fr_dict (ja_cons (je_ofL (jl_lc [("_law_cell", 20)] rfl sc_law.nd (ji_val (je_pv 10)) (blkOk_by (by kernel_rfl)) ⟨_, nt_name 20, fun _ _ _ _ _ => pg_name sc_law.nd rfl (by first | exact .inl rfl | exact .inr rfl)⟩ (fun _ _ _ _ _ => jts_nil) (fun _ _ _ _ _ => (je_tup (ja_cons (je_pv 20) (ja_cons (je_op op_addAll s_add je_int (je_draw drNextOk (ok__law_next c _) (hr.mono (by decide)) c.g__law_next c.F__law_next.kp (b__law_next c) takes0 (ja_cons (je_pv 1) (ja_cons (je_ix (je_ofL (jl_lst (ja_cons je_int (ja_cons (je_op op_pow s_pow je_int je_int) ja_nil)))) (je_draw drNextOk (ok__law_next c _) (hr.mono (by decide)) c.g__law_next c.F__law_next.kp (b__law_next c) takes0 (ja_cons (je_pv 1) (ja_cons je_int ja_nil)))) ja_nil)))) ja_nil)))))) ja_nil))))
                (jss_cons (js_asgT rfl (jgs_cons (jg_name (i := 14) sc_law.nd rfl (by first | exact .inl rfl | exact .inr rfl)) (jgs_cons (jg_name (i := 15) sc_law.nd rfl (by first | exact .inl rfl | exact .inr rfl)) jgs_nil)) (ja_cons je_non (ja_cons je_non ja_nil)))
                 (jss_cons (js_for (passes_of rfl) rfl (ji_val (je_call (ok__law_orders c _) (hr.mono (by decide)) c.g__law_orders c.F__law_orders.kp (b__law_orders c) (takes_of rfl rfl rfl rfl) (ja_cons (je_pv 10) ja_nil) (hla := (mCons_len mNil_len)))) (jg_name (i := 16) sc_law.nd rfl (by first | exact .inl rfl | exact .inr rfl))
                  (jss_cons (js_par (i := 17) (j := 18) rfl sc_law.nd (ja_cons (je_call (ok__law_total c _) (hr.mono (by decide)) c.g__law_total c.F__law_total.kp (b__law_total c) (takes_of rfl rfl rfl rfl) (ja_cons (je_pv 11) (ja_cons (je_pv 8) (ja_cons (je_pv 16) (ja_cons (je_pv 12) ja_nil)))) (hla := (mCons_len (mCons_len (mCons_len (mCons_len mNil_len)))))) (ja_cons (je_call (ok__law_total c _) (hr.mono (by decide)) c.g__law_total c.F__law_total.kp (b__law_total c) (takes_of rfl rfl rfl rfl) (ja_cons (je_pv 11) (ja_cons (je_pv 8) (ja_cons (je_pv 16) (ja_cons (je_pv 13) ja_nil)))) (hla := (mCons_len (mCons_len (mCons_len (mCons_len mNil_len)))))) ja_nil)))
                   (jss_cons (js_set (i := 14) sc_law.nd rfl (by first | exact .inl rfl | exact .inr rfl) (je_if (jw_pt (jw_or (jt_cmp op_isN s_isN (nomark _) (je_pv 14) je_non) (jw_or1 (jt_cmp op_lt s_cmp (nomark _) (je_pv 17) (je_ix (je_pv 14) je_int))))) (je_tup (ja_cons (je_pv 17) (ja_cons (je_pv 16) ja_nil))) (je_pv 14)))
                    (jss_one (js_set (i := 15) sc_law.nd rfl (by first | exact .inl rfl | exact .inr rfl) (je_if (jw_pt (jw_or (jt_cmp op_isN s_isN (nomark _) (je_pv 15) je_non) (jw_or1 (jt_cmp op_lt s_cmp (nomark _) (je_pv 18) (je_ix (je_pv 15) je_int))))) (je_tup (ja_cons (je_pv 18) (ja_cons (je_pv 16) ja_nil))) (je_pv 15)))))))
                  (jss_cons (js_if (jt_not (jt_val (je_call (ok__law_alike c _ 6) (hr.mono (by decide)) c.g__law_alike c.F__law_alike.kp (b__law_alike c) (takes_of rfl rfl rfl rfl) (ja_cons (je_call (ok_dig_walk c _) (hr.mono (by decide)) c.g_dig_walk c.F_dig_walk.kp (b_dig_walk c) (takes_of rfl rfl rfl rfl) (ja_cons (je_pv 6) (ja_cons (je_pv 8) (ja_cons (je_pv 10) ja_nil))) (hla := (mCons_len (mCons_len (mCons_len mNil_len))))) (ja_cons (je_tup (ja_cons (je_ix (je_pv 14) je_int) (ja_cons (je_ofL (jl_list c.fr_list (ja_cons (je_ix (je_pv 14) je_int) ja_nil))) ja_nil))) ja_nil)) (hla := (mCons_len (mCons_len mNil_len))))))
                   (jss_one (js_ret je_bl))
                   jss_nil)
                   (jss_one (js_ret (je_call (ok__law_alike c _ 6) (hr.mono (by decide)) c.g__law_alike c.F__law_alike.kp (b__law_alike c) (takes_of rfl rfl rfl rfl) (ja_cons (je_call (ok_weighed_walk c _) (hr.mono (by decide)) c.g_weighed_walk c.F_weighed_walk.kp (b_weighed_walk c) (takes_of rfl rfl rfl rfl) (ja_cons (je_pv 6) (ja_cons (je_pv 8) (ja_cons (je_pv 13) ja_nil))) (hla := (mCons_len (mCons_len (mCons_len mNil_len))))) (ja_cons (je_tup (ja_cons (je_ix (je_pv 15) je_int) (ja_cons (je_ofL (jl_list c.fr_list (ja_cons (je_ix (je_pv 15) je_int) ja_nil))) ja_nil))) ja_nil)) (hla := (mCons_len (mCons_len mNil_len)))))))))))))))))))))))
end K91
set_option Elab.async false
set_option linter.all false
set_option maxRecDepth 100000
set_option maxHeartbeats 2000000
namespace En
open PySem PySem.Spec PyProof.Rows L2
theorem walk_ofW {l : PySem.W.OpenLaw} {n k : Nat} {q : Program} {loose : List Str} {XP : (Str → Option Value) → Heap → Prop} {YP : World → Heap → Prop} {d : DefRec} {x : Str} {mf : MF}
    (hn : l.most = some n) (hn2 : n ≤ sizeLine) (hdf : d.params.defaults = []) (hr : Room k callerA)
    (F : ∀ (w : World) (mg : Str → Option Value) (fa : Addr) (h : Heap), YP w h → h.Ns mainGlobals mg → mg d.name = some (.ref fa) →
      ∃ (K : PySem.W.Frag) (fd : FuncData), K.In h ∧ (∀ (s : Shared) (u : Value), BindsTo s fd ⟨[u], []⟩ [(x, u)]) ∧
        ∀ base : Heap, K.In base → base.Ns mainGlobals mg → FnOk l.prog w K mg base (L2.CX l.prog w) k fa fd [x] (spF K 1 mf))
    (hlaw : ∀ ns : List Int, ns.length ≤ n → ∃ t, mf [.d (.scr ns)] box0 = .ok (.d (.bl true)) t) :
    PySem.W.WalkO q loose XP YP l.row.toRowW d [] (fun f vs => PySem.call f vs) := by
  refine Att.attach_call hn hdf fun w s₀ s₁ mg mb fa o pm cd doc a vs ns G Y ho hd hcd hmg hobj hints hlen hg => ?_
  obtain ⟨K, fd, KX, hb, hF⟩ := F w mg fa _ Y G.T.g hmg
  refine law_call KX G.T.g G.T.b G.T.builtins G.T.nolimit hg hobj hints (Nat.le_trans hlen hn2) hr hF hb (fun H hO hS => ?_) fun H e s' h => ?_
  · obtain ⟨t, e⟩ := hlaw ns hlen
    have rt : RelT K ⟨[], [], none⟩ ⟨[], box0⟩ H := by
      refine ⟨fun a ha => (by cases ha), rfl, fun i j a h => ?_, fun a h => (by cases h), fun n c h => ?_, rfl, fun b l h => (by cases h)⟩
      · simp at h
      · simp at h
    refine ⟨⟨[], [], none⟩, box0, [.d (.scr ns)], rfl, rfl, rt, .cons (Rep.scr ?_) .nil, ?_⟩
    · have e0 : Fz ⟨[], [], none⟩ H = H := by
        funext b
        unfold Fz
        refine if_neg ?_
        rintro (h | ⟨x, l, h, _⟩ | h)
        · cases h
        · cases h
        · cases h
      rw [e0]
      exact hS
    · rw [e]
      intro w' H' x _ _ rx
      cases rx
      rfl
  · obtain ⟨_, _, _, _, _, _, _, _, _, _, _, _, z⟩ := h
    exact z.elim
end En
set_option Elab.async false
set_option linter.all false
set_option maxRecDepth 100000
set_option maxHeartbeats 0
namespace K91
open PySem PySem.Spec PyProof.Rows L2 En
def fn : List DefX := [
  ⟨fun K => He.ma K (He.ga K "Island") "__init__", "__init__", "Island.__init__", defArgs s_Island____init__, defBody s_Island____init__, defScope s_Island____init__, [], []⟩,
  ⟨fun K => He.ga K "_law_alike", "_law_alike", "_law_alike", defArgs s__law_alike, defBody s__law_alike, defScope s__law_alike, [], []⟩,
  ⟨fun K => He.ga K "_law_cells", "_law_cells", "_law_cells", defArgs s__law_cells, defBody s__law_cells, defScope s__law_cells, [], []⟩,
  ⟨fun K => He.ga K "_law_on", "_law_on", "_law_on", defArgs s__law_on, defBody s__law_on, defScope s__law_on, [], []⟩,
  ⟨fun K => He.ga K "_law_sign", "_law_sign", "_law_sign", defArgs s__law_sign, defBody s__law_sign, defScope s__law_sign, [], []⟩,
  ⟨fun K => He.ga K "_law_far", "_law_far", "_law_far", defArgs s__law_far, defBody s__law_far, defScope s__law_far, [], []⟩,
  ⟨fun K => He.ga K "_law_mix", "_law_mix", "_law_mix", defArgs s__law_mix, defBody s__law_mix, defScope s__law_mix, [], []⟩,
  ⟨fun K => He.ga K "_law_next", "_law_next", "_law_next", defArgs s__law_next, defBody s__law_next, defScope s__law_next, [], []⟩,
  ⟨fun K => He.ga K "_law_orders", "_law_orders", "_law_orders", defArgs s__law_orders, defBody s__law_orders, defScope s__law_orders, [], []⟩,
  ⟨fun K => He.ga K "_law_total", "_law_total", "_law_total", defArgs s__law_total, defBody s__law_total, defScope s__law_total, [], []⟩,
  ⟨fun K => He.ma K (He.ga K "Island") "__contains__", "__contains__", "Island.__contains__", defArgs s_Island____contains__, defBody s_Island____contains__, defScope s_Island____contains__, [], []⟩,
  ⟨fun K => He.ga K "validate_cell", "validate_cell", "validate_cell", defArgs s_validate_cell, defBody s_validate_cell, defScope s_validate_cell, [], []⟩,
  ⟨fun K => He.ga K "neighbors", "neighbors", "neighbors", defArgs s_neighbors, defBody s_neighbors, defScope s_neighbors, [], []⟩,
  ⟨fun K => He.ga K "distances", "distances", "distances", defArgs s_distances, defBody s_distances, defScope s_distances, [], []⟩,
  ⟨fun K => He.ma K (He.ga K "Waits") "__init__", "__init__", "Waits.__init__", defArgs s_Waits____init__, defBody s_Waits____init__, defScope s_Waits____init__, [], []⟩,
  ⟨fun K => He.ma K (He.ga K "Waits") "totals", "totals", "Waits.totals", defArgs s_Waits__totals, defBody s_Waits__totals, defScope s_Waits__totals, [], []⟩,
  ⟨fun K => He.ma K (He.ga K "Waits") "least", "least", "Waits.least", defArgs s_Waits__least, defBody s_Waits__least, defScope s_Waits__least, [], []⟩,
  ⟨fun K => He.ga K "waited", "waited", "waited", defArgs s_waited, defBody s_waited, defScope s_waited, [], []⟩,
  ⟨fun K => He.ga K "dig_walk", "dig_walk", "dig_walk", defArgs s_dig_walk, defBody s_dig_walk, defScope s_dig_walk, [], []⟩,
  ⟨fun K => He.ga K "is_number", "is_number", "is_number", defArgs s_is_number, defBody s_is_number, defScope s_is_number, [], []⟩,
  ⟨fun K => He.ga K "weighed_walk", "weighed_walk", "weighed_walk", defArgs s_weighed_walk, defBody s_weighed_walk, defScope s_weighed_walk, [], []⟩,
  ⟨fun K => He.ga K "law", "law", "law", defArgs s_law, defBody s_law, defScope s_law, [], []⟩]
def fa : List He.Fa := [.glo "_law_mix", .glo "_law_next", .glo "Island", .glo "_law_cells", .glo "_law_far", .glo "_law_orders", .glo "_law_total", .glo "dig_walk", .glo "_law_alike", .glo "weighed_walk", .glo "_law_on", .glo "_law_sign", .glo "validate_cell", .glo "waited", .glo "Waits", .glo "distances", .glo "neighbors", .glo "is_number", .glo "law", .free "range", .free "tuple", .free "len", .free "list", .free "sorted", .free "dict", .free "enumerate", .free "min", .free "isinstance", .free "str", .free "int", .free "bool", .free "max", .free "sum", .cls "Island", .cls "Waits", .noat "Island" "own_rows", .noat "Waits" "tables", .noat "Waits" "heavy", .noat "Waits" "known", .mkr "Island", .mkr "Waits", .meth "Island" "__contains__", .meth "Waits" "least", .meth "Waits" "totals"]
def xbs : List (PySem.W.Frag → Bool) := [fun K => globB K "MAX_SIZE" d_MAX_SIZE, fun K => globB K "LAND" d_LAND, fun K => globB K "WATER" d_WATER, fun K => globB K "LETTERS" d_LETTERS, fun K => globB K "MAX_GOALS" d_MAX_GOALS, fun K => globB K "MOVES" d_MOVES, fun K => globB K "MAX_WEIGHT" d_MAX_WEIGHT]
def xb (K : PySem.W.Frag) : Bool := xbs.all fun p => p K
def ts : List He.Tab := []
abbrev rowX : PySem.W.OpenRow := PySem.W.OpenLaw.row PySem.Challenge.rw_oldmap_k91_whole_long_walks_of_least_wai
abbrev hk : PySem.W.Hook := hookX 5 fa fn ts xb
def ob (s : PySem.W.SharedT) : AlX := obsXG 5 fa fn ts xb (HandSHeadRun.getT s)
theorem ob_eq (s : PySem.W.SharedT) : ob s = hk.obs s.abs := obsXG_eq (HandSHeadRun.getT_eq s)
def loose0 : List PySem.Str := [("_wall" : PySem.Str), ("MapError" : PySem.Str), ("InvalidIsland" : PySem.Str), ("InvalidNumber" : PySem.Str), ("UnknownCell" : PySem.Str), ("TooMany" : PySem.Str), ("LAND" : PySem.Str), ("WATER" : PySem.Str), ("LETTERS" : PySem.Str), ("MAX_SIZE" : PySem.Str), ("is_number" : PySem.Str), ("Island" : PySem.Str), ("validate_cell" : PySem.Str), ("MOVES" : PySem.Str), ("MAX_GOALS" : PySem.Str), ("neighbors" : PySem.Str), ("distances" : PySem.Str), ("MAX_WEIGHT" : PySem.Str), ("Waits" : PySem.Str), ("waited" : PySem.Str)]
def loose1 : List PySem.Str := [("dig_walk" : PySem.Str), ("weighed_walk" : PySem.Str), ("_law_mix" : PySem.Str), ("_law_next" : PySem.Str), ("_law_alike" : PySem.Str), ("_law_sign" : PySem.Str), ("_law_cells" : PySem.Str), ("_law_on" : PySem.Str), ("_law_far" : PySem.Str), ("_law_orders" : PySem.Str), ("_law_total" : PySem.Str)]
abbrev loose : List PySem.Str := loose0 ++ loose1
noncomputable def fx {w : World} {K : PySem.W.Frag} {h : Heap} {mg : Str → Option Value} (X : K.In h) (G : h.Ns mainGlobals mg) (c : SaysX fa fn ts xb w K) : Fx w K mg where
  fd_Island____init__ := (c.def_ 0).choose
  F_Island____init__ := (c.def_ 0).choose_spec
  fd__law_alike := (c.def_ 1).choose
  F__law_alike := (c.def_ 1).choose_spec
  fd__law_cells := (c.def_ 2).choose
  F__law_cells := (c.def_ 2).choose_spec
  fd__law_on := (c.def_ 3).choose
  F__law_on := (c.def_ 3).choose_spec
  fd__law_sign := (c.def_ 4).choose
  F__law_sign := (c.def_ 4).choose_spec
  fd__law_far := (c.def_ 5).choose
  F__law_far := (c.def_ 5).choose_spec
  fd__law_mix := (c.def_ 6).choose
  F__law_mix := (c.def_ 6).choose_spec
  fd__law_next := (c.def_ 7).choose
  F__law_next := (c.def_ 7).choose_spec
  fd__law_orders := (c.def_ 8).choose
  F__law_orders := (c.def_ 8).choose_spec
  fd__law_total := (c.def_ 9).choose
  F__law_total := (c.def_ 9).choose_spec
  fd_Island____contains__ := (c.def_ 10).choose
  F_Island____contains__ := (c.def_ 10).choose_spec
  fd_validate_cell := (c.def_ 11).choose
  F_validate_cell := (c.def_ 11).choose_spec
  fd_neighbors := (c.def_ 12).choose
  F_neighbors := (c.def_ 12).choose_spec
  fd_distances := (c.def_ 13).choose
  F_distances := (c.def_ 13).choose_spec
  fd_Waits____init__ := (c.def_ 14).choose
  F_Waits____init__ := (c.def_ 14).choose_spec
  fd_Waits__totals := (c.def_ 15).choose
  F_Waits__totals := (c.def_ 15).choose_spec
  fd_Waits__least := (c.def_ 16).choose
  F_Waits__least := (c.def_ 16).choose_spec
  fd_waited := (c.def_ 17).choose
  F_waited := (c.def_ 17).choose_spec
  fd_dig_walk := (c.def_ 18).choose
  F_dig_walk := (c.def_ 18).choose_spec
  fd_is_number := (c.def_ 19).choose
  F_is_number := (c.def_ 19).choose_spec
  fd_weighed_walk := (c.def_ 20).choose
  F_weighed_walk := (c.def_ 20).choose_spec
  fd_law := (c.def_ 21).choose
  F_law := (c.def_ 21).choose_spec
  g__law_mix := He.glo_ok X G (c.fact 0 (f := .glo "_law_mix") rfl)
  g__law_next := He.glo_ok X G (c.fact 1 (f := .glo "_law_next") rfl)
  g_Island := He.glo_ok X G (c.fact 2 (f := .glo "Island") rfl)
  g__law_cells := He.glo_ok X G (c.fact 3 (f := .glo "_law_cells") rfl)
  g__law_far := He.glo_ok X G (c.fact 4 (f := .glo "_law_far") rfl)
  g__law_orders := He.glo_ok X G (c.fact 5 (f := .glo "_law_orders") rfl)
  g__law_total := He.glo_ok X G (c.fact 6 (f := .glo "_law_total") rfl)
  g_dig_walk := He.glo_ok X G (c.fact 7 (f := .glo "dig_walk") rfl)
  g__law_alike := He.glo_ok X G (c.fact 8 (f := .glo "_law_alike") rfl)
  g_weighed_walk := He.glo_ok X G (c.fact 9 (f := .glo "weighed_walk") rfl)
  g__law_on := He.glo_ok X G (c.fact 10 (f := .glo "_law_on") rfl)
  g__law_sign := He.glo_ok X G (c.fact 11 (f := .glo "_law_sign") rfl)
  g_validate_cell := He.glo_ok X G (c.fact 12 (f := .glo "validate_cell") rfl)
  g_waited := He.glo_ok X G (c.fact 13 (f := .glo "waited") rfl)
  g_Waits := He.glo_ok X G (c.fact 14 (f := .glo "Waits") rfl)
  g_distances := He.glo_ok X G (c.fact 15 (f := .glo "distances") rfl)
  g_neighbors := He.glo_ok X G (c.fact 16 (f := .glo "neighbors") rfl)
  g_is_number := He.glo_ok X G (c.fact 17 (f := .glo "is_number") rfl)
  fr_range := He.free_ok X G (c.fact 19 (f := .free "range") rfl)
  fr_tuple := He.free_ok X G (c.fact 20 (f := .free "tuple") rfl)
  fr_len := He.free_ok X G (c.fact 21 (f := .free "len") rfl)
  fr_list := He.free_ok X G (c.fact 22 (f := .free "list") rfl)
  fr_sorted := He.free_ok X G (c.fact 23 (f := .free "sorted") rfl)
  fr_dict := He.free_ok X G (c.fact 24 (f := .free "dict") rfl)
  fr_enumerate := He.free_ok X G (c.fact 25 (f := .free "enumerate") rfl)
  fr_min := He.free_ok X G (c.fact 26 (f := .free "min") rfl)
  fr_isinstance := He.free_ok X G (c.fact 27 (f := .free "isinstance") rfl)
  fr_str := He.free_ok X G (c.fact 28 (f := .free "str") rfl)
  fr_int := He.free_ok X G (c.fact 29 (f := .free "int") rfl)
  fr_bool := He.free_ok X G (c.fact 30 (f := .free "bool") rfl)
  fr_max := He.free_ok X G (c.fact 31 (f := .free "max") rfl)
  fr_sum := He.free_ok X G (c.fact 32 (f := .free "sum") rfl)
  gc_MAX_SIZE := globB_ok X G (all_at c.x 0 (x := fun K => globB K "MAX_SIZE" d_MAX_SIZE) rfl)
  gc_LAND := globB_ok X G (all_at c.x 1 (x := fun K => globB K "LAND" d_LAND) rfl)
  gc_WATER := globB_ok X G (all_at c.x 2 (x := fun K => globB K "WATER" d_WATER) rfl)
  gc_LETTERS := globB_ok X G (all_at c.x 3 (x := fun K => globB K "LETTERS" d_LETTERS) rfl)
  gc_MAX_GOALS := globB_ok X G (all_at c.x 4 (x := fun K => globB K "MAX_GOALS" d_MAX_GOALS) rfl)
  gc_MOVES := globB_ok X G (all_at c.x 5 (x := fun K => globB K "MOVES" d_MOVES) rfl)
  gc_MAX_WEIGHT := globB_ok X G (all_at c.x 6 (x := fun K => globB K "MAX_WEIGHT" d_MAX_WEIGHT) rfl)
  cl_Island := He.cls_ok (c.fact 33 (f := .cls "Island") rfl)
  cl_Waits := He.cls_ok (c.fact 34 (f := .cls "Waits") rfl)
  na_Island_own_rows := He.noat_ok (c.fact 35 (f := .noat "Island" "own_rows") rfl)
  na_Waits_tables := He.noat_ok (c.fact 36 (f := .noat "Waits" "tables") rfl)
  na_Waits_heavy := He.noat_ok (c.fact 37 (f := .noat "Waits" "heavy") rfl)
  na_Waits_known := He.noat_ok (c.fact 38 (f := .noat "Waits" "known") rfl)
  mk_Island := He.mkr_ok (c.fact 39 (f := .mkr "Island") rfl)
  mk_Waits := He.mkr_ok (c.fact 40 (f := .mkr "Waits") rfl)
  me_Island___contains__ := He.meth_ok (c.fact 41 (f := .meth "Island" "__contains__") rfl)
  me_Waits_least := He.meth_ok (c.fact 42 (f := .meth "Waits" "least") rfl)
  me_Waits_totals := He.meth_ok (c.fact 43 (f := .meth "Waits" "totals") rfl)
theorem facts {w : World} {K : PySem.W.Frag} {h : Heap} {mg : Str → Option Value} {f : Addr} (X : K.In h) (G : h.Ns mainGlobals mg) (hfa : mg ("law" : Str) = some (.ref f)) (c : SaysX fa fn ts xb w K) :
    ∃ fd : FuncData, (∀ (s : Shared) (v : Value), BindsTo s fd ⟨[v], []⟩ [("_law_script", v)]) ∧ ∀ base : Heap, FnOk P w K mg base (L2.CX P w) 21 f fd ["_law_script"] (spF K 1 f_law) := by
  have e := hfa.symm.trans (He.glo_ok X G (c.fact 18 (f := .glo "law") rfl))
  cases e
  have b := FunD.bindsA (ps := ["_law_script"]) (fx X G c).F_law fun _ _ _ _ _ _ us hl => match us, hl with | [_], _ => rfl
  exact ⟨_, fun s v => b s [v] rfl, fun base => ok_law (fx X G c) base⟩
end K91
set_option Elab.async false
set_option linter.all false
set_option maxRecDepth 100000
set_option maxHeartbeats 2000000
namespace En
open PySem PySem.Spec PyProof.Rows L2
theorem lcM_filter {α : Type} {f : Val → Rho → Option Rho} {tt : ME Bool} {te : ME Val} {ρ : Rho} {t : T} (enc : α → Val) (p : α → Bool) (g : α → Val) : ∀ (xs : List α) (acc : List Val),
    (∀ x ∈ xs, ∃ ρ', f (enc x) ρ = some ρ' ∧ tt ρ' t = .ok (p x) t ∧ (p x = true → te ρ' t = .ok (g x) t)) → acc.length + xs.length ≤ lim → lcM f tt te ρ (xs.map enc) acc t = .ok (acc ++ (xs.filter p).map g) t
  | [], acc, _, _ => by simp [lcM]
  | x :: xs, acc, h, hl => by
    obtain ⟨ρ', e1, e2, e3⟩ := h x (List.mem_cons_self ..)
    have hl' : acc.length + (xs.length + 1) ≤ lim := hl
    rw [List.map_cons]
    unfold lcM
    rw [e1]
    show (tt ρ' t).bindN _ = _
    rw [e2]
    show (if p x = true then _ else _) = _
    cases hp : p x with
    | true =>
      rw [if_pos rfl, e3 hp]
      show (if acc.length < lim then _ else _) = _
      rw [if_pos (by omega), lcM_filter enc p g xs (acc ++ [g x]) (fun y hy => h y (List.mem_cons_of_mem _ hy)) (by simp only [List.length_append, List.length_cons, List.length_nil]; omega)]
      rw [List.filter_cons_of_pos hp]
      simp
    | false =>
      rw [if_neg (by decide), lcM_filter enc p g xs acc (fun y hy => h y (List.mem_cons_of_mem _ hy)) (by omega)]
      rw [List.filter_cons_of_neg (by simp [hp])]
theorem forM_fold {α β : Type} {f : Val → Rho → Option Rho} {b : MS} (enc : α → Val) (step : β → α → β) (S : β → Rho → Prop) (t : T) : ∀ (xs : List α) (s : β) (ρ : Rho), S s ρ →
    (∀ x s ρ, x ∈ xs → S s ρ → ∃ ρ' ρ'', f (enc x) ρ = some ρ' ∧ b ρ' t = .nx ρ'' t ∧ S (step s x) ρ'') → ∃ ρ', forM f b (xs.map enc) ρ t = .nx ρ' t ∧ S (xs.foldl step s) ρ'
  | [], s, ρ, h, _ => ⟨ρ, rfl, h⟩
  | x :: xs, s, ρ, h, hs => by
    obtain ⟨ρ', ρ'', e1, e2, h'⟩ := hs x s ρ (List.mem_cons_self ..) h
    obtain ⟨ρ3, e3, h3⟩ := forM_fold enc step S t xs (step s x) ρ'' h' fun y s ρ hy => hs y s ρ (List.mem_cons_of_mem _ hy)
    refine ⟨ρ3, ?_, h3⟩
    rw [List.map_cons]
    unfold forM
    rw [e1]
    show turnS (b ρ' t) _ = _
    rw [e2]
    exact e3
theorem ixs_ok {x : Str} {i : Int} {t : T} (hl : x.length ≤ lim) (h0 : 0 ≤ i) (h : i < x.cps.toList.length) : fIx (.d (.str x)) (.d (.int i)) t = .ok (.d (.str ⟨#[x.cps.toList.getD i.toNat 0]⟩)) t := by
  show (if x.length ≤ lim then _ else _) = _
  rw [if_pos hl]
  show (match atI x.cps.toList i with | some c => _ | none => _) = _
  rw [atI_of h0 h]
  have h3 : i.toNat < x.cps.toList.length := by omega
  rw [List.getD_eq_getElem?_getD, List.getElem?_eq_getElem h3]
  rfl
theorem len_tup {ds : List D} {t : T} : fLenB [.d (.tup ds)] t = .ok (.d (.int (ds.length : Int))) t := by
  show retI _ _ = _
  rw [List.length_map]
  rfl
theorem len_lst {ds : List D} {t : T} : fLenB [.d (.lst ds)] t = .ok (.d (.int (ds.length : Int))) t := by
  show retI _ _ = _
  rw [List.length_map]
  rfl
theorem len_str {x : Str} {t : T} (h : x.length ≤ lim) : fLenB [.d (.str x)] t = .ok (.d (.int (x.length : Int))) t := by
  show (if x.length ≤ lim then _ else _) = _
  rw [if_pos h]
  rfl
theorem told_ok (r : Rule) (c p : Int × Int) : PyData.strOk (told r c p) = true := by
  unfold told
  split
  · decide +kernel
  · split
    · decide +kernel
    · split <;> decide +kernel
    · split
      · decide +kernel
      · split <;> decide +kernel
def islD (rows : List Str) : D := .ins "Island" [("own_rows", .tup (rows.map D.str))]
theorem isl_rows (rows : List Str) (t : T) : fFld ["Island"] "own_rows" (.d (islD rows)) t = .ok (.d (.tup (rows.map D.str))) t := by
  unfold fFld fldOf islD
  have h1 : List.lookup ("own_rows" : Str) [(("own_rows" : Str), D.tup (rows.map D.str))] = some (D.tup (rows.map D.str)) := by
    rw [List.lookup_cons]
    rw [show ((("own_rows" : Str) == ("own_rows" : Str)) = true) from by decide]
  have h2 : [("Island" : Str)].contains ("Island" : Str) = true := by decide
  simp only [h1, Option.map_some, h2, if_true]
theorem val_of {d : D} {y : PyData} {t : T} (h1 : toPy d = some y) (h2 : SeqAt.shaped y = true) : valPy (.d d) t = some y := by
  unfold valPy Val.dat
  simp only [h1, h2, if_true]
theorem toPys_map {α : Type} (f : α → D) (g : α → PyData) (h : ∀ x, toPy (f x) = some (g x)) : ∀ xs : List α, toPys (xs.map f) = some (xs.map g)
  | [] => by simp [toPys]
  | x :: xs => by simp only [List.map_cons, toPys, h x, toPys_map f g h xs]
theorem lay_map {α : Type} (g : α → PyData) : ∀ xs : List α, (∀ x ∈ xs, PyData.canLay0 (g x) = true) → PyData.canLayAll0 (xs.map g) = true
  | [], _ => by simp [PyData.canLayAll0]
  | x :: xs, h => by
    simp only [List.map_cons, PyData.canLayAll0, h x (List.mem_cons_self ..), lay_map g xs fun y hy => h y (List.mem_cons_of_mem _ hy), Bool.and_self]
theorem depth_map {α : Type} (g : α → PyData) (n : Nat) : ∀ xs : List α, (∀ x ∈ xs, PyData.depth (g x) ≤ n) → PyData.depthAll (xs.map g) ≤ n
  | [], _ => by simp [PyData.depthAll]
  | x :: xs, h => by
    have h1 := h x (List.mem_cons_self ..)
    have h2 := depth_map g n xs fun y hy => h y (List.mem_cons_of_mem _ hy)
    simp only [List.map_cons, PyData.depthAll]
    omega
theorem shaped_tup {α : Type} (g : α → PyData) (xs : List α) (n : Nat) (hn : n < 64) (h1 : ∀ x ∈ xs, PyData.canLay0 (g x) = true) (h2 : ∀ x ∈ xs, PyData.depth (g x) ≤ n) : SeqAt.shaped (.tuple (xs.map g)) = true := by
  have e : SeqAt.shaped (.tuple (xs.map g)) = (PyData.canLayAll0 (xs.map g) && decide (PyData.depthAll (xs.map g) + 1 ≤ 64)) := by
    simp only [SeqAt.shaped, PyData.canLay0, PyData.depth]
    congr
  have := depth_map g n xs h2
  rw [e, lay_map g xs h1, Bool.true_and]
  exact decide_eq_true (by omega)
theorem shaped_lst {α : Type} (g : α → PyData) (xs : List α) (n : Nat) (hn : n < 64) (h1 : ∀ x ∈ xs, PyData.canLay0 (g x) = true) (h2 : ∀ x ∈ xs, PyData.depth (g x) ≤ n) : SeqAt.shaped (.list (xs.map g)) = true := by
  have e : SeqAt.shaped (.list (xs.map g)) = (PyData.canLayAll0 (xs.map g) && decide (PyData.depthAll (xs.map g) + 1 ≤ 64)) := by
    simp only [SeqAt.shaped, PyData.canLay0, PyData.depth]
    congr
  have := depth_map g n xs h2
  rw [e, lay_map g xs h1, Bool.true_and]
  exact decide_eq_true (by omega)
theorem cellP_lay (c : Int × Int) : PyData.canLay0 (cellP c) = true := by simp [cellP, PyData.canLay0, PyData.canLayAll0]
theorem cellP_depth (c : Int × Int) : PyData.depth (cellP c) ≤ 1 := by simp [cellP, PyData.depth, PyData.depthAll]
theorem toPys_cells (ps : List (Int × Int)) : toPys (ps.map cellD) = some (ps.map cellP) := toPys_map cellD cellP (fun _ => rfl) ps
theorem val_cellsT (ps : List (Int × Int)) (t : T) : valPy (.d (.tup (ps.map cellD))) t = some (.tuple (ps.map cellP)) :=
  val_of (by simp only [toPy, toPys_cells]) (shaped_tup cellP ps 1 (by decide) (fun x _ => cellP_lay x) fun x _ => cellP_depth x)
theorem val_cellsL (ps : List (Int × Int)) (t : T) : valPy (.d (.lst (ps.map cellD))) t = some (.list (ps.map cellP)) :=
  val_of (by simp only [toPy, toPys_cells]) (shaped_lst cellP ps 1 (by decide) (fun x _ => cellP_lay x) fun x _ => cellP_depth x)
theorem val_T0 (t : T) : valPy (.d (.tup [])) t = some (.tuple []) := rfl
theorem val_L0 (t : T) : valPy (.d (.lst [])) t = some (.list []) := rfl
theorem eqv_T0 {xs : List PyData} : PyData.eqv (.tuple xs) (.tuple []) = xs.isEmpty := by
  cases xs <;> simp [PyData.eqv, PyData.eqvAll]
theorem eqv_L0 {xs : List PyData} : PyData.eqv (.list xs) (.list []) = xs.isEmpty := by
  cases xs <;> simp [PyData.eqv, PyData.eqvAll]
end En
set_option Elab.async false
set_option linter.all false
set_option maxRecDepth 100000
set_option maxHeartbeats 2000000
namespace K91
open PySem PySem.Spec PyProof.Rows L2 En
structure RowsOk (rows : List Str) (w : Nat) : Prop where
  ne : rows ≠ []
  len : rows.length ≤ 12
  w1 : 1 ≤ w
  w2 : w ≤ 12
  row : ∀ x ∈ rows, x.length = w
  sign : ∀ x ∈ rows, ∀ c ∈ x.cps.toList, c ∈ [46, 126, 65, 66, 75, 84, 90]
def Land (rows : List Str) (c : Int × Int) : Prop := 0 ≤ c.1 ∧ 0 ≤ c.2 ∧ ∃ x s, rows[c.1.toNat]? = some x ∧ x.cps.toList[c.2.toNat]? = some s ∧ s ≠ 126
theorem w_ne {s : Nat} (h : s ≠ 126) : ((⟨#[s]⟩ : Str) == ("~" : Str)) = false := by
  have e : ("~" : Str) = ⟨#[126]⟩ := by decide +kernel
  rw [e]
  cases hb : ((⟨#[s]⟩ : Str) == (⟨#[126]⟩ : Str)) with
  | false => rfl
  | true =>
    have := eq_of_beq hb
    cases this
    exact absurd rfl h
theorem sign_ok {s : Nat} (h : s ∈ [46, 126, 65, 66, 75, 84, 90]) : PyData.strOk ⟨#[s]⟩ = true := by
  have : s < 1114112 := by
    simp only [List.mem_cons, List.mem_nil_iff, or_false] at h
    omega
  simp [PyData.strOk, this]
theorem cells_iter (ps : List (Int × Int)) (t : T) : fIter (.d (.tup (ps.map cellD))) t = .ok (ps.map fun p => .d (cellD p)) t := by
  show R.ok _ t = _
  rw [List.map_map]
  rfl
def signAt (rows : List Str) (r c : Nat) : Nat := ((rows.getD r ⟨#[]⟩).cps.toList).getD c 0
def inB' (rows : List Str) (w : Nat) (c : Int × Int) : Bool := decide (0 ≤ c.1) && decide (c.1 < (rows.length : Int)) && (decide (0 ≤ c.2) && decide (c.2 < (w : Int)))
def landB (rows : List Str) (w : Nat) (c : Int × Int) : Bool := inB' rows w c && !(signAt rows c.1.toNat c.2.toNat == 126)
theorem sign_ne {s : Nat} (hs : s ∈ [46, 126, 65, 66, 75, 84, 90]) (t : T) : fNe (.d (.str ⟨#[s]⟩)) (.d (.str "~")) t = .ok (.d (.bl (!(s == 126)))) t := by
  rw [En.ne_str (sign_ok hs) (by decide +kernel)]
  by_cases h : s = 126
  · subst h
    have : ((⟨#[126]⟩ : Str) == ("~" : Str)) = true := by decide +kernel
    rw [this]
    rfl
  · rw [w_ne h, show (s == 126) = false from by simpa using h]
theorem contains_all {rows : List Str} {w : Nat} (hr : RowsOk rows w) (c : Int × Int) (b : Box) : f_Island____contains__ [.d (islD rows), .d (cellD c)] b = .ok (.d (.bl (landB rows w c))) ⟨[], b⟩ := by
  have hpos : 0 < rows.length := List.length_pos_iff.mpr hr.ne
  have hw : w ≤ lim := Nat.le_trans hr.w2 (by decide)
  obtain ⟨y, e0⟩ : ∃ y, rows[0]? = some y := ⟨rows[0], List.getElem?_eq_getElem hpos⟩
  have hy : y.length = w := hr.row y (List.mem_of_getElem? e0)
  have i1 : ∀ t : T, fLenB [.d (.tup (rows.map D.str))] t = .ok (.d (.int (rows.length : Int))) t := fun t => by rw [len_tup, List.length_map]
  have i2 : ∀ t : T, fIx (.d (.tup (rows.map D.str))) (.d (.int 0)) t = .ok (.d (.str y)) t := fun t => by
    rw [ixt_ok (by omega) (by rw [List.length_map]; omega)]
    rw [List.getD_eq_getElem?_getD, List.getElem?_map]
    show R.ok (Val.d ((Option.map D.str rows[0]?).getD .non)) t = _
    rw [e0]
    rfl
  have i3 : ∀ t : T, fLenB [.d (.str y)] t = .ok (.d (.int (w : Int))) t := fun t => by rw [len_str (by rw [hy]; exact hw), hy]
  have g1 : ∀ ρ : Rho, gT 2 (gsCons (gN 2) (gsCons (gN 3) gsNil)) (.d (cellD c)) ρ = some ((ρ.set 2 (some (.d (.int c.1)))).set 3 (some (.d (.int c.2)))) := fun ρ => rfl
  have hf : ∀ t : T, fFld ["Island"] "own_rows" (.d (islD rows)) t = .ok (.d (.tup (rows.map D.str))) t := fun t => isl_rows rows t
  by_cases h1 : 0 ≤ c.1 ∧ c.1 < (rows.length : Int)
  · by_cases h2 : 0 ≤ c.2 ∧ c.2 < (w : Int)
    · have l1 : c.1.toNat < rows.length := by omega
      obtain ⟨x, e1⟩ : ∃ x, rows[c.1.toNat]? = some x := ⟨_, List.getElem?_eq_getElem l1⟩
      have hx : x ∈ rows := List.mem_of_getElem? e1
      have hxl : x.cps.toList.length = w := hr.row x hx
      have l2 : c.2.toNat < x.cps.toList.length := by omega
      obtain ⟨s, e2⟩ : ∃ s, x.cps.toList[c.2.toNat]? = some s := ⟨_, List.getElem?_eq_getElem l2⟩
      have hs : signAt rows c.1.toNat c.2.toNat = s := by
        have e3 : rows.getD c.1.toNat ⟨#[]⟩ = x := by rw [List.getD_eq_getElem?_getD, e1]; rfl
        unfold signAt
        rw [e3, List.getD_eq_getElem?_getD, e2]
        rfl
      have i4 : ∀ t : T, fIx (.d (.tup (rows.map D.str))) (.d (.int c.1)) t = .ok (.d (.str x)) t := fun t => by
        rw [ixt_ok h1.1 (by rw [List.length_map]; omega)]
        rw [List.getD_eq_getElem?_getD, List.getElem?_map, e1]
        rfl
      have i5 : ∀ t : T, fIx (.d (.str x)) (.d (.int c.2)) t = .ok (.d (.str ⟨#[s]⟩)) t := fun t => by
        rw [ixs_ok (by have : x.length = w := hr.row x hx; rw [this]; exact hw) h2.1 (by omega)]
        rw [List.getD_eq_getElem?_getD, e2]
        rfl
      have i6 := sign_ne (hr.sign x hx s (List.mem_of_getElem? e2))
      have hl : landB rows w c = !(s == 126) := by
        unfold landB inB'
        rw [hs, decide_eq_true h1.1, decide_eq_true h1.2, decide_eq_true h2.1, decide_eq_true h2.2]
        rfl
      rw [hl]
      unfold f_Island____contains__ runF runG m_Island____contains__ sAsg mOr mNot
      simp only [List.map_cons, List.map_nil, List.length_cons, List.length_nil, List.replicate, List.cons_append, List.nil_append, List.append_nil, sSeq, sIf, sRet, sNil, sSet, sDrop, m2, m1, mL, mCons, mNil, mC, mVar, mIf, List.getElem?_cons_zero, List.getElem?_cons_succ, List.set_cons_zero, List.set_cons_succ, R.bind_ok, R.toS_ok, Nat.reduceAdd, Nat.reduceSub, Nat.zero_add, En.eq_cell, En.asB_ok, En.eq_int, En.lt_ok, En.le_ok, En.sub_ok, En.add_ok, En.abs_ok, En.cell_0, En.cell_1, decide_true, decide_false, Bool.false_eq_true, if_true, if_false, Bool.not_true, Bool.not_false, g1, hf, i1, i2, i3, i4, i5, i6, m3c, d_WATER, oS, h1.1, h1.2, h2.1, h2.2]
    · have hl : landB rows w c = false := by
        unfold landB inB'
        rcases Classical.not_and_iff_not_or_not.mp h2 with h | h
        · rw [decide_eq_false h]; simp
        · rw [decide_eq_false h]; simp
      rw [hl]
      unfold f_Island____contains__ runF runG m_Island____contains__ sAsg mOr mNot
      by_cases h3 : 0 ≤ c.2
      · have h4 : ¬ c.2 < (w : Int) := fun z => h2 ⟨h3, z⟩
        simp only [List.map_cons, List.map_nil, List.length_cons, List.length_nil, List.replicate, List.cons_append, List.nil_append, List.append_nil, sSeq, sIf, sRet, sNil, sSet, sDrop, m2, m1, mL, mCons, mNil, mC, mVar, mIf, List.getElem?_cons_zero, List.getElem?_cons_succ, List.set_cons_zero, List.set_cons_succ, R.bind_ok, R.toS_ok, Nat.reduceAdd, Nat.reduceSub, Nat.zero_add, En.eq_cell, En.asB_ok, En.eq_int, En.lt_ok, En.le_ok, En.sub_ok, En.add_ok, En.abs_ok, En.cell_0, En.cell_1, decide_true, decide_false, Bool.false_eq_true, if_true, if_false, Bool.not_true, Bool.not_false, g1, hf, i1, i2, i3, m3c, oS, h1.1, h1.2, h3, h4]
      · simp only [List.map_cons, List.map_nil, List.length_cons, List.length_nil, List.replicate, List.cons_append, List.nil_append, List.append_nil, sSeq, sIf, sRet, sNil, sSet, sDrop, m2, m1, mL, mCons, mNil, mC, mVar, mIf, List.getElem?_cons_zero, List.getElem?_cons_succ, List.set_cons_zero, List.set_cons_succ, R.bind_ok, R.toS_ok, Nat.reduceAdd, Nat.reduceSub, Nat.zero_add, En.eq_cell, En.asB_ok, En.eq_int, En.lt_ok, En.le_ok, En.sub_ok, En.add_ok, En.abs_ok, En.cell_0, En.cell_1, decide_true, decide_false, Bool.false_eq_true, if_true, if_false, Bool.not_true, Bool.not_false, g1, hf, i1, i2, i3, m3c, oS, h1.1, h1.2, h3]
  · have hl : landB rows w c = false := by
      unfold landB inB'
      rcases Classical.not_and_iff_not_or_not.mp h1 with h | h
      · rw [decide_eq_false h]; simp
      · rw [decide_eq_false h]; simp
    rw [hl]
    unfold f_Island____contains__ runF runG m_Island____contains__ sAsg mOr mNot
    by_cases h3 : 0 ≤ c.1
    · have h4 : ¬ c.1 < (rows.length : Int) := fun z => h1 ⟨h3, z⟩
      simp only [List.map_cons, List.map_nil, List.length_cons, List.length_nil, List.replicate, List.cons_append, List.nil_append, List.append_nil, sSeq, sIf, sRet, sNil, sSet, sDrop, m2, m1, mL, mCons, mNil, mC, mVar, mIf, List.getElem?_cons_zero, List.getElem?_cons_succ, List.set_cons_zero, List.set_cons_succ, R.bind_ok, R.toS_ok, Nat.reduceAdd, Nat.reduceSub, Nat.zero_add, En.eq_cell, En.asB_ok, En.eq_int, En.lt_ok, En.le_ok, En.sub_ok, En.add_ok, En.abs_ok, En.cell_0, En.cell_1, decide_true, decide_false, Bool.false_eq_true, if_true, if_false, Bool.not_true, Bool.not_false, g1, hf, i1, m3c, oS, h3, h4]
    · simp only [List.map_cons, List.map_nil, List.length_cons, List.length_nil, List.replicate, List.cons_append, List.nil_append, List.append_nil, sSeq, sIf, sRet, sNil, sSet, sDrop, m2, m1, mL, mCons, mNil, mC, mVar, mIf, List.getElem?_cons_zero, List.getElem?_cons_succ, List.set_cons_zero, List.set_cons_succ, R.bind_ok, R.toS_ok, Nat.reduceAdd, Nat.reduceSub, Nat.zero_add, En.eq_cell, En.asB_ok, En.eq_int, En.lt_ok, En.le_ok, En.sub_ok, En.add_ok, En.abs_ok, En.cell_0, En.cell_1, decide_true, decide_false, Bool.false_eq_true, if_true, if_false, Bool.not_true, Bool.not_false, g1, hf, i1, m3c, oS, h3]
end K91
set_option Elab.async false
set_option linter.all false
set_option maxRecDepth 100000
set_option maxHeartbeats 2000000
namespace K91
open PySem PySem.Spec PyProof.Rows L2 En
theorem cellP_alike (c p : Int × Int) : PySem.W.alike (cellP c) (cellP p) = true := by
  simp [cellP, PySem.W.alike, PySem.W.alikeAll]
theorem withPy_cells : ∀ ps : List (Int × Int), withPy (ps.map cellD) = some (ps.map fun p => (cellD p, cellP p))
  | [] => rfl
  | p :: ps => by
    simp only [List.map_cons, withPy, withPy_cells ps]
    rfl
theorem okSort_cells (ps : List (Int × Int)) : okSort (ps.map fun p => (cellD p, cellP p)) = true := by
  unfold okSort alikeB sortB
  simp only [Bool.and_eq_true, Bool.or_eq_true]
  refine ⟨?_, Or.inl ?_, ?_⟩
  · refine List.all_eq_true.mpr fun d hd => List.all_eq_true.mpr fun e he => ?_
    simp only [List.map_map, List.mem_map, Function.comp] at hd he
    obtain ⟨c, _, rfl⟩ := hd
    obtain ⟨p, _, rfl⟩ := he
    exact cellP_alike c p
  · refine List.all_eq_true.mpr fun d hd => ?_
    simp only [List.map_map, List.mem_map, Function.comp] at hd
    obtain ⟨c, _, rfl⟩ := hd
    rfl
  · refine List.all_eq_true.mpr fun d hd => ?_
    obtain ⟨c, _, rfl⟩ := List.mem_map.mp hd
    exact decide_eq_true (Nat.le_trans (cellP_depth c) (by decide))
def sortC (ps : List (Int × Int)) : List (Int × Int) := ps.mergeSort (PySem.W.dataLe false cellP)
theorem sort_cells (ps : List (Int × Int)) (t : T) : fSorted [.d (.lst (ps.map cellD))] t = .ok (.d (.lst ((sortC ps).map cellD))) t := by
  unfold fSorted
  show (match sortV ((ps.map cellD).map Val.d) with | some ds => _ | none => _) = _
  unfold sortV
  rw [datas_map]
  simp only [withPy_cells, okSort_cells, if_true]
  have : sortD (ps.map fun p => (cellD p, cellP p)) = (sortC ps).map cellD := by
    unfold sortD sortC
    rw [← List.map_mergeSort (r := PySem.W.dataLe false cellP) (f := fun p : Int × Int => (cellD p, cellP p)) (fun _ _ _ _ => rfl), List.map_map]
    rfl
  rw [this]
theorem sortC_mem {ps : List (Int × Int)} {p : Int × Int} : p ∈ sortC ps ↔ p ∈ ps := (List.mergeSort_perm ..).mem_iff
theorem sortC_len (ps : List (Int × Int)) : (sortC ps).length = ps.length := List.length_mergeSort ..
theorem big_small {i : Int} (h0 : 0 ≤ i) (h : i < 100000) : big i = true := by
  unfold big
  exact decide_eq_true (by omega)
theorem eraseIdx_map' {α β : Type} (f : α → β) : ∀ (l : List α) (i : Nat), (l.map f).eraseIdx i = (l.eraseIdx i).map f
  | [], _ => rfl
  | _ :: _, 0 => rfl
  | a :: l, i + 1 => by simp only [List.map_cons, List.eraseIdx_cons_succ, eraseIdx_map' f l i]
def around (c : Int × Int) : List (Int × Int) := [(c.1 + -1, c.2 + 0), (c.1 + 0, c.2 + 1), (c.1 + 1, c.2 + 0), (c.1 + 0, c.2 + -1)]
def adjP (rows : List Str) (w : Nat) (c : Int × Int) : List (Int × Int) := sortC ((around c).filter (landB rows w))
theorem inO_eq {rows : List Str} {w : Nat} (hr : RowsOk rows w) (c : Int × Int) (t : T) : fInO "Island" f_Island____contains__ false (.d (cellD c)) (.d (islD rows)) t = .ok (.d (.bl (landB rows w c))) t := by
  have h := call_eq (t := t) (mf := f_Island____contains__) (vs := [.d (islD rows), .d (cellD c)]) rfl (contains_all hr c t.b)
  unfold fInO
  rw [show clsOf (.d (islD rows)) = some "Island" from rfl]
  simp only [if_true, h, noX, R.bind_ok]
  cases landB rows w c <;> rfl
theorem neighbors_eq {rows : List Str} {w : Nat} (hr : RowsOk rows w) (c : Int × Int) (b : Box) : f_neighbors [.d (islD rows), .d (cellD c)] b = .ok (.d (.lst ((adjP rows w c).map cellD))) ⟨[], b⟩ := by
  have e1 : lcM (gT 2 (gsCons (gN 3) (gsCons (gN 4) gsNil))) mYes (mL fTup (mCons (m2 fAdd (m2 fIx (mVar 1) (mC (.int 0))) (mVar 3)) (mCons (m2 fAdd (m2 fIx (mVar 1) (mC (.int 1))) (mVar 4)) mNil))) [some (.d (islD rows)), some (.d (cellD c)), none, none, none, none] [.d (.tup [.int (-1), .int 0]), .d (.tup [.int 0, .int 1]), .d (.tup [.int 1, .int 0]), .d (.tup [.int 0, .int (-1)])] [] ⟨[], b⟩ = .ok ((around c).map fun p => .d (cellD p)) ⟨[], b⟩ := rfl
  have hit : ∀ t : T, fIter (.d d_MOVES) t = .ok [.d (.tup [.int (-1), .int 0]), .d (.tup [.int 0, .int 1]), .d (.tup [.int 1, .int 0]), .d (.tup [.int 0, .int (-1)])] t := fun _ => rfl
  have hfz : ∀ (l : List (Int × Int)) (t : T), fFz (l.map fun p => Val.d (cellD p)) t = .ok (.d (.lst (l.map cellD))) t := fun l t => by
    unfold fFz
    rw [show (l.map fun p => Val.d (cellD p)) = (l.map cellD).map Val.d from by simp, datas_map]
  have hit2 : ∀ (l : List (Int × Int)) (t : T), fIter (.d (.lst (l.map cellD))) t = .ok (l.map fun p => Val.d (cellD p)) t := fun l t => by
    show R.ok ((l.map cellD).map Val.d) t = _
    rw [List.map_map]
    rfl
  have e2 := lcM_filter (f := gN 5) (tt := m1 asB (m2 (fInO "Island" f_Island____contains__ false) (mVar 5) (mVar 0))) (te := mVar 5) (ρ := [some (.d (islD rows)), some (.d (cellD c)), some (.d (.lst ((around c).map cellD))), none, none, none]) (t := ⟨[], b⟩) (fun p => Val.d (cellD p)) (landB rows w) (fun p => .d (cellD p)) (around c) [] (fun p _ => by
    refine ⟨_, rfl, ?_, fun _ => ?_⟩
    · simp only [List.map_cons, List.map_nil, List.length_cons, List.length_nil, List.replicate, List.cons_append, List.nil_append, List.append_nil, sSeq, sIf, sRet, sNil, sSet, sDrop, m2, m1, mL, mCons, mNil, mC, mVar, mIf, List.getElem?_cons_zero, List.getElem?_cons_succ, List.set_cons_zero, List.set_cons_succ, R.bind_ok, R.toS_ok, Nat.reduceAdd, Nat.reduceSub, Nat.zero_add, En.eq_cell, En.asB_ok, En.eq_int, En.lt_ok, En.le_ok, En.sub_ok, En.add_ok, En.abs_ok, En.cell_0, En.cell_1, decide_true, decide_false, Bool.false_eq_true, if_true, if_false, Bool.not_true, Bool.not_false, inO_eq hr]
    · simp only [List.map_cons, List.map_nil, List.length_cons, List.length_nil, List.replicate, List.cons_append, List.nil_append, List.append_nil, sSeq, sIf, sRet, sNil, sSet, sDrop, m2, m1, mL, mCons, mNil, mC, mVar, mIf, List.getElem?_cons_zero, List.getElem?_cons_succ, List.set_cons_zero, List.set_cons_succ, R.bind_ok, R.toS_ok, Nat.reduceAdd, Nat.reduceSub, Nat.zero_add, En.eq_cell, En.asB_ok, En.eq_int, En.lt_ok, En.le_ok, En.sub_ok, En.add_ok, En.abs_ok, En.cell_0, En.cell_1, decide_true, decide_false, Bool.false_eq_true, if_true, if_false, Bool.not_true, Bool.not_false]) (by show 0 + 4 ≤ 100000; decide)
  rw [List.nil_append] at e2
  unfold f_neighbors runF runG m_neighbors
  simp only [List.map_cons, List.map_nil, List.length_cons, List.length_nil, List.replicate, List.cons_append, List.nil_append, List.append_nil, sSeq, sIf, sRet, sNil, sSet, sDrop, m2, m1, mL, mCons, mNil, mC, mVar, mIf, List.getElem?_cons_zero, List.getElem?_cons_succ, List.set_cons_zero, List.set_cons_succ, R.bind_ok, R.toS_ok, Nat.reduceAdd, Nat.reduceSub, Nat.zero_add, En.eq_cell, En.asB_ok, En.eq_int, En.lt_ok, En.le_ok, En.sub_ok, En.add_ok, En.abs_ok, En.cell_0, En.cell_1, decide_true, decide_false, Bool.false_eq_true, if_true, if_false, Bool.not_true, Bool.not_false, mLc, hit, wipeR]
  rw [e1]
  simp only [List.map_cons, List.map_nil, List.length_cons, List.length_nil, List.replicate, List.cons_append, List.nil_append, List.append_nil, sSeq, sIf, sRet, sNil, sSet, sDrop, m2, m1, mL, mCons, mNil, mC, mVar, mIf, List.getElem?_cons_zero, List.getElem?_cons_succ, List.set_cons_zero, List.set_cons_succ, R.bind_ok, R.toS_ok, Nat.reduceAdd, Nat.reduceSub, Nat.zero_add, En.eq_cell, En.asB_ok, En.eq_int, En.lt_ok, En.le_ok, En.sub_ok, En.add_ok, En.abs_ok, En.cell_0, En.cell_1, decide_true, decide_false, Bool.false_eq_true, if_true, if_false, Bool.not_true, Bool.not_false, hfz, mLc, hit2, wipeR]
  rw [e2]
  simp only [List.map_cons, List.map_nil, List.length_cons, List.length_nil, List.replicate, List.cons_append, List.nil_append, List.append_nil, sSeq, sIf, sRet, sNil, sSet, sDrop, m2, m1, mL, mCons, mNil, mC, mVar, mIf, List.getElem?_cons_zero, List.getElem?_cons_succ, List.set_cons_zero, List.set_cons_succ, R.bind_ok, R.toS_ok, Nat.reduceAdd, Nat.reduceSub, Nat.zero_add, En.eq_cell, En.asB_ok, En.eq_int, En.lt_ok, En.le_ok, En.sub_ok, En.add_ok, En.abs_ok, En.cell_0, En.cell_1, decide_true, decide_false, Bool.false_eq_true, if_true, if_false, Bool.not_true, Bool.not_false, hfz, sort_cells]
  rfl
end K91
set_option Elab.async false
set_option linter.all false
set_option maxRecDepth 100000
set_option maxHeartbeats 2000000
namespace En
open PySem PySem.Spec PyProof.Rows L2
theorem join0_foldl : ∀ (ss : List Str) (acc : Array Nat), (ss.foldl (fun acc p => acc ++ (#[] : Array Nat) ++ p.cps) acc).toList = acc.toList ++ ss.flatMap fun p => p.cps.toList
  | [], acc => by simp
  | s :: ss, acc => by
    rw [List.foldl_cons, join0_foldl ss]
    simp
theorem join0 (ss : List Str) : (Txt.join (⟨#[]⟩ : Str) ss).cps.toList = ss.flatMap fun p => p.cps.toList := by
  cases ss with
  | nil => rfl
  | cons s ss =>
    show (List.foldl (fun acc p => acc ++ (#[] : Array Nat) ++ p.cps) s.cps ss).toList = _
    rw [join0_foldl]
    simp
end En
set_option Elab.async false
set_option linter.all false
set_option maxRecDepth 100000
set_option maxHeartbeats 2000000
namespace En
open PySem PySem.Spec PyProof.Rows L2
section
variable {κ α : Type} [DecidableEq κ]
theorem lookK_nil (k : κ) : lookK ([] : List (κ × α)) k = none := rfl
theorem any_look (kvs : List (κ × α)) (k : κ) : (kvs.any fun kv => decide (kv.1 = k)) = (lookK kvs k).isSome := by
  induction kvs with
  | nil => rfl
  | cons p r ih =>
    rw [List.any_cons, lookK_cons, ih]
    by_cases h : p.1 = k <;> simp [h]
theorem lookK_map (kvs : List (κ × α)) (k j : κ) (v : α) : lookK (kvs.map fun kv => if kv.1 = k then (kv.1, v) else kv) j = (lookK kvs j).map fun x => if j = k then v else x := by
  induction kvs with
  | nil => rfl
  | cons p r ih =>
    rw [List.map_cons, lookK_cons, lookK_cons, ih]
    by_cases h : p.1 = k
    · simp only [if_pos h]
      by_cases h2 : p.1 = j
      · rw [if_pos h2, if_pos h2, ← h2]; simp [h]
      · rw [if_neg h2, if_neg h2]
    · simp only [if_neg h]
      by_cases h2 : p.1 = j
      · rw [if_pos h2, if_pos h2, ← h2]; simp [h]
      · rw [if_neg h2, if_neg h2]
theorem lookK_snoc (kvs : List (κ × α)) (k j : κ) (v : α) (h : lookK kvs k = none) : lookK (kvs ++ [(k, v)]) j = if j = k then some v else lookK kvs j := by
  induction kvs with
  | nil =>
    rw [List.nil_append, lookK_cons]
    by_cases h2 : k = j
    · rw [if_pos h2, if_pos h2.symm]
    · rw [if_neg h2, if_neg (Ne.symm h2)]
  | cons p r ih =>
    rw [lookK_cons] at h
    by_cases hp : p.1 = k
    · rw [if_pos hp] at h; cases h
    · rw [if_neg hp] at h
      rw [List.cons_append, lookK_cons, lookK_cons, ih h]
      by_cases h2 : p.1 = j
      · rw [if_pos h2, if_pos h2, if_neg (fun z => hp (h2.trans z))]
      · rw [if_neg h2, if_neg h2]
theorem look_put (kvs : List (κ × α)) (k j : κ) (v : α) : lookK (putKV kvs k v) j = if j = k then some v else lookK kvs j := by
  unfold putKV
  rw [any_look]
  cases h : lookK kvs k with
  | none => exact lookK_snoc kvs k j v h
  | some x =>
    rw [if_pos (show (some x).isSome = true from rfl), lookK_map]
    by_cases h2 : j = k
    · subst h2; rw [if_pos rfl, h, Option.map_some]; simp
    · rw [if_neg h2]
      cases lookK kvs j <;> simp [h2]
theorem keys_map (kvs : List (κ × α)) (k : κ) (v : α) : (kvs.map fun kv => if kv.1 = k then (kv.1, v) else kv).map (·.1) = kvs.map (·.1) := by
  rw [List.map_map]
  refine List.map_congr_left fun p _ => ?_
  simp only [Function.comp]
  split <;> rfl
theorem look_none {kvs : List (κ × α)} {k : κ} : lookK kvs k = none ↔ k ∉ kvs.map (·.1) := by
  induction kvs with
  | nil => simp [lookK_nil]
  | cons p r ih =>
    rw [lookK_cons, List.map_cons, List.mem_cons]
    by_cases h : p.1 = k
    · rw [if_pos h]; simp [h]
    · rw [if_neg h, ih]
      exact ⟨fun q z => z.elim (fun z => h z.symm) q, fun q z => q (.inr z)⟩
theorem keys_put (kvs : List (κ × α)) (k : κ) (v : α) : (putKV kvs k v).map (·.1) = if (lookK kvs k).isSome then kvs.map (·.1) else kvs.map (·.1) ++ [k] := by
  unfold putKV
  rw [any_look]
  split
  · exact keys_map kvs k v
  · simp
theorem mem_keys_put {kvs : List (κ × α)} {k j : κ} {v : α} (h : j ∈ (putKV kvs k v).map (·.1)) : j = k ∨ j ∈ kvs.map (·.1) := by
  rw [keys_put] at h
  split at h
  · exact .inr h
  · rcases List.mem_append.mp h with h | h
    · exact .inr h
    · exact .inl (List.mem_singleton.mp h)
theorem nodup_put {kvs : List (κ × α)} {k : κ} {v : α} (h : (kvs.map (·.1)).Nodup) : ((putKV kvs k v).map (·.1)).Nodup := by
  rw [keys_put]
  cases e : lookK kvs k with
  | some x => exact h
  | none =>
    have := look_none.mp e
    show (kvs.map (·.1) ++ [k]).Nodup
    rw [List.nodup_append]
    exact ⟨h, by simp, fun a ha b hb z => by rw [List.mem_singleton.mp hb] at z; subst z; exact this ha⟩
theorem nodup_le [DecidableEq α] : ∀ {l l' : List α}, l.Nodup → (∀ x ∈ l, x ∈ l') → l.length ≤ l'.length
  | [], _, _, _ => Nat.zero_le _
  | a :: l, l', h, s => by
    obtain ⟨h1, h2⟩ := List.nodup_cons.mp h
    have ha := s a (List.mem_cons_self ..)
    have := nodup_le (l' := l'.erase a) h2 fun x hx => by
      have hx' := s x (List.mem_cons_of_mem _ hx)
      exact (List.mem_erase_of_ne (fun z => h1 (by rw [← z]; exact hx))).mpr hx'
    rw [List.length_erase_of_mem ha] at this
    have hp : 0 < l'.length := List.length_pos_of_mem ha
    rw [List.length_cons]
    omega
end
theorem look_enc {κ κ' α β : Type} [DecidableEq κ] [DecidableEq κ'] (f : κ → κ') (hf : ∀ a b, f a = f b → a = b) (g : α → β) (kvs : List (κ × α)) (k : κ) : lookK (kvs.map fun p => (f p.1, g p.2)) (f k) = (lookK kvs k).map g := by
  induction kvs with
  | nil => rfl
  | cons p r ih =>
    rw [List.map_cons, lookK_cons, lookK_cons, ih]
    by_cases h : p.1 = k
    · rw [if_pos h, if_pos (by rw [h])]; rfl
    · rw [if_neg h, if_neg (fun z => h (hf _ _ z))]
theorem put_enc {κ κ' α β : Type} [DecidableEq κ] [DecidableEq κ'] (f : κ → κ') (hf : ∀ a b, f a = f b → a = b) (g : α → β) (kvs : List (κ × α)) (k : κ) (v : α) : putKV (kvs.map fun p => (f p.1, g p.2)) (f k) (g v) = (putKV kvs k v).map fun p => (f p.1, g p.2) := by
  unfold putKV
  rw [any_look, any_look, look_enc f hf, Option.isSome_map]
  split
  · rw [List.map_map, List.map_map]
    refine List.map_congr_left fun p _ => ?_
    simp only [Function.comp]
    by_cases h : p.1 = k
    · rw [if_pos h, if_pos (by rw [h])]
    · rw [if_neg h, if_neg (fun z => h (hf _ _ z))]
  · simp
def keyC (qs : List (Int × Int)) : NestedKey := .tup (qs.map fun c => .tup [.num c.1, .num c.2])
theorem toKeys_cells : ∀ qs : List (Int × Int), toKeys (qs.map cellD) = some (qs.map fun c => .tup [.num c.1, .num c.2])
  | [] => rfl
  | q :: qs => by
    simp only [List.map_cons, toKeys, toKeys_cells qs]
    rfl
theorem depthAll_cells : ∀ qs : List (Int × Int), NestedKey.depthAll (qs.map fun c => NestedKey.tup [.num c.1, .num c.2]) ≤ 1
  | [] => by simp [NestedKey.depthAll]
  | q :: qs => by
    have := depthAll_cells qs
    simp only [List.map_cons, NestedKey.depthAll, NestedKey.depth]
    omega
theorem keyT_cells (qs : List (Int × Int)) : keyT (.d (.tup (qs.map cellD))) = some (keyC qs) := by
  have e : toKey (.tup (qs.map cellD)) = some (keyC qs) := by
    simp only [toKey, toKeys_cells]
    rfl
  have d : (keyC qs).depth ≤ 8 := by
    have := depthAll_cells qs
    unfold keyC
    simp only [NestedKey.depth]
    omega
  unfold keyT
  simp only [e, d, if_true]
theorem keyC_inj : ∀ {a b : List (Int × Int)}, keyC a = keyC b → a = b := by
  intro a b h
  have h' : (a.map fun c => NestedKey.tup [.num c.1, .num c.2]) = (b.map fun c => NestedKey.tup [.num c.1, .num c.2]) := by
    unfold keyC at h
    injection h
  clear h
  induction a generalizing b with
  | nil =>
    cases b with
    | nil => rfl
    | cons _ _ => simp at h'
  | cons x a ih =>
    cases b with
    | nil => simp at h'
    | cons y b =>
      simp only [List.map_cons, List.cons.injEq] at h'
      obtain ⟨h1, h2⟩ := h'
      rw [ih h2]
      obtain ⟨x1, x2⟩ := x
      obtain ⟨y1, y2⟩ := y
      injection h1 with h1
      injection h1 with h3 h4
      injection h3 with h3
      injection h4 with h4 _
      injection h4 with h4
      have h3 : x1 = y1 := h3
      have h4 : x2 = y2 := h4
      rw [h3, h4]
def subs {α : Type} : List α → List (List α)
  | [] => [[]]
  | a :: l => subs l ++ (subs l).map (a :: ·)
theorem subs_len {α : Type} : ∀ l : List α, (subs l).length = 2 ^ l.length
  | [] => rfl
  | a :: l => by simp only [subs, List.length_append, List.length_map, subs_len l, List.length_cons, Nat.pow_succ]; omega
theorem mem_subs {α : Type} {l' l : List α} (h : List.Sublist l' l) : l' ∈ subs l := by
  induction h with
  | slnil => exact List.mem_singleton.mpr rfl
  | cons a _ ih => exact List.mem_append_left _ ih
  | cons_cons a _ ih => exact List.mem_append_right _ (List.mem_map.mpr ⟨_, ih, rfl⟩)
theorem sub_of_subs {α : Type} : ∀ {l l' : List α}, l' ∈ subs l → List.Sublist l' l
  | [], l', h => by rw [List.mem_singleton.mp h]; exact List.Sublist.refl _
  | a :: l, l', h => by
    rcases List.mem_append.mp h with h | h
    · exact (sub_of_subs h).cons a
    · obtain ⟨m, hm, rfl⟩ := List.mem_map.mp h
      exact (sub_of_subs hm).cons_cons a
end En
set_option Elab.async false
set_option linter.all false
set_option maxRecDepth 100000
set_option maxHeartbeats 2000000
namespace En
open PySem PySem.Spec PyProof.Rows L2
theorem call_eq' {mf : MF} {vs : List Val} {t : T} {d : D} {st : List Cell} (ha : vs.all argOk = true) (h : mf vs t.b = .ok (.d d) ⟨st, t.b⟩) : fCall mf vs t = .ok (.d d) t := by
  unfold fCall
  rw [if_pos ha, h]
  simp only [if_true]
theorem forM_run {α β : Type} {f : Val → Rho → Option Rho} {b : MS} (enc : α → Val) (step : β → α → β) (S : β → Rho → T → Prop) : ∀ (xs : List α) (s : β) (ρ : Rho) (t : T), S s ρ t →
    (∀ x s ρ t, x ∈ xs → S s ρ t → ∃ ρ' ρ'' t'', f (enc x) ρ = some ρ' ∧ b ρ' t = .nx ρ'' t'' ∧ S (step s x) ρ'' t'') → ∃ ρ' t', forM f b (xs.map enc) ρ t = .nx ρ' t' ∧ S (xs.foldl step s) ρ' t'
  | [], s, ρ, t, h, _ => ⟨ρ, t, rfl, h⟩
  | x :: xs, s, ρ, t, h, hs => by
    obtain ⟨ρ', ρ'', t'', e1, e2, h'⟩ := hs x s ρ t (List.mem_cons_self ..) h
    obtain ⟨ρ3, t3, e3, h3⟩ := forM_run enc step S xs (step s x) ρ'' t'' h' fun y s ρ t hy => hs y s ρ t (List.mem_cons_of_mem _ hy)
    refine ⟨ρ3, t3, ?_, h3⟩
    rw [List.map_cons]
    unfold En.forM
    rw [e1]
    show turnS (b ρ' t) _ = _
    rw [e2]
    exact e3
theorem forM_fsat {α β : Type} {f : Val → Rho → Option Rho} {b : MS} {V : Val → T → Prop} (enc : α → Val) (step : β → α → β) (S : β → Rho → T → Prop) : ∀ (xs : List α) (s : β) (ρ : Rho) (t : T), S s ρ t →
    (∀ x s ρ t, x ∈ xs → S s ρ t → ∃ ρ', f (enc x) ρ = some ρ' ∧ (b ρ' t).sat (fun ρ t => S (step s x) ρ t) V) → (forM f b (xs.map enc) ρ t).sat (fun ρ t => S (xs.foldl step s) ρ t) V
  | [], s, ρ, t, h, _ => h
  | x :: xs, s, ρ, t, h, hs => by
    obtain ⟨ρ', e1, q⟩ := hs x s ρ t (List.mem_cons_self ..) h
    rw [List.map_cons]
    unfold En.forM
    rw [e1]
    show RS.sat (turnS (b ρ' t) (En.forM f b (xs.map enc))) _ V
    cases hb : b ρ' t with
    | nx ρ2 t2 =>
      rw [hb] at q
      exact forM_fsat enc step S xs (step s x) ρ2 t2 q fun y s ρ t hy => hs y s ρ t (List.mem_cons_of_mem _ hy)
    | rt v2 t2 => rw [hb] at q; exact q
    | bk _ _ => rw [hb] at q; exact q.elim
    | ct _ _ => rw [hb] at q; exact q.elim
    | exc _ _ _ => rw [hb] at q; exact q.elim
    | stuck => rw [hb] at q; exact q.elim
theorem lcM_msat {α : Type} {f : Val → Rho → Option Rho} {te : ME Val} {ρ : Rho} (enc : α → Val) (g : α → Val) (S : T → Prop) : ∀ (xs : List α) (acc : List Val) (t : T), S t → acc.length + xs.length ≤ lim →
    (∀ x t, x ∈ xs → S t → ∃ ρ', f (enc x) ρ = some ρ' ∧ (te ρ' t).sat fun v t' => v = g x ∧ S t') → (lcM f mYes te ρ (xs.map enc) acc t).sat fun vs t => vs = acc ++ xs.map g ∧ S t
  | [], acc, t, h, _, _ => ⟨acc, t, rfl, by simp, h⟩
  | x :: xs, acc, t, h, hl, hs => by
    obtain ⟨ρ', e1, v, t2, e2, rfl, h2⟩ := hs x t (List.mem_cons_self ..) h
    rw [List.length_cons] at hl
    rw [List.map_cons]
    unfold lcM
    rw [e1]
    have hl2 : acc.length < lim := by omega
    simp only [mYes, R.bindN, if_true, e2, if_pos hl2]
    refine sat_mono (lcM_msat enc g S xs (acc ++ [g x]) t2 h2 (by rw [List.length_append, List.length_cons, List.length_nil]; omega) fun y t hy => hs y t (List.mem_cons_of_mem _ hy)) fun vs t3 ⟨h3, h4⟩ => ⟨?_, h4⟩
    rw [h3]
    simp
theorem forM_pre {α : Type} {f : Val → Rho → Option Rho} {b : MS} (enc : α → Val) (S : List α → Rho → T → Prop) (all : List α) (hs : ∀ x pre post ρ t, all = pre ++ x :: post → S pre ρ t → ∃ ρ' ρ'' t'', f (enc x) ρ = some ρ' ∧ b ρ' t = .nx ρ'' t'' ∧ S (pre ++ [x]) ρ'' t'') :
    ∀ (xs pre : List α) (ρ : Rho) (t : T), all = pre ++ xs → S pre ρ t → ∃ ρ' t', forM f b (xs.map enc) ρ t = .nx ρ' t' ∧ S all ρ' t'
  | [], pre, ρ, t, e, h => ⟨ρ, t, rfl, by rw [e, List.append_nil]; exact h⟩
  | x :: xs, pre, ρ, t, e, h => by
    obtain ⟨ρ', ρ'', t'', e1, e2, h'⟩ := hs x pre xs ρ t e h
    obtain ⟨ρ3, t3, e3, h3⟩ := forM_pre enc S all hs xs (pre ++ [x]) ρ'' t'' (by rw [e]; simp) h'
    refine ⟨ρ3, t3, ?_, h3⟩
    rw [List.map_cons]
    unfold En.forM
    rw [e1]
    show turnS (b ρ' t) _ = _
    rw [e2]
    exact e3
theorem forM_presat {α : Type} {f : Val → Rho → Option Rho} {b : MS} {V : Val → T → Prop} (enc : α → Val) (S : List α → Rho → T → Prop) (all : List α) (hs : ∀ x pre post ρ t, all = pre ++ x :: post → S pre ρ t → ∃ ρ', f (enc x) ρ = some ρ' ∧ (b ρ' t).sat (fun ρ t => S (pre ++ [x]) ρ t) V) :
    ∀ (xs pre : List α) (ρ : Rho) (t : T), all = pre ++ xs → S pre ρ t → (forM f b (xs.map enc) ρ t).sat (fun ρ t => S all ρ t) V
  | [], pre, ρ, t, e, h => by
    show S all ρ t
    rw [e, List.append_nil]; exact h
  | x :: xs, pre, ρ, t, e, h => by
    obtain ⟨ρ', e1, q⟩ := hs x pre xs ρ t e h
    rw [List.map_cons]
    unfold En.forM
    rw [e1]
    show RS.sat (turnS (b ρ' t) (En.forM f b (xs.map enc))) _ V
    cases hb : b ρ' t with
    | nx ρ2 t2 =>
      rw [hb] at q
      exact forM_presat enc S all hs xs (pre ++ [x]) ρ2 t2 (by rw [e]; simp) q
    | rt v2 t2 => rw [hb] at q; exact q
    | bk _ _ => rw [hb] at q; exact q.elim
    | ct _ _ => rw [hb] at q; exact q.elim
    | exc _ _ _ => rw [hb] at q; exact q.elim
    | stuck => rw [hb] at q; exact q.elim
theorem mem_look {κ α : Type} [DecidableEq κ] : ∀ {kvs : List (κ × α)} {k : κ} {v : α}, (kvs.map (·.1)).Nodup → (k, v) ∈ kvs → lookK kvs k = some v
  | [], _, _, _, h => by cases h
  | p :: r, k, v, n, h => by
    rw [List.map_cons, List.nodup_cons] at n
    rw [lookK_cons]
    rcases List.mem_cons.mp h with h | h
    · subst h; rw [if_pos rfl]
    · rw [if_neg (fun z => n.1 (by rw [z]; exact List.mem_map.mpr ⟨_, h, rfl⟩))]
      exact mem_look n.2 h
abbrev Pt := Int × Int
def addP (g : List (Str × List Pt)) (w : Str) (p : Pt) : List (Str × List Pt) := putKV g w ((lookK g w).getD [] ++ [p])
def stepP (r : Rule) (c : Pt) (g : List (Str × List Pt)) (p : Pt) : List (Str × List Pt) := if c = p then g else addP g (told r c p) p
def partsF (r : Rule) (c : Pt) (ps : List Pt) : List (Str × List Pt) := ps.foldl (stepP r c) []
def partsL (r : Rule) (c : Pt) (ps : List Pt) : List (List Pt) := (partsF r c ps).map (·.2)
theorem told_found (r : Rule) (c p : Pt) : (told r c p == ("found" : Str)) = decide (c = p) := by
  unfold told
  by_cases h : c = p
  · rw [if_pos h, decide_eq_true h]; decide +kernel
  · rw [if_neg h, decide_eq_false h]
    cases r with
    | plain => show (("empty" : Str) == ("found" : Str)) = false; decide +kernel
    | rows =>
      simp only
      split
      · decide +kernel
      · split <;> decide +kernel
    | near k =>
      simp only
      split <;> decide +kernel
theorem parts_get (r : Rule) (c : Pt) (w : Str) : ∀ (ps : List Pt) (g : List (Str × List Pt)), (lookK (ps.foldl (stepP r c) g) w).getD [] = (lookK g w).getD [] ++ ps.filter fun p => !decide (c = p) && told r c p == w
  | [], g => by simp
  | p :: ps, g => by
    rw [List.foldl_cons, parts_get r c w ps, List.filter_cons]
    unfold stepP
    by_cases h : c = p
    · simp [h]
    · rw [if_neg h, decide_eq_false h]
      unfold addP
      rw [look_put]
      by_cases hw : w = told r c p
      · subst hw
        simp
      · rw [if_neg hw]
        have : (told r c p == w) = false := by
          rw [beq_eq_false_iff_ne]
          exact fun z => hw z.symm
        simp [this]
theorem parts_nodup (r : Rule) (c : Pt) : ∀ (ps : List Pt) (g : List (Str × List Pt)), (g.map (·.1)).Nodup → ((ps.foldl (stepP r c) g).map (·.1)).Nodup
  | [], g, h => h
  | p :: ps, g, h => by
    rw [List.foldl_cons]
    refine parts_nodup r c ps _ ?_
    unfold stepP
    split
    · exact h
    · exact nodup_put h
theorem parts_mem {r : Rule} {c : Pt} {ps : List Pt} {q : List Pt} (h : q ∈ partsL r c ps) : ∃ w, q = ps.filter fun p => !decide (c = p) && told r c p == w := by
  obtain ⟨⟨w, l⟩, hl, rfl⟩ := List.mem_map.mp h
  refine ⟨w, ?_⟩
  have e := mem_look (parts_nodup r c ps [] (by simp)) hl
  have e2 := parts_get r c w ps []
  rw [lookK_nil] at e2
  have e3 : (lookK (partsF r c ps) w).getD [] = l := by
    show (lookK (ps.foldl (stepP r c) []) w).getD [] = l
    rw [e]
    rfl
  rw [← e3]
  exact e2
theorem parts_sub {r : Rule} {c : Pt} {ps q : List Pt} (h : q ∈ partsL r c ps) : List.Sublist q ps := by
  obtain ⟨w, rfl⟩ := parts_mem h
  exact List.filter_sublist
theorem parts_lt {r : Rule} {c : Pt} {ps q : List Pt} (h : q ∈ partsL r c ps) (hn : ps ∉ partsL r c ps) : q.length < ps.length := by
  have s := parts_sub h
  rcases Nat.lt_or_ge q.length ps.length with z | z
  · exact z
  · have := s.eq_of_length_le z
    subst this
    exact absurd h hn
theorem parts_count (r : Rule) (c : Pt) : ∀ (ps : List Pt) (g : List (Str × List Pt)), (ps.foldl (stepP r c) g).length ≤ g.length + ps.length
  | [], g => by simp
  | p :: ps, g => by
    rw [List.foldl_cons]
    have h1 := parts_count r c ps (stepP r c g p)
    have h2 : (stepP r c g p).length ≤ g.length + 1 := by
      unfold stepP
      split
      · omega
      · unfold addP putKV
        split
        · rw [List.length_map]; omega
        · simp
    rw [List.length_cons]
    omega
def encG (g : List (Str × List Pt)) : List (Key × Val) := g.map fun p => ((Sum.inr p.1 : Key), Val.d (.tup (p.2.map cellD)))
def encGD (g : List (Str × List Pt)) : List (Key × D) := g.map fun p => ((Sum.inr p.1 : Key), D.tup (p.2.map cellD))
theorem inr_inj (a b : Str) (h : (Sum.inr a : Key) = Sum.inr b) : a = b := by cases h; rfl
theorem encG_look (g : List (Str × List Pt)) (w : Str) : lookK (encG g) (Sum.inr w) = (lookK g w).map fun l => Val.d (.tup (l.map cellD)) := look_enc (fun x => (Sum.inr x : Key)) inr_inj (fun (l : List Pt) => Val.d (.tup (l.map cellD))) g w
theorem encG_put (g : List (Str × List Pt)) (w : Str) (l : List Pt) : putKV (encG g) (Sum.inr w) (Val.d (.tup (l.map cellD))) = encG (putKV g w l) := put_enc (fun x => (Sum.inr x : Key)) inr_inj (fun (l : List Pt) => Val.d (.tup (l.map cellD))) g w l
theorem datas_encG (g : List (Str × List Pt)) : datas ((encG g).map (·.2)) = some ((encGD g).map (·.2)) := by
  have e : (encG g).map (·.2) = ((encGD g).map (·.2)).map Val.d := by
    unfold encG encGD
    simp [List.map_map, Function.comp_def]
  rw [e, datas_map]
theorem zip_encG (g : List (Str × List Pt)) : ((encG g).map (·.1)).zip ((encGD g).map (·.2)) = encGD g := by
  unfold encG encGD
  induction g with
  | nil => rfl
  | cons p g ih => simp only [List.map_cons, List.zip_cons_cons, ih]
theorem addT {xs ys : List D} (h : xs.length + ys.length ≤ lim) (t : T) : fAdd (.d (.tup xs)) (.d (.tup ys)) t = .ok (.d (.tup (xs ++ ys))) t := by
  show (if xs.length + ys.length ≤ lim then _ else _) = _
  rw [if_pos h]
end En
set_option Elab.async false
set_option linter.all false
set_option maxRecDepth 100000
set_option maxHeartbeats 1000000
set_option autoImplicit false
namespace En
section
variable {α : Type} [DecidableEq α]
def Reach (adj : α → List α) (b : α) : Nat → α → Prop
  | 0, c => c = b
  | k + 1, c => ∃ d, Reach adj b k d ∧ c ∈ adj d
def IsDist (adj : α → List α) (b : α) (k : Nat) (c : α) : Prop := Reach adj b k c ∧ ∀ j, j < k → ¬ Reach adj b j c
variable {adj : α → List α} {b : α}
theorem Reach.least : ∀ (k : Nat) (c : α), Reach adj b k c → ∃ j, j ≤ k ∧ IsDist adj b j c := by
  intro k
  induction k using Nat.strongRecOn with
  | ind k ih =>
    intro c h
    by_cases hx : ∃ j, j < k ∧ Reach adj b j c
    · obtain ⟨j, h1, h2⟩ := hx
      obtain ⟨i, h3, h4⟩ := ih j h1 c h2
      exact ⟨i, by omega, h4⟩
    · exact ⟨k, Nat.le_refl _, h, fun j hj hr => hx ⟨j, hj, hr⟩⟩
theorem IsDist.uniq {j k : Nat} {c : α} (h1 : IsDist adj b j c) (h2 : IsDist adj b k c) : j = k := by
  rcases Nat.lt_trichotomy j k with h | h | h
  · exact absurd h1.1 (h2.2 j h)
  · exact h
  · exact absurd h2.1 (h1.2 k h)
theorem IsDist.pred {k : Nat} {c : α} (h : IsDist adj b (k + 1) c) : ∃ d, IsDist adj b k d ∧ c ∈ adj d := by
  obtain ⟨⟨d, h1, h2⟩, h3⟩ := h
  exact ⟨d, ⟨h1, fun j hj hr => h3 (j + 1) (by omega) ⟨d, hr, h2⟩⟩, h2⟩
theorem Reach.congr {adj' : α → List α} (h : ∀ c d, Reach adj b 0 d ∨ True → (c ∈ adj d ↔ c ∈ adj' d)) : ∀ (k : Nat) (c : α), Reach adj b k c ↔ Reach adj' b k c
  | 0, c => Iff.rfl
  | k + 1, c => by
    constructor
    · rintro ⟨d, h1, h2⟩
      exact ⟨d, (Reach.congr h k d).mp h1, (h c d (.inr trivial)).mp h2⟩
    · rintro ⟨d, h1, h2⟩
      exact ⟨d, (Reach.congr h k d).mpr h1, (h c d (.inr trivial)).mpr h2⟩
theorem IsDist.congr {adj' : α → List α} (h : ∀ c d, c ∈ adj d ↔ c ∈ adj' d) {k : Nat} {c : α} : IsDist adj b k c ↔ IsDist adj' b k c := by
  have hc := Reach.congr (adj := adj) (adj' := adj') (b := b) fun c d _ => h c d
  unfold IsDist
  rw [hc k c]
  constructor
  · rintro ⟨h1, h2⟩; exact ⟨h1, fun j hj z => h2 j hj ((hc j c).mpr z)⟩
  · rintro ⟨h1, h2⟩; exact ⟨h1, fun j hj z => h2 j hj ((hc j c).mp z)⟩
def stepO (n : Nat) (s : List (α × Int) × List α) (o : α) : List (α × Int) × List α := if (lookK s.1 o).isSome then s else (putKV s.1 o ((n : Int) + 1), s.2 ++ [o])
theorem stepO_fold (n : Nat) : ∀ (xs : List α) (f : List (α × Int)) (l : List α),
    (∀ c, lookK (xs.foldl (stepO n) (f, l)).1 c = if (lookK f c).isSome then lookK f c else if c ∈ xs then some ((n : Int) + 1) else none) ∧
    (∀ c, c ∈ (xs.foldl (stepO n) (f, l)).2 ↔ c ∈ l ∨ (c ∈ xs ∧ lookK f c = none)) ∧
    ((f.map (·.1)).Nodup → ((xs.foldl (stepO n) (f, l)).1.map (·.1)).Nodup) ∧
    (∀ c ∈ (xs.foldl (stepO n) (f, l)).1.map (·.1), c ∈ f.map (·.1) ∨ c ∈ xs) ∧
    (xs.foldl (stepO n) (f, l)).1.length + l.length = f.length + (xs.foldl (stepO n) (f, l)).2.length
  | [], f, l => by
    refine ⟨fun c => ?_, fun c => ?_, fun h => h, fun c hc => .inl hc, rfl⟩
    · show lookK f c = _
      cases lookK f c <;> simp
    · simp
  | x :: xs, f, l => by
    rw [List.foldl_cons]
    by_cases hx : (lookK f x).isSome = true
    · have e : stepO n (f, l) x = (f, l) := if_pos hx
      rw [e]
      obtain ⟨h1, h2, h3, h4, h5⟩ := stepO_fold n xs f l
      refine ⟨fun c => ?_, fun c => ?_, h3, fun c hc => ?_, h5⟩
      · rw [h1 c]
        by_cases hc : (lookK f c).isSome = true
        · rw [if_pos hc, if_pos hc]
        · rw [if_neg hc, if_neg hc]
          have : c ≠ x := fun z => hc (by rw [z]; exact hx)
          simp [this]
      · rw [h2 c]
        have : lookK f c = none → c ≠ x := fun h z => by rw [z] at h; rw [h] at hx; cases hx
        constructor
        · rintro (h | ⟨h, h'⟩)
          · exact .inl h
          · exact .inr ⟨List.mem_cons_of_mem _ h, h'⟩
        · rintro (h | ⟨h, h'⟩)
          · exact .inl h
          · rcases List.mem_cons.mp h with h | h
            · exact absurd h (this h')
            · exact .inr ⟨h, h'⟩
      · rcases h4 c hc with h | h
        · exact .inl h
        · exact .inr (List.mem_cons_of_mem _ h)
    · have e : stepO n (f, l) x = (putKV f x ((n : Int) + 1), l ++ [x]) := if_neg hx
      rw [e]
      have hxn : lookK f x = none := by
        cases h : lookK f x with
        | none => rfl
        | some v => rw [h] at hx; exact absurd rfl hx
      obtain ⟨h1, h2, h3, h4, h5⟩ := stepO_fold n xs (putKV f x ((n : Int) + 1)) (l ++ [x])
      have hkeys : (putKV f x ((n : Int) + 1)).map (·.1) = f.map (·.1) ++ [x] := by
        rw [keys_put, hxn]
        rfl
      refine ⟨fun c => ?_, fun c => ?_, fun h => h3 (nodup_put h), fun c hc => ?_, ?_⟩
      · rw [h1 c, look_put]
        by_cases hc : c = x
        · subst hc
          rw [if_pos rfl, hxn]
          simp
        · rw [if_neg hc]
          by_cases hf : (lookK f c).isSome = true
          · rw [if_pos hf, if_pos hf]
          · rw [if_neg hf, if_neg hf]
            simp [hc]
      · rw [h2 c, look_put]
        by_cases hc : c = x
        · subst hc
          simp [hxn]
        · rw [if_neg hc]
          simp [hc]
      · rcases h4 c hc with h | h
        · rw [hkeys] at h
          rcases List.mem_append.mp h with h | h
          · exact .inl h
          · rw [List.mem_singleton.mp h]; exact .inr (List.mem_cons_self ..)
        · exact .inr (List.mem_cons_of_mem _ h)
      · have hl : (putKV f x ((n : Int) + 1)).length = f.length + 1 := by
          have := congrArg List.length hkeys
          simpa using this
        rw [hl, List.length_append, List.length_cons, List.length_nil] at h5
        omega
structure Lv (adj : α → List α) (b : α) (cells : List α) (n : Nat) (f : List (α × Int)) (level : List α) : Prop where
  has : ∀ (c : α) (k : Nat), IsDist adj b k c → k ≤ n → lookK f c = some (k : Int)
  only : ∀ (c : α) (v : Int), lookK f c = some v → ∃ k : Nat, k ≤ n ∧ v = k ∧ IsDist adj b k c
  lev : ∀ c, c ∈ level ↔ IsDist adj b n c
  nodup : (f.map (·.1)).Nodup
  sub : ∀ c ∈ f.map (·.1), c ∈ cells
  many : n + level.length ≤ f.length
theorem Lv.start {cells : List α} (hb : b ∈ cells) : Lv adj b cells 0 [(b, 0)] [b] where
  has := fun c k h hk => by
    have : k = 0 := by omega
    subst this
    have h1 : c = b := h.1
    subst h1
    rw [lookK_cons, if_pos rfl]
    rfl
  only := fun c v h => by
    rw [lookK_cons] at h
    split at h
    · rename_i e
      cases h
      exact ⟨0, Nat.le_refl _, rfl, e.symm, fun j hj => absurd hj (Nat.not_lt_zero _)⟩
    · cases h
  lev := fun c => by
    rw [List.mem_singleton]
    exact ⟨fun h => ⟨h, fun j hj => absurd hj (Nat.not_lt_zero _)⟩, fun h => h.1⟩
  nodup := by simp
  sub := fun c hc => by
    rw [List.map_cons, List.map_nil, List.mem_singleton] at hc
    rw [hc]; exact hb
  many := Nat.le_refl _
theorem Lv.unmet {cells : List α} {n : Nat} {f : List (α × Int)} {level : List α} (h : Lv adj b cells n f level) {c : α} (hc : lookK f c = none) : ∀ j, j ≤ n → ¬ Reach adj b j c := fun j hj hr => by
  obtain ⟨i, hi, hd⟩ := Reach.least j c hr
  have := h.has c i hd (by omega)
  rw [hc] at this
  cases this
theorem Lv.next {cells : List α} {n : Nat} {f : List (α × Int)} {level : List α} (h : Lv adj b cells n f level) (hne : level ≠ []) (hadj : ∀ d ∈ cells, ∀ c ∈ adj d, c ∈ cells) (hlc : ∀ d ∈ level, d ∈ cells) : Lv adj b cells (n + 1) ((level.flatMap adj).foldl (stepO n) (f, [])).1 ((level.flatMap adj).foldl (stepO n) (f, [])).2 := by
  obtain ⟨h1, h2, h3, h4, h5⟩ := stepO_fold n (level.flatMap adj) f []
  have key : ∀ c, (c ∈ level.flatMap adj ∧ lookK f c = none) ↔ IsDist adj b (n + 1) c := fun c => by
    constructor
    · rintro ⟨hm, hn⟩
      obtain ⟨d, hd, hc⟩ := List.mem_flatMap.mp hm
      exact ⟨⟨d, ((h.lev d).mp hd).1, hc⟩, fun j hj => h.unmet hn j (by omega)⟩
    · intro hd
      obtain ⟨d, h6, h7⟩ := hd.pred
      refine ⟨List.mem_flatMap.mpr ⟨d, (h.lev d).mpr h6, h7⟩, ?_⟩
      cases e : lookK f c with
      | none => rfl
      | some v =>
        obtain ⟨k, hk, _, hk2⟩ := h.only c v e
        have := hk2.uniq hd
        omega
  refine ⟨fun c k hd hk => ?_, fun c v hv => ?_, fun c => ?_, h3 h.nodup, fun c hc => ?_, ?_⟩
  · rw [h1 c]
    by_cases hk' : k ≤ n
    · rw [h.has c k hd hk']
      rfl
    · have : k = n + 1 := by omega
      subst this
      obtain ⟨h6, h7⟩ := (key c).mpr hd
      rw [h7, if_neg (by simp), if_pos h6]
      simp
  · rw [h1 c] at hv
    split at hv
    · obtain ⟨k, hk, e, hd⟩ := h.only c v hv
      exact ⟨k, by omega, e, hd⟩
    · rename_i hn
      split at hv
      · rename_i hm
        cases hv
        have hnone : lookK f c = none := by
          cases e : lookK f c with
          | none => rfl
          | some v => rw [e] at hn; exact absurd rfl hn
        exact ⟨n + 1, Nat.le_refl _, by simp, (key c).mp ⟨hm, hnone⟩⟩
      · cases hv
  · rw [h2 c, ← key c]
    simp
  · rcases h4 c hc with h6 | h6
    · exact h.sub c h6
    · obtain ⟨d, hd, hc⟩ := List.mem_flatMap.mp h6
      exact hadj d (hlc d hd) c hc
  · have := h.many
    have : 0 < level.length := List.length_pos_iff.mpr hne
    rw [List.length_nil] at h5
    omega
theorem Lv.level_cells {cells : List α} {n : Nat} {f : List (α × Int)} {level : List α} (h : Lv adj b cells n f level) : ∀ d ∈ level, d ∈ cells := fun d hd => by
  have := h.has d n ((h.lev d).mp hd) (Nat.le_refl _)
  refine h.sub d ?_
  by_cases hm : d ∈ f.map (·.1)
  · exact hm
  · rw [look_none.mpr hm] at this
    cases this
theorem Lv.few {cells : List α} {n : Nat} {f : List (α × Int)} {level : List α} (h : Lv adj b cells n f level) : n + level.length ≤ cells.length := by
  have h1 := nodup_le h.nodup h.sub
  rw [List.length_map] at h1
  have := h.many
  omega
def Dists (adj : α → List α) (b : α) (f : List (α × Int)) : Prop := (∀ (c : α) (k : Nat), IsDist adj b k c ↔ lookK f c = some (k : Int)) ∧ ∀ (c : α) (v : Int), lookK f c = some v → 0 ≤ v
theorem Lv.done {cells : List α} {n : Nat} {f : List (α × Int)} (h : Lv adj b cells n f []) : Dists adj b f := by
  have far : ∀ (k : Nat) (c : α), n ≤ k → ¬ IsDist adj b k c := by
    intro k
    induction k with
    | zero => intro c hk hd; have : n = 0 := by omega
              subst this; exact absurd ((h.lev c).mpr hd) (by simp)
    | succ k ih =>
      intro c hk hd
      by_cases hk2 : n = k + 1
      · subst hk2; exact absurd ((h.lev c).mpr hd) (by simp)
      · obtain ⟨d, h1, _⟩ := hd.pred
        exact ih d (by omega) h1
  refine ⟨fun c k => ⟨fun hd => ?_, fun hv => ?_⟩, fun c v hv => ?_⟩
  · by_cases hk : k ≤ n
    · exact h.has c k hd hk
    · exact absurd hd (far k c (by omega))
  · obtain ⟨j, _, e, hd⟩ := h.only c _ hv
    have : k = j := by omega
    subst this
    exact hd
  · obtain ⟨j, _, e, _⟩ := h.only c v hv
    omega
theorem Dists.same {adj' : α → List α} {f g : List (α × Int)} (hf : Dists adj b f) (hg : Dists adj' b g) (h : ∀ c d, c ∈ adj d ↔ c ∈ adj' d) (c : α) : lookK f c = lookK g c := by
  cases e : lookK f c with
  | some v =>
    have h0 := hf.2 c v e
    obtain ⟨k, rfl⟩ : ∃ k : Nat, v = k := ⟨v.toNat, by omega⟩
    exact ((hg.1 c k).mp ((IsDist.congr h).mp ((hf.1 c k).mpr e))).symm
  | none =>
    cases e' : lookK g c with
    | none => rfl
    | some v =>
      have h0 := hg.2 c v e'
      obtain ⟨k, rfl⟩ : ∃ k : Nat, v = k := ⟨v.toNat, by omega⟩
      have := (hf.1 c k).mp ((IsDist.congr h).mpr ((hg.1 c k).mpr e'))
      rw [e] at this
      cases this
end
end En
set_option Elab.async false
set_option linter.all false
set_option maxRecDepth 100000
set_option maxHeartbeats 2000000
namespace K91
open PySem PySem.Spec PyProof.Rows L2 En
def kC (p : Pt) : NestedKey := .tup [.num p.1, .num p.2]
theorem kC_inj (p q : Pt) (h : kC p = kC q) : p = q := by
  unfold kC at h
  simp only [NestedKey.tup.injEq, List.cons.injEq, NestedKey.num.injEq, and_true] at h
  exact Prod.ext h.1 h.2
theorem keyT_cell (p : Pt) : keyT (.d (cellD p)) = some (kC p) := rfl
def encF (f : List (Pt × Int)) : List (NestedKey × Val) := f.map fun p => (kC p.1, Val.d (.int p.2))
theorem encF_look (f : List (Pt × Int)) (p : Pt) : lookK (encF f) (kC p) = (lookK f p).map fun v => Val.d (.int v) := look_enc kC kC_inj (fun v => Val.d (.int v)) f p
theorem encF_put (f : List (Pt × Int)) (p : Pt) (v : Int) : putKV (encF f) (kC p) (Val.d (.int v)) = encF (putKV f p v) := put_enc kC kC_inj (fun v => Val.d (.int v)) f p v
def DF (f : List (Pt × Int)) (dd : List Cell) (l : List Pt) (b : Box) : T := ⟨(.dT (encF f) :: dd) ++ [.lst ((l.map cellD).map Val.d)], b⟩
section
variable {f : List (Pt × Int)} {dd : List Cell} {l : List Pt} {b : Box}
theorem st0 : (DF f dd l b).st[0]? = some (.dT (encF f)) := rfl
theorem getDF (p : Pt) : dGet? (.loc 0) (.d (cellD p)) (DF f dd l b) = some ((lookK f p).map fun v => Val.d (.int v)) := by
  unfold dGet?
  simp only [st0, keyT_cell]
  rw [← encF_look]
  rfl
theorem notInDF (p : Pt) : fDNotIn (.d (cellD p)) (.loc 0) (DF f dd l b) = .ok (.d (.bl (!(lookK f p).isSome))) (DF f dd l b) := by
  unfold fDNotIn
  rw [getDF]
  cases lookK f p <;> rfl
theorem lookDF {p : Pt} {v : Int} (h : lookK f p = some v) : fDGet (.loc 0) (.d (cellD p)) (DF f dd l b) = .ok (.d (.int v)) (DF f dd l b) := by
  unfold fDGet
  rw [getDF, h]
  rfl
theorem appDF {o : Pt} (h : l.length < 1000) : fAppend (.loc (dd.length + 1)) [.d (cellD o)] (DF f dd l b) = .ok (.d .non) (DF f dd (l ++ [o]) b) := by
  have hlen : ((l.map cellD).map Val.d).length < lim := by rw [List.length_map, List.length_map]; show _ < 100000; omega
  have hg : (DF f dd l b).st[dd.length + 1]? = some (.lst ((l.map cellD).map Val.d)) := by
    show ((Cell.dT (encF f) :: dd) ++ [Cell.lst ((l.map cellD).map Val.d)])[dd.length + 1]? = _
    rw [List.getElem?_append_right (by simp)]
    simp
  unfold fAppend
  simp only [hg]
  rw [if_pos hlen]
  unfold putL DF
  simp
theorem islDF : isLstB (.loc (dd.length + 1)) (DF f dd l b) = true := by
  have hg : (DF f dd l b).st[dd.length + 1]? = some (.lst ((l.map cellD).map Val.d)) := by
    show ((Cell.dT (encF f) :: dd) ++ [Cell.lst ((l.map cellD).map Val.d)])[dd.length + 1]? = _
    rw [List.getElem?_append_right (by simp)]
    simp
  unfold isLstB asList
  simp only [hg]
  rfl
theorem putDF {ρ : Rho} {e : ME Val} {i j : Nat} {o : Pt} {v : Int} (h2 : ρ[i]? = some (some (.loc 0))) (h6 : ρ[j]? = some (some (.d (cellD o)))) (he : e ρ (DF f dd l b) = .ok (.d (.int v)) (DF f dd l b)) (hl : f.length < 1000) :
    En.sDPut (mVar i) (mVar j) e ρ (DF f dd l b) = .nx ρ (DF (putKV f o v) dd l b) := by
  have e2 : ∀ t : T, mVar i ρ t = .ok (.loc 0) t := fun t => mVar_eq h2
  have e6 : ∀ t : T, mVar j ρ t = .ok (.d (cellD o)) t := fun t => mVar_eq h6
  have hlen : (encF f).length < lim := by unfold encF; rw [List.length_map]; show _ < 100000; omega
  unfold En.sDPut
  simp only [e2, e6, he, R.toS_ok, st0, keyT_cell, hlen, if_true, encF_put]
  rfl
end
def bodyP : MS := (sIf (m1 asB (m2 fDNotIn (mVar 6) (mVar 2)))
        (sSeq (En.sDPut (mVar 2) (mVar 6) (m2 fAdd (m2 fDGet (mVar 2) (mVar 5)) (mC (.int 1))))
         (sDrop (mMeth isLstB fAppend (mVar 4) (mCons (mVar 6) mNil))))
        sNil)
theorem bodyP_eq {x0 x1 x3 : Option Val} {f : List (Pt × Int)} {dd : List Cell} {l : List Pt} {b : Box} {here o : Pt} {n : Nat} (hh : lookK f here = some (n : Int)) (hf : f.length < 1000) (hl : l.length < 1000) :
    bodyP [x0, x1, some (.loc 0), x3, some (.loc (dd.length + 1)), some (.d (cellD here)), some (.d (cellD o))] (DF f dd l b) = .nx [x0, x1, some (.loc 0), x3, some (.loc (dd.length + 1)), some (.d (cellD here)), some (.d (cellD o))] (DF (stepO n (f, l) o).1 dd (stepO n (f, l) o).2 b) := by
  unfold bodyP stepO
  by_cases ho : (lookK f o).isSome = true
  · rw [if_pos ho]
    simp only [List.map_cons, List.map_nil, List.length_cons, List.length_nil, List.replicate, List.cons_append, List.nil_append, List.append_nil, sSeq, sIf, sRet, sNil, sSet, sDrop, m2, m1, mL, mCons, mNil, mC, mVar, mIf, List.getElem?_cons_zero, List.getElem?_cons_succ, List.set_cons_zero, List.set_cons_succ, R.bind_ok, R.toS_ok, Nat.reduceAdd, Nat.reduceSub, Nat.zero_add, En.eq_cell, En.asB_ok, En.eq_int, En.lt_ok, En.le_ok, En.sub_ok, En.add_ok, En.abs_ok, En.cell_0, En.cell_1, decide_true, decide_false, Bool.false_eq_true, if_true, if_false, Bool.not_true, Bool.not_false, notInDF, ho]
  · rw [if_neg ho]
    have ho' : (lookK f o).isSome = false := by simpa using ho
    have hp := putDF (ρ := [x0, x1, some (.loc 0), x3, some (.loc (dd.length + 1)), some (.d (cellD here)), some (.d (cellD o))]) (e := m2 fAdd (m2 fDGet (mVar 2) (mVar 5)) (mC (.int 1))) (i := 2) (j := 6) (o := o) (v := (n : Int) + 1) (f := f) (dd := dd) (l := l) (b := b) rfl rfl (by simp only [List.map_cons, List.map_nil, List.length_cons, List.length_nil, List.replicate, List.cons_append, List.nil_append, List.append_nil, sSeq, sIf, sRet, sNil, sSet, sDrop, m2, m1, mL, mCons, mNil, mC, mVar, mIf, List.getElem?_cons_zero, List.getElem?_cons_succ, List.set_cons_zero, List.set_cons_succ, R.bind_ok, R.toS_ok, Nat.reduceAdd, Nat.reduceSub, Nat.zero_add, En.eq_cell, En.asB_ok, En.eq_int, En.lt_ok, En.le_ok, En.sub_ok, En.add_ok, En.abs_ok, En.cell_0, En.cell_1, decide_true, decide_false, Bool.false_eq_true, if_true, if_false, Bool.not_true, Bool.not_false, lookDF hh]) hf
    simp only [sIf, m1, m2, mVar, List.getElem?_cons_zero, List.getElem?_cons_succ, R.bind_ok, R.toS_ok, notInDF, ho', asB_ok, Bool.not_false, if_true, sSeq] at hp ⊢
    rw [hp]
    simp only [sDrop, mMeth, mVar, mCons, mNil, List.getElem?_cons_zero, List.getElem?_cons_succ, R.bind_ok, R.toS_ok, islDF, if_true, appDF hl]
end K91
set_option Elab.async false
set_option linter.all false
set_option maxRecDepth 100000
set_option maxHeartbeats 2000000
namespace K91
open PySem PySem.Spec PyProof.Rows L2 En
abbrev Sf (n : Nat) (f : List (Pt × Int)) (zs : List Pt) : List (Pt × Int) × List Pt := zs.foldl (stepO n) (f, [])
theorem Sf_bound {n : Nat} {f : List (Pt × Int)} {zs cells : List Pt} (hk : (f.map (·.1)).Nodup) (hs : ∀ c ∈ f.map (·.1), c ∈ cells) (hz : ∀ c ∈ zs, c ∈ cells) : (Sf n f zs).1.length ≤ cells.length ∧ (Sf n f zs).2.length ≤ cells.length := by
  obtain ⟨h1, h2, h3, h4, h5⟩ := stepO_fold n zs f []
  have hb := nodup_le (h3 hk) (l' := cells) fun c hc => by
    rcases h4 c hc with h | h
    · exact hs c h
    · exact hz c h
  rw [List.length_map] at hb
  rw [List.length_nil] at h5
  refine ⟨hb, ?_⟩
  show (zs.foldl (stepO n) (f, [])).2.length ≤ _
  omega
theorem Sf_look {n : Nat} {f : List (Pt × Int)} {zs : List Pt} {c : Pt} {v : Int} (h : lookK f c = some v) : lookK (Sf n f zs).1 c = some v := by
  obtain ⟨h1, _⟩ := stepO_fold n zs f []
  rw [h1 c, h]
  rfl
theorem Sf_snoc (n : Nat) (f : List (Pt × Int)) (zs : List Pt) (o : Pt) : Sf n f (zs ++ [o]) = stepO n (Sf n f zs) o := by
  show (zs ++ [o]).foldl (stepO n) (f, []) = _
  rw [List.foldl_append]
  rfl
section
variable {x0 x1 x3 : Option Val} {n : Nat} {f : List (Pt × Int)} {cells : List Pt} {dd : List Cell} {b : Box}
theorem innerP (hcl : cells.length ≤ 200) (hk : (f.map (·.1)).Nodup) (hs : ∀ c ∈ f.map (·.1), c ∈ cells) {here : Pt} (hh : lookK f here = some (n : Int)) (zs xs : List Pt) (hz : ∀ c ∈ zs, c ∈ cells) (hx : ∀ c ∈ xs, c ∈ cells) (o6 : Option Val) :
    ∃ o6', forM (gN 6) bodyP (xs.map fun p => .d (cellD p)) [x0, x1, some (.loc 0), x3, some (.loc (dd.length + 1)), some (.d (cellD here)), o6] (DF (Sf n f zs).1 dd (Sf n f zs).2 b) = .nx [x0, x1, some (.loc 0), x3, some (.loc (dd.length + 1)), some (.d (cellD here)), o6'] (DF (Sf n f (zs ++ xs)).1 dd (Sf n f (zs ++ xs)).2 b) := by
  obtain ⟨ρ', t', e, o6', rfl, rfl⟩ := forM_pre (f := gN 6) (b := bodyP) (fun p => .d (cellD p)) (fun pre ρ t => ∃ o6, ρ = [x0, x1, some (.loc 0), x3, some (.loc (dd.length + 1)), some (.d (cellD here)), o6] ∧ t = DF (Sf n f (zs ++ pre)).1 dd (Sf n f (zs ++ pre)).2 b) xs (by
    rintro o pre post ρ t epr ⟨o6, rfl, rfl⟩
    have hpz : ∀ c ∈ zs ++ pre, c ∈ cells := fun c hc => by
      rcases List.mem_append.mp hc with h | h
      · exact hz c h
      · exact hx c (by rw [epr]; exact List.mem_append_left _ h)
    obtain ⟨b1, b2⟩ := Sf_bound (n := n) hk hs hpz
    refine ⟨_, _, _, rfl, bodyP_eq (n := n) (Sf_look hh) (by omega) (by omega), some (.d (cellD o)), rfl, ?_⟩
    rw [← List.append_assoc, Sf_snoc]) xs [] [x0, x1, some (.loc 0), x3, some (.loc (dd.length + 1)), some (.d (cellD here)), o6] (DF (Sf n f zs).1 dd (Sf n f zs).2 b) rfl ⟨o6, rfl, by rw [List.append_nil]⟩
  exact ⟨o6', e⟩
end
theorem cellsI (ps : List Pt) (t : T) : fIter (.d (.lst (ps.map cellD))) t = .ok (ps.map fun p => .d (cellD p)) t := by
  show R.ok ((ps.map cellD).map Val.d) t = _
  rw [List.map_map]
  rfl
section
variable {rows : List Str} {w : Nat} {x1 x3 : Option Val} {n : Nat} {f : List (Pt × Int)} {cells : List Pt} {dd : List Cell} {b : Box}
theorem outerP (hr : RowsOk rows w) (hcl : cells.length ≤ 200) (hk : (f.map (·.1)).Nodup) (hs : ∀ c ∈ f.map (·.1), c ∈ cells) (level : List Pt) (hlv : ∀ d ∈ level, lookK f d = some (n : Int)) (hadj : ∀ d ∈ level, ∀ c ∈ adjP rows w d, c ∈ cells) (o5 o6 : Option Val) :
    ∃ o5' o6', forM (gN 5) (sFor (gN 6) (m1 fIter (mL (fCall f_neighbors) (mCons (mVar 0) (mCons (mVar 5) mNil)))) bodyP) (level.map fun p => .d (cellD p)) [some (.d (islD rows)), x1, some (.loc 0), x3, some (.loc (dd.length + 1)), o5, o6] (DF f dd [] b) = .nx [some (.d (islD rows)), x1, some (.loc 0), x3, some (.loc (dd.length + 1)), o5', o6'] (DF (Sf n f (level.flatMap (adjP rows w))).1 dd (Sf n f (level.flatMap (adjP rows w))).2 b) := by
  obtain ⟨ρ', t', e, o5', o6', rfl, rfl⟩ := forM_pre (f := gN 5) (b := sFor (gN 6) (m1 fIter (mL (fCall f_neighbors) (mCons (mVar 0) (mCons (mVar 5) mNil)))) bodyP) (fun p => .d (cellD p)) (fun pre ρ t => ∃ o5 o6, ρ = [some (.d (islD rows)), x1, some (.loc 0), x3, some (.loc (dd.length + 1)), o5, o6] ∧ t = DF (Sf n f (pre.flatMap (adjP rows w))).1 dd (Sf n f (pre.flatMap (adjP rows w))).2 b) level (by
    rintro d pre post ρ t epr ⟨o5, o6, rfl, rfl⟩
    have hd : d ∈ level := by rw [epr]; simp
    have hpre : ∀ c ∈ pre.flatMap (adjP rows w), c ∈ cells := fun c hc => by
      obtain ⟨e, he, hc⟩ := List.mem_flatMap.mp hc
      exact hadj e (by rw [epr]; exact List.mem_append_left _ he) c hc
    obtain ⟨o6', ei⟩ := innerP (x0 := some (.d (islD rows))) (x1 := x1) (x3 := x3) (n := n) (dd := dd) (b := b) hcl hk hs (hlv d hd) (pre.flatMap (adjP rows w)) (adjP rows w d) hpre (hadj d hd) o6
    have hnb : ∀ t : T, fCall f_neighbors [.d (islD rows), .d (cellD d)] t = .ok (.d (.lst ((adjP rows w d).map cellD))) t := fun t => call_eq rfl (neighbors_eq hr d t.b)
    refine ⟨_, _, DF (Sf n f (pre.flatMap (adjP rows w) ++ adjP rows w d)).1 dd (Sf n f (pre.flatMap (adjP rows w) ++ adjP rows w d)).2 b, rfl, ?_, some (.d (cellD d)), o6', rfl, ?_⟩
    · unfold sFor
      simp only [m1, mL, mCons, mNil, mVar, List.getElem?_cons_zero, List.getElem?_cons_succ, List.set_cons_zero, List.set_cons_succ, gN, R.bind_ok, R.toS_ok, hnb, cellsI]
      exact ei
    · rw [List.flatMap_append]
      simp) level [] [some (.d (islD rows)), x1, some (.loc 0), x3, some (.loc (dd.length + 1)), o5, o6] (DF f dd [] b) rfl ⟨o5, o6, rfl, rfl⟩
  exact ⟨o5', o6', e⟩
end
def condP : ME Bool := (m1 asB (m2 fNe (mVar 3) (mL fFz (mL fLen mNil))))
def turnP : MS := (sSeq (sSet 4 (mL fNew (mL fLen mNil)))
     (sSeq (sFor (gN 5) (m1 fIter (mVar 3))
      (sFor (gN 6) (m1 fIter (mL (fCall f_neighbors) (mCons (mVar 0) (mCons (mVar 5) mNil)))) bodyP))
      (sFz 4 (sSet 3 (mVar 4)))))
theorem ne_cellsL (ps : List Pt) (t : T) : fNe (.d (.lst (ps.map cellD))) (.d (.lst [])) t = .ok (.d (.bl (!ps.isEmpty))) t := by
  rw [ne_of_val (val_cellsL ps t) (val_L0 t), eqv_L0]
  cases ps <;> rfl
theorem fzDF {f : List (Pt × Int)} {dd : List Cell} {l : List Pt} {b : Box} : fFreeze (.loc (dd.length + 1)) (DF f dd l b) = .ok (.d (.lst (l.map cellD))) ⟨.dT (encF f) :: (dd ++ [.dead]), b⟩ := by
  have hg : (DF f dd l b).st[dd.length + 1]? = some (.lst ((l.map cellD).map Val.d)) := by
    show ((Cell.dT (encF f) :: dd) ++ [Cell.lst ((l.map cellD).map Val.d)])[dd.length + 1]? = _
    rw [List.getElem?_append_right (by simp)]
    simp
  unfold fFreeze
  simp only [hg, datas_map]
  unfold DF
  simp
theorem turnP_eq {rows : List Str} {w : Nat} {x1 o4 o5 o6 : Option Val} {n : Nat} {f : List (Pt × Int)} {cells : List Pt} {dd : List Cell} {b : Box} (hr : RowsOk rows w) (hcl : cells.length ≤ 200) (hk : (f.map (·.1)).Nodup) (hs : ∀ c ∈ f.map (·.1), c ∈ cells) (level : List Pt) (hlv : ∀ d ∈ level, lookK f d = some (n : Int)) (hadj : ∀ d ∈ level, ∀ c ∈ adjP rows w d, c ∈ cells) :
    ∃ o4' o5' o6', turnP [some (.d (islD rows)), x1, some (.loc 0), some (.d (.lst (level.map cellD))), o4, o5, o6] ⟨.dT (encF f) :: dd, b⟩ = .nx [some (.d (islD rows)), x1, some (.loc 0), some (.d (.lst ((Sf n f (level.flatMap (adjP rows w))).2.map cellD))), o4', o5', o6'] ⟨.dT (encF (Sf n f (level.flatMap (adjP rows w))).1) :: (dd ++ [.dead]), b⟩ := by
  obtain ⟨o5', o6', e⟩ := outerP (x1 := x1) (x3 := some (.d (.lst (level.map cellD)))) (dd := dd) (b := b) hr hcl hk hs level hlv hadj o5 o6
  refine ⟨some (.d (.lst ((Sf n f (level.flatMap (adjP rows w))).2.map cellD))), o5', o6', ?_⟩
  have h2 : ∀ t : T, fLen [] t = .ok [] t := fun _ => rfl
  have hn : fNew [] (⟨.dT (encF f) :: dd, b⟩ : T) = .ok (.loc (dd.length + 1)) (DF f dd [] b) := by
    unfold fNew DF
    simp
  unfold turnP
  simp only [sSeq, sSet, mL, mNil, R.bind_ok, R.toS_ok, h2, hn, List.set_cons_zero, List.set_cons_succ]
  have hout : ∀ (m : MS) (ρ : Rho) (t : T), ρ[3]? = some (some (.d (.lst (level.map cellD)))) → sFor (gN 5) (m1 fIter (mVar 3)) m ρ t = forM (gN 5) m (level.map fun p => .d (cellD p)) ρ t := fun m ρ t h => by
    unfold sFor m1
    rw [mVar_eq h]
    simp only [R.bind_ok, R.toS_ok, cellsI]
  rw [hout _ _ _ rfl, e]
  simp only [sFz, List.getElem?_cons_zero, List.getElem?_cons_succ, fzDF, List.set_cons_zero, List.set_cons_succ, sSet, mVar, R.toS_ok]
theorem whileP {rows : List Str} {w : Nat} {x1 : Option Val} {cells : List Pt} {c : Pt} {b : Box} (hr : RowsOk rows w) (hcl : cells.length ≤ 200) (hadj : ∀ d ∈ cells, ∀ c ∈ adjP rows w d, c ∈ cells) : ∀ (k n : Nat) (f : List (Pt × Int)) (level : List Pt) (dd : List Cell) (o4 o5 o6 : Option Val), Lv (adjP rows w) c cells n f level → cells.length < n + k →
    ∃ f' dd' o3' o4' o5' o6', whileM condP turnP k [some (.d (islD rows)), x1, some (.loc 0), some (.d (.lst (level.map cellD))), o4, o5, o6] ⟨.dT (encF f) :: dd, b⟩ = .nx [some (.d (islD rows)), x1, some (.loc 0), o3', o4', o5', o6'] ⟨.dT (encF f') :: dd', b⟩ ∧ Dists (adjP rows w) c f' ∧ (f'.map (·.1)).Nodup ∧ ∀ d ∈ f'.map (·.1), d ∈ cells
  | 0, n, f, level, dd, o4, o5, o6, h, hk => by
    have := h.few
    omega
  | k + 1, n, f, level, dd, o4, o5, o6, h, hk => by
    have h2 : ∀ t : T, fLen [] t = .ok [] t := fun _ => rfl
    have h3 : ∀ t : T, fFz [] t = .ok (.d (.lst [])) t := fun _ => rfl
    have hc : ∀ t : T, condP [some (.d (islD rows)), x1, some (.loc 0), some (.d (.lst (level.map cellD))), o4, o5, o6] t = .ok (!level.isEmpty) t := fun t => by
      unfold condP
      simp only [List.map_cons, List.map_nil, List.length_cons, List.length_nil, List.replicate, List.cons_append, List.nil_append, List.append_nil, sSeq, sIf, sRet, sNil, sSet, sDrop, m2, m1, mL, mCons, mNil, mC, mVar, mIf, List.getElem?_cons_zero, List.getElem?_cons_succ, List.set_cons_zero, List.set_cons_succ, R.bind_ok, R.toS_ok, Nat.reduceAdd, Nat.reduceSub, Nat.zero_add, En.eq_cell, En.asB_ok, En.eq_int, En.lt_ok, En.le_ok, En.sub_ok, En.add_ok, En.abs_ok, En.cell_0, En.cell_1, decide_true, decide_false, Bool.false_eq_true, if_true, if_false, Bool.not_true, Bool.not_false, h2, h3, ne_cellsL]
    unfold whileM
    rw [hc]
    cases hl : level with
    | nil =>
      subst hl
      exact ⟨f, dd, _, _, _, _, rfl, h.done, h.nodup, h.sub⟩
    | cons d0 ds =>
      rw [← hl]
      have hne : level ≠ [] := by rw [hl]; simp
      have hlc := h.level_cells
      have hlv : ∀ d ∈ level, lookK f d = some (n : Int) := fun d hd => h.has d n ((h.lev d).mp hd) (Nat.le_refl _)
      obtain ⟨o4', o5', o6', e⟩ := turnP_eq (x1 := x1) (o4 := o4) (o5 := o5) (o6 := o6) (dd := dd) (b := b) hr hcl h.nodup h.sub level hlv fun d hd => hadj d (hlc d hd)
      have hemp : level.isEmpty = false := by rw [hl]; rfl
      simp only [hemp, Bool.not_false, R.toS_ok, if_true]
      rw [e]
      simp only [turnS]
      exact whileP hr hcl hadj k (n + 1) _ _ _ _ _ _ (h.next hne hadj hlc) (by omega)
end K91
set_option Elab.async false
set_option linter.all false
set_option maxRecDepth 100000
set_option maxHeartbeats 2000000
namespace K91
open PySem PySem.Spec PyProof.Rows L2 En
def encFD (f : List (Pt × Int)) : List (NestedKey × D) := f.map fun p => (kC p.1, D.int p.2)
theorem encF_datas (f : List (Pt × Int)) : datas ((encF f).map (·.2)) = some ((encFD f).map (·.2)) := by
  have : (encF f).map (·.2) = ((encFD f).map (·.2)).map Val.d := by
    unfold encF encFD
    simp [List.map_map, Function.comp_def]
  rw [this, datas_map]
theorem encF_zip (f : List (Pt × Int)) : ((encF f).map (·.1)).zip ((encFD f).map (·.2)) = encFD f := by
  have : (encF f).map (·.1) = (encFD f).map (·.1) := by
    unfold encF encFD
    simp [List.map_map, Function.comp_def]
  rw [this]
  generalize encFD f = g
  induction g with
  | nil => rfl
  | cons p g ih => rw [List.map_cons, List.map_cons, List.zip_cons_cons, ih]
theorem distances_eq {rows : List Str} {w : Nat} {cells : List Pt} (hr : RowsOk rows w) (hcl : cells.length ≤ 199) (hadj : ∀ d ∈ cells, ∀ c ∈ adjP rows w d, c ∈ cells) {c : Pt} (hc : c ∈ cells) (b : Box) :
    ∃ f st, f_distances [.d (islD rows), .d (cellD c)] b = .ok (.d (.dT (encFD f))) ⟨st, b⟩ ∧ Dists (adjP rows w) c f ∧ (f.map (·.1)).Nodup ∧ ∀ d ∈ f.map (·.1), d ∈ cells := by
  obtain ⟨f', dd', o3', o4', o5', o6', e, hd⟩ := whileP (x1 := some (.d (cellD c))) (b := b) hr (by omega) hadj 200 0 [(c, 0)] [c] [] none none none (Lv.start hc) (by omega)
  refine ⟨f', .dead :: dd', ?_, hd⟩
  have hdisp : mDisp1 (mVar 1) (mC (.int 0)) [some (.d (islD rows)), some (.d (cellD c)), none, none, none, none, none] ⟨[], b⟩ = .ok (.loc 0) ⟨[.dT (encF [(c, 0)])], b⟩ := by
    unfold mDisp1
    simp only [List.map_cons, List.map_nil, List.length_cons, List.length_nil, List.replicate, List.cons_append, List.nil_append, List.append_nil, sSeq, sIf, sRet, sNil, sSet, sDrop, m2, m1, mL, mCons, mNil, mC, mVar, mIf, List.getElem?_cons_zero, List.getElem?_cons_succ, List.set_cons_zero, List.set_cons_succ, R.bind_ok, R.toS_ok, Nat.reduceAdd, Nat.reduceSub, Nat.zero_add, En.eq_cell, En.asB_ok, En.eq_int, En.lt_ok, En.le_ok, En.sub_ok, En.add_ok, En.abs_ok, En.cell_0, En.cell_1, decide_true, decide_false, Bool.false_eq_true, if_true, if_false, Bool.not_true, Bool.not_false, keyT_cell]
    rfl
  have hl1 : ∀ t : T, fLen [.d (cellD c)] t = .ok [.d (cellD c)] t := fun _ => rfl
  have hfz1 : ∀ t : T, fFz [.d (cellD c)] t = .ok (.d (.lst ([c].map cellD))) t := fun _ => rfl
  unfold f_distances runF runG m_distances
  simp only [List.map_cons, List.map_nil, List.length_cons, List.length_nil, List.replicate, List.cons_append, List.nil_append, List.append_nil, Nat.reduceAdd, Nat.reduceSub, sSeq, sPar, mCons, hdisp, R.bind_ok, R.toS_ok, mL, mNil, mVar, List.getElem?_cons_zero, List.getElem?_cons_succ, hl1, hfz1, List.set_cons_zero, List.set_cons_succ] at e ⊢
  unfold condP turnP bodyP at e
  rw [e]
  simp only [sFzD, List.getElem?_cons_zero, List.getElem?_cons_succ, encF_datas, encF_zip, List.set_cons_zero, List.set_cons_succ, sRet, mVar, R.toS_ok]
end K91
set_option Elab.async false
set_option linter.all false
set_option maxRecDepth 100000
set_option maxHeartbeats 2000000
namespace K91
open PySem PySem.Spec PyProof.Rows L2 En
theorem law_next_eq (c : Pt) (k : Nat) (hk : k < 4) (b : Box) : f__law_on [.d (cellD c), .d (.int (0 + (k : Int)))] b = .ok (.d (cellD ((around c).getD k (0, 0)))) ⟨[], b⟩ := by
  have : k = 0 ∨ k = 1 ∨ k = 2 ∨ k = 3 := by omega
  rcases this with rfl | rfl | rfl | rfl <;> rfl
theorem law_land {rows : List Str} {w : Nat} (hr : RowsOk rows w) (c : Pt) (b : Box) : ∃ x : Str, f__law_sign [.d (.tup (rows.map D.str)), .d (cellD c)] b = .ok (.d (.str x)) ⟨[], b⟩ ∧ ∀ t : T, fNe (.d (.str x)) (.d (.str "~")) t = .ok (.d (.bl (landB rows w c))) t := by
  have hpos : 0 < rows.length := List.length_pos_iff.mpr hr.ne
  have hw : w ≤ lim := Nat.le_trans hr.w2 (by decide)
  obtain ⟨y, e0⟩ : ∃ y, rows[0]? = some y := ⟨rows[0], List.getElem?_eq_getElem hpos⟩
  have hy : y.length = w := hr.row y (List.mem_of_getElem? e0)
  have i1 : ∀ t : T, fLenB [.d (.tup (rows.map D.str))] t = .ok (.d (.int (rows.length : Int))) t := fun t => by rw [len_tup, List.length_map]
  have i2 : ∀ t : T, fIx (.d (.tup (rows.map D.str))) (.d (.int 0)) t = .ok (.d (.str y)) t := fun t => by
    rw [ixt_ok (by omega) (by rw [List.length_map]; omega)]
    rw [List.getD_eq_getElem?_getD, List.getElem?_map]
    show R.ok (Val.d ((Option.map D.str rows[0]?).getD .non)) t = _
    rw [e0]
    rfl
  have i3 : ∀ t : T, fLenB [.d (.str y)] t = .ok (.d (.int (w : Int))) t := fun t => by rw [len_str (by rw [hy]; exact hw), hy]
  have out : landB rows w c = false → ∀ t : T, fNe (.d (.str "~")) (.d (.str "~")) t = .ok (.d (.bl (landB rows w c))) t := fun h t => by
    rw [h, En.ne_str (by decide +kernel) (by decide +kernel)]
    simp
  by_cases h1 : 0 ≤ c.1 ∧ c.1 < (rows.length : Int)
  · by_cases h2 : 0 ≤ c.2 ∧ c.2 < (w : Int)
    · have l1 : c.1.toNat < rows.length := by omega
      obtain ⟨x, e1⟩ : ∃ x, rows[c.1.toNat]? = some x := ⟨_, List.getElem?_eq_getElem l1⟩
      have hx : x ∈ rows := List.mem_of_getElem? e1
      have hxl : x.cps.toList.length = w := hr.row x hx
      have l2 : c.2.toNat < x.cps.toList.length := by omega
      obtain ⟨s, e2⟩ : ∃ s, x.cps.toList[c.2.toNat]? = some s := ⟨_, List.getElem?_eq_getElem l2⟩
      have hs : signAt rows c.1.toNat c.2.toNat = s := by
        have e3 : rows.getD c.1.toNat ⟨#[]⟩ = x := by rw [List.getD_eq_getElem?_getD, e1]; rfl
        unfold signAt
        rw [e3, List.getD_eq_getElem?_getD, e2]
        rfl
      have i4 : ∀ t : T, fIx (.d (.tup (rows.map D.str))) (.d (.int c.1)) t = .ok (.d (.str x)) t := fun t => by
        rw [ixt_ok h1.1 (by rw [List.length_map]; omega)]
        rw [List.getD_eq_getElem?_getD, List.getElem?_map, e1]
        rfl
      have i5 : ∀ t : T, fIx (.d (.str x)) (.d (.int c.2)) t = .ok (.d (.str ⟨#[s]⟩)) t := fun t => by
        rw [ixs_ok (by have : x.length = w := hr.row x hx; rw [this]; exact hw) h2.1 (by omega)]
        rw [List.getD_eq_getElem?_getD, e2]
        rfl
      refine ⟨⟨#[s]⟩, ?_, fun t => ?_⟩
      · unfold f__law_sign runF runG m__law_sign mOr mNot
        simp only [List.map_cons, List.map_nil, List.length_cons, List.length_nil, List.replicate, List.cons_append, List.nil_append, List.append_nil, sSeq, sIf, sRet, sNil, sSet, sDrop, m2, m1, mL, mCons, mNil, mC, mVar, mIf, List.getElem?_cons_zero, List.getElem?_cons_succ, List.set_cons_zero, List.set_cons_succ, R.bind_ok, R.toS_ok, Nat.reduceAdd, Nat.reduceSub, Nat.zero_add, En.eq_cell, En.asB_ok, En.eq_int, En.lt_ok, En.le_ok, En.sub_ok, En.add_ok, En.abs_ok, En.cell_0, En.cell_1, decide_true, decide_false, Bool.false_eq_true, if_true, if_false, Bool.not_true, Bool.not_false, i1, i2, i3, i4, i5, m3c, h1.1, h1.2, h2.1, h2.2]
      · rw [sign_ne (hr.sign x hx s (List.mem_of_getElem? e2))]
        have hl : landB rows w c = !(s == 126) := by
          unfold landB inB'
          rw [hs, decide_eq_true h1.1, decide_eq_true h1.2, decide_eq_true h2.1, decide_eq_true h2.2]
          rfl
        rw [hl]
    · have hl : landB rows w c = false := by
        unfold landB inB'
        rcases Classical.not_and_iff_not_or_not.mp h2 with h | h
        · rw [decide_eq_false h]; simp
        · rw [decide_eq_false h]; simp
      refine ⟨"~", ?_, out hl⟩
      unfold f__law_sign runF runG m__law_sign mOr mNot
      by_cases h3 : 0 ≤ c.2
      · have h4 : ¬ c.2 < (w : Int) := fun z => h2 ⟨h3, z⟩
        simp only [List.map_cons, List.map_nil, List.length_cons, List.length_nil, List.replicate, List.cons_append, List.nil_append, List.append_nil, sSeq, sIf, sRet, sNil, sSet, sDrop, m2, m1, mL, mCons, mNil, mC, mVar, mIf, List.getElem?_cons_zero, List.getElem?_cons_succ, List.set_cons_zero, List.set_cons_succ, R.bind_ok, R.toS_ok, Nat.reduceAdd, Nat.reduceSub, Nat.zero_add, En.eq_cell, En.asB_ok, En.eq_int, En.lt_ok, En.le_ok, En.sub_ok, En.add_ok, En.abs_ok, En.cell_0, En.cell_1, decide_true, decide_false, Bool.false_eq_true, if_true, if_false, Bool.not_true, Bool.not_false, i1, i2, i3, m3c, h1.1, h1.2, h3, h4]
      · simp only [List.map_cons, List.map_nil, List.length_cons, List.length_nil, List.replicate, List.cons_append, List.nil_append, List.append_nil, sSeq, sIf, sRet, sNil, sSet, sDrop, m2, m1, mL, mCons, mNil, mC, mVar, mIf, List.getElem?_cons_zero, List.getElem?_cons_succ, List.set_cons_zero, List.set_cons_succ, R.bind_ok, R.toS_ok, Nat.reduceAdd, Nat.reduceSub, Nat.zero_add, En.eq_cell, En.asB_ok, En.eq_int, En.lt_ok, En.le_ok, En.sub_ok, En.add_ok, En.abs_ok, En.cell_0, En.cell_1, decide_true, decide_false, Bool.false_eq_true, if_true, if_false, Bool.not_true, Bool.not_false, i1, i2, i3, m3c, h1.1, h1.2, h3]
  · have hl : landB rows w c = false := by
      unfold landB inB'
      rcases Classical.not_and_iff_not_or_not.mp h1 with h | h
      · rw [decide_eq_false h]; simp
      · rw [decide_eq_false h]; simp
    refine ⟨"~", ?_, out hl⟩
    unfold f__law_sign runF runG m__law_sign mOr mNot
    by_cases h3 : 0 ≤ c.1
    · have h4 : ¬ c.1 < (rows.length : Int) := fun z => h1 ⟨h3, z⟩
      simp only [List.map_cons, List.map_nil, List.length_cons, List.length_nil, List.replicate, List.cons_append, List.nil_append, List.append_nil, sSeq, sIf, sRet, sNil, sSet, sDrop, m2, m1, mL, mCons, mNil, mC, mVar, mIf, List.getElem?_cons_zero, List.getElem?_cons_succ, List.set_cons_zero, List.set_cons_succ, R.bind_ok, R.toS_ok, Nat.reduceAdd, Nat.reduceSub, Nat.zero_add, En.eq_cell, En.asB_ok, En.eq_int, En.lt_ok, En.le_ok, En.sub_ok, En.add_ok, En.abs_ok, En.cell_0, En.cell_1, decide_true, decide_false, Bool.false_eq_true, if_true, if_false, Bool.not_true, Bool.not_false, i1, i2, i3, m3c, h3, h4]
    · simp only [List.map_cons, List.map_nil, List.length_cons, List.length_nil, List.replicate, List.cons_append, List.nil_append, List.append_nil, sSeq, sIf, sRet, sNil, sSet, sDrop, m2, m1, mL, mCons, mNil, mC, mVar, mIf, List.getElem?_cons_zero, List.getElem?_cons_succ, List.set_cons_zero, List.set_cons_succ, R.bind_ok, R.toS_ok, Nat.reduceAdd, Nat.reduceSub, Nat.zero_add, En.eq_cell, En.asB_ok, En.eq_int, En.lt_ok, En.le_ok, En.sub_ok, En.add_ok, En.abs_ok, En.cell_0, En.cell_1, decide_true, decide_false, Bool.false_eq_true, if_true, if_false, Bool.not_true, Bool.not_false, i1, i2, i3, m3c, h3]
def bodyL : MS := (sSeq (sSet 7 (mL (fCall f__law_on) (mCons (mVar 5) (mCons (mVar 6) mNil))))
        (sIf (mAnd (m1 asB (m2 fNe (mL (fCall f__law_sign) (mCons (mVar 0) (mCons (mVar 7) mNil))) (mC (.str "~")))) (m1 asB (m2 fDNotIn (mVar 7) (mVar 2))))
         (sSeq (En.sDPut (mVar 2) (mVar 7) (m2 fAdd (m2 fDGet (mVar 2) (mVar 5)) (mC (.int 1))))
          (sDrop (mMeth isLstB fAppend (mVar 4) (mCons (mVar 7) mNil))))
         sNil))
theorem bodyL_eq {rows : List Str} {w : Nat} (hr : RowsOk rows w) {x1 x3 o7 : Option Val} {f : List (Pt × Int)} {dd : List Cell} {l : List Pt} {b : Box} {here : Pt} {n : Nat} {k : Nat} (hk : k < 4) (hh : lookK f here = some (n : Int)) (hf : f.length < 1000) (hl : l.length < 1000) :
    bodyL [some (.d (.tup (rows.map D.str))), x1, some (.loc 0), x3, some (.loc (dd.length + 1)), some (.d (cellD here)), some (.d (.int (0 + (k : Int)))), o7] (DF f dd l b) = .nx [some (.d (.tup (rows.map D.str))), x1, some (.loc 0), x3, some (.loc (dd.length + 1)), some (.d (cellD here)), some (.d (.int (0 + (k : Int)))), some (.d (cellD ((around here).getD k (0, 0))))] (DF (if landB rows w ((around here).getD k (0, 0)) then stepO n (f, l) ((around here).getD k (0, 0)) else (f, l)).1 dd (if landB rows w ((around here).getD k (0, 0)) then stepO n (f, l) ((around here).getD k (0, 0)) else (f, l)).2 b) := by
  have hnx : ∀ t : T, fCall f__law_on [.d (cellD here), .d (.int (0 + (k : Int)))] t = .ok (.d (cellD ((around here).getD k (0, 0)))) t := fun t => call_eq rfl (law_next_eq here k hk t.b)
  generalize (around here).getD k (0, 0) = o at hnx ⊢
  obtain ⟨x, ex, en⟩ := law_land hr o (DF f dd l b).b
  have hsg : fCall f__law_sign [.d (.tup (rows.map D.str)), .d (cellD o)] (DF f dd l b) = .ok (.d (.str x)) (DF f dd l b) := call_eq rfl ex
  unfold bodyL
  cases hlb : landB rows w o with
  | false =>
    rw [hlb] at en
    simp only [List.map_cons, List.map_nil, List.length_cons, List.length_nil, List.replicate, List.cons_append, List.nil_append, List.append_nil, sSeq, sIf, sRet, sNil, sSet, sDrop, m2, m1, mL, mCons, mNil, mC, mVar, mIf, List.getElem?_cons_zero, List.getElem?_cons_succ, List.set_cons_zero, List.set_cons_succ, R.bind_ok, R.toS_ok, Nat.reduceAdd, Nat.reduceSub, Nat.zero_add, En.eq_cell, En.asB_ok, En.eq_int, En.lt_ok, En.le_ok, En.sub_ok, En.add_ok, En.abs_ok, En.cell_0, En.cell_1, decide_true, decide_false, Bool.false_eq_true, if_true, if_false, Bool.not_true, Bool.not_false, hnx, mAnd, hsg, en]
  | true =>
    rw [hlb] at en
    by_cases ho : (lookK f o).isSome = true
    · have e1 : stepO n (f, l) o = (f, l) := if_pos ho
      rw [e1, if_pos rfl]
      simp only [List.map_cons, List.map_nil, List.length_cons, List.length_nil, List.replicate, List.cons_append, List.nil_append, List.append_nil, sSeq, sIf, sRet, sNil, sSet, sDrop, m2, m1, mL, mCons, mNil, mC, mVar, mIf, List.getElem?_cons_zero, List.getElem?_cons_succ, List.set_cons_zero, List.set_cons_succ, R.bind_ok, R.toS_ok, Nat.reduceAdd, Nat.reduceSub, Nat.zero_add, En.eq_cell, En.asB_ok, En.eq_int, En.lt_ok, En.le_ok, En.sub_ok, En.add_ok, En.abs_ok, En.cell_0, En.cell_1, decide_true, decide_false, Bool.false_eq_true, if_true, if_false, Bool.not_true, Bool.not_false, hnx, mAnd, hsg, en, notInDF, ho]
    · have ho' : (lookK f o).isSome = false := by simpa using ho
      have e1 : stepO n (f, l) o = (putKV f o ((n : Int) + 1), l ++ [o]) := if_neg ho
      rw [if_pos rfl, e1]
      have hp := putDF (ρ := [some (.d (.tup (rows.map D.str))), x1, some (.loc 0), x3, some (.loc (dd.length + 1)), some (.d (cellD here)), some (.d (.int (0 + (k : Int)))), some (.d (cellD o))]) (e := m2 fAdd (m2 fDGet (mVar 2) (mVar 5)) (mC (.int 1))) (i := 2) (j := 7) (o := o) (v := (n : Int) + 1) (f := f) (dd := dd) (l := l) (b := b) rfl rfl (by simp only [List.map_cons, List.map_nil, List.length_cons, List.length_nil, List.replicate, List.cons_append, List.nil_append, List.append_nil, sSeq, sIf, sRet, sNil, sSet, sDrop, m2, m1, mL, mCons, mNil, mC, mVar, mIf, List.getElem?_cons_zero, List.getElem?_cons_succ, List.set_cons_zero, List.set_cons_succ, R.bind_ok, R.toS_ok, Nat.reduceAdd, Nat.reduceSub, Nat.zero_add, En.eq_cell, En.asB_ok, En.eq_int, En.lt_ok, En.le_ok, En.sub_ok, En.add_ok, En.abs_ok, En.cell_0, En.cell_1, decide_true, decide_false, Bool.false_eq_true, if_true, if_false, Bool.not_true, Bool.not_false, lookDF hh]) hf
      simp only [sSet, sIf, mAnd, m1, m2, mL, mCons, mNil, mC, mVar, List.getElem?_cons_zero, List.getElem?_cons_succ, List.set_cons_zero, List.set_cons_succ, R.bind_ok, R.toS_ok, hnx, notInDF, ho', hsg, en, asB_ok, Bool.not_false, if_true, sSeq] at hp ⊢
      rw [hp]
      simp only [sDrop, mMeth, mVar, mCons, mNil, List.getElem?_cons_zero, List.getElem?_cons_succ, R.bind_ok, R.toS_ok, islDF, if_true, appDF hl]
end K91
set_option Elab.async false
set_option linter.all false
set_option maxRecDepth 100000
set_option maxHeartbeats 2000000
namespace K91
open PySem PySem.Spec PyProof.Rows L2 En
def adjL (rows : List Str) (w : Nat) (c : Pt) : List Pt := (around c).filter (landB rows w)
theorem adj_same {rows : List Str} {w : Nat} (c d : Pt) : c ∈ adjP rows w d ↔ c ∈ adjL rows w d := by
  unfold adjP adjL
  exact sortC_mem
section
variable {rows : List Str} {w : Nat} {x1 x3 : Option Val} {n : Nat} {f : List (Pt × Int)} {cells : List Pt} {dd : List Cell} {b : Box}
theorem innerL (hr : RowsOk rows w) (hcl : cells.length ≤ 200) (hk : (f.map (·.1)).Nodup) (hs : ∀ c ∈ f.map (·.1), c ∈ cells) {here : Pt} (hh : lookK f here = some (n : Int)) (zs : List Pt) (hz : ∀ c ∈ zs, c ∈ cells) (hx : ∀ c ∈ adjL rows w here, c ∈ cells) (o6 o7 : Option Val) :
    ∃ o6' o7', forM (gN 6) bodyL (intsV 0 4) [some (.d (.tup (rows.map D.str))), x1, some (.loc 0), x3, some (.loc (dd.length + 1)), some (.d (cellD here)), o6, o7] (DF (Sf n f zs).1 dd (Sf n f zs).2 b) = .nx [some (.d (.tup (rows.map D.str))), x1, some (.loc 0), x3, some (.loc (dd.length + 1)), some (.d (cellD here)), o6', o7'] (DF (Sf n f (zs ++ adjL rows w here)).1 dd (Sf n f (zs ++ adjL rows w here)).2 b) := by
  obtain ⟨ρ', t', e, o6', o7', rfl, rfl⟩ := forM_pre (f := gN 6) (b := bodyL) (fun (i : Nat) => Val.d (.int (0 + (i : Int)))) (fun pre ρ t => ∃ o6 o7, ρ = [some (.d (.tup (rows.map D.str))), x1, some (.loc 0), x3, some (.loc (dd.length + 1)), some (.d (cellD here)), o6, o7] ∧ t = DF (Sf n f (zs ++ (pre.map fun k => (around here).getD k (0, 0)).filter (landB rows w))).1 dd (Sf n f (zs ++ (pre.map fun k => (around here).getD k (0, 0)).filter (landB rows w))).2 b) (List.range 4) (by
    rintro k pre post ρ t epr ⟨o6, o7, rfl, rfl⟩
    have hk4 : k < 4 := List.mem_range.mp (by rw [epr]; simp)
    have hpz : ∀ c ∈ zs ++ (pre.map fun k => (around here).getD k (0, 0)).filter (landB rows w), c ∈ cells := fun c hc => by
      rcases List.mem_append.mp hc with h | h
      · exact hz c h
      · obtain ⟨h1, h2⟩ := List.mem_filter.mp h
        obtain ⟨j, hj, rfl⟩ := List.mem_map.mp h1
        have hj4 : j < 4 := List.mem_range.mp (by rw [epr]; exact List.mem_append_left _ hj)
        refine hx _ (List.mem_filter.mpr ⟨?_, h2⟩)
        have : j = 0 ∨ j = 1 ∨ j = 2 ∨ j = 3 := by omega
        rcases this with rfl | rfl | rfl | rfl <;> simp [around]
    obtain ⟨b1, b2⟩ := Sf_bound (n := n) hk hs hpz
    refine ⟨_, _, _, rfl, bodyL_eq (n := n) hr hk4 (Sf_look hh) (by omega) (by omega), some (.d (.int (0 + (k : Int)))), some (.d (cellD ((around here).getD k (0, 0)))), rfl, ?_⟩
    rw [List.map_append, List.filter_append]
    show DF _ _ _ _ = DF (Sf n f (zs ++ (_ ++ List.filter (landB rows w) [(around here).getD k (0, 0)]))).1 dd (Sf n f (zs ++ (_ ++ List.filter (landB rows w) [(around here).getD k (0, 0)]))).2 b
    cases hlb : landB rows w ((around here).getD k (0, 0)) with
    | false =>
      rw [List.filter_cons_of_neg (by rw [hlb]; decide), List.filter_nil, List.append_nil]
      rfl
    | true =>
      rw [List.filter_cons_of_pos hlb, List.filter_nil, ← List.append_assoc, Sf_snoc]
      rfl) (List.range 4) [] [some (.d (.tup (rows.map D.str))), x1, some (.loc 0), x3, some (.loc (dd.length + 1)), some (.d (cellD here)), o6, o7] (DF (Sf n f zs).1 dd (Sf n f zs).2 b) rfl ⟨o6, o7, rfl, by rw [List.map_nil, List.filter_nil, List.append_nil]⟩
  exact ⟨o6', o7', e⟩
theorem outerL (hr : RowsOk rows w) (hcl : cells.length ≤ 200) (hk : (f.map (·.1)).Nodup) (hs : ∀ c ∈ f.map (·.1), c ∈ cells) (level : List Pt) (hlv : ∀ d ∈ level, lookK f d = some (n : Int)) (hadj : ∀ d ∈ level, ∀ c ∈ adjL rows w d, c ∈ cells) (o5 o6 o7 : Option Val) :
    ∃ o5' o6' o7', forM (gN 5) (sFor (gN 6) (mL fRange1 (mCons (mC (.int 4)) mNil)) bodyL) (level.map fun p => .d (cellD p)) [some (.d (.tup (rows.map D.str))), x1, some (.loc 0), x3, some (.loc (dd.length + 1)), o5, o6, o7] (DF f dd [] b) = .nx [some (.d (.tup (rows.map D.str))), x1, some (.loc 0), x3, some (.loc (dd.length + 1)), o5', o6', o7'] (DF (Sf n f (level.flatMap (adjL rows w))).1 dd (Sf n f (level.flatMap (adjL rows w))).2 b) := by
  obtain ⟨ρ', t', e, o5', o6', o7', rfl, rfl⟩ := forM_pre (f := gN 5) (b := sFor (gN 6) (mL fRange1 (mCons (mC (.int 4)) mNil)) bodyL) (fun p => .d (cellD p)) (fun pre ρ t => ∃ o5 o6 o7, ρ = [some (.d (.tup (rows.map D.str))), x1, some (.loc 0), x3, some (.loc (dd.length + 1)), o5, o6, o7] ∧ t = DF (Sf n f (pre.flatMap (adjL rows w))).1 dd (Sf n f (pre.flatMap (adjL rows w))).2 b) level (by
    rintro d pre post ρ t epr ⟨o5, o6, o7, rfl, rfl⟩
    have hd : d ∈ level := by rw [epr]; simp
    have hpre : ∀ c ∈ pre.flatMap (adjL rows w), c ∈ cells := fun c hc => by
      obtain ⟨e, he, hc⟩ := List.mem_flatMap.mp hc
      exact hadj e (by rw [epr]; exact List.mem_append_left _ he) c hc
    obtain ⟨o6', o7', ei⟩ := innerL (x1 := x1) (x3 := x3) (n := n) (dd := dd) (b := b) hr hcl hk hs (hlv d hd) (pre.flatMap (adjL rows w)) hpre (hadj d hd) o6 o7
    have hrg : ∀ t : T, fRange1 [.d (.int 4)] t = .ok (intsV 0 4) t := fun t => rfl
    refine ⟨_, _, DF (Sf n f (pre.flatMap (adjL rows w) ++ adjL rows w d)).1 dd (Sf n f (pre.flatMap (adjL rows w) ++ adjL rows w d)).2 b, rfl, ?_, some (.d (cellD d)), o6', o7', rfl, ?_⟩
    · unfold sFor
      simp only [mL, mCons, mNil, mC, List.set_cons_zero, List.set_cons_succ, gN, R.bind_ok, R.toS_ok, hrg]
      exact ei
    · rw [List.flatMap_append]
      simp) level [] [some (.d (.tup (rows.map D.str))), x1, some (.loc 0), x3, some (.loc (dd.length + 1)), o5, o6, o7] (DF f dd [] b) rfl ⟨o5, o6, o7, rfl, rfl⟩
  exact ⟨o5', o6', o7', e⟩
end
end K91
set_option Elab.async false
set_option linter.all false
set_option maxRecDepth 100000
set_option maxHeartbeats 2000000
namespace K91
open PySem PySem.Spec PyProof.Rows L2 En
def turnL : MS := (sSeq (sSet 4 (mL fNew (mL fLen mNil)))
     (sSeq (sFor (gN 5) (m1 fIter (mVar 3))
      (sFor (gN 6) (mL fRange1 (mCons (mC (.int 4)) mNil)) bodyL))
      (sFz 4 (sSet 3 (mVar 4)))))
theorem turnL_eq {rows : List Str} {w : Nat} {x1 o4 o5 o6 o7 : Option Val} {n : Nat} {f : List (Pt × Int)} {cells : List Pt} {dd : List Cell} {b : Box} (hr : RowsOk rows w) (hcl : cells.length ≤ 200) (hk : (f.map (·.1)).Nodup) (hs : ∀ c ∈ f.map (·.1), c ∈ cells) (level : List Pt) (hlv : ∀ d ∈ level, lookK f d = some (n : Int)) (hadj : ∀ d ∈ level, ∀ c ∈ adjL rows w d, c ∈ cells) :
    ∃ o4' o5' o6' o7', turnL [some (.d (.tup (rows.map D.str))), x1, some (.loc 0), some (.d (.lst (level.map cellD))), o4, o5, o6, o7] ⟨.dT (encF f) :: dd, b⟩ = .nx [some (.d (.tup (rows.map D.str))), x1, some (.loc 0), some (.d (.lst ((Sf n f (level.flatMap (adjL rows w))).2.map cellD))), o4', o5', o6', o7'] ⟨.dT (encF (Sf n f (level.flatMap (adjL rows w))).1) :: (dd ++ [.dead]), b⟩ := by
  obtain ⟨o5', o6', o7', e⟩ := outerL (x1 := x1) (x3 := some (.d (.lst (level.map cellD)))) (dd := dd) (b := b) hr hcl hk hs level hlv hadj o5 o6 o7
  refine ⟨some (.d (.lst ((Sf n f (level.flatMap (adjL rows w))).2.map cellD))), o5', o6', o7', ?_⟩
  have h2 : ∀ t : T, fLen [] t = .ok [] t := fun _ => rfl
  have hn : fNew [] (⟨.dT (encF f) :: dd, b⟩ : T) = .ok (.loc (dd.length + 1)) (DF f dd [] b) := by
    unfold fNew DF
    simp
  unfold turnL
  simp only [sSeq, sSet, mL, mNil, R.bind_ok, R.toS_ok, h2, hn, List.set_cons_zero, List.set_cons_succ]
  have hout : ∀ (m : MS) (ρ : Rho) (t : T), ρ[3]? = some (some (.d (.lst (level.map cellD)))) → sFor (gN 5) (m1 fIter (mVar 3)) m ρ t = forM (gN 5) m (level.map fun p => .d (cellD p)) ρ t := fun m ρ t h => by
    unfold sFor m1
    rw [mVar_eq h]
    simp only [R.bind_ok, R.toS_ok, cellsI]
  rw [hout _ _ _ rfl, e]
  simp only [sFz, List.getElem?_cons_zero, List.getElem?_cons_succ, fzDF, List.set_cons_zero, List.set_cons_succ, sSet, mVar, R.toS_ok]
theorem whileL {rows : List Str} {w : Nat} {x1 : Option Val} {cells : List Pt} {c : Pt} {b : Box} (hr : RowsOk rows w) (hcl : cells.length ≤ 200) (hadj : ∀ d ∈ cells, ∀ c ∈ adjL rows w d, c ∈ cells) : ∀ (k n : Nat) (f : List (Pt × Int)) (level : List Pt) (dd : List Cell) (o4 o5 o6 o7 : Option Val), Lv (adjL rows w) c cells n f level → cells.length < n + k →
    ∃ f' dd' o3' o4' o5' o6' o7', whileM condP turnL k [some (.d (.tup (rows.map D.str))), x1, some (.loc 0), some (.d (.lst (level.map cellD))), o4, o5, o6, o7] ⟨.dT (encF f) :: dd, b⟩ = .nx [some (.d (.tup (rows.map D.str))), x1, some (.loc 0), o3', o4', o5', o6', o7'] ⟨.dT (encF f') :: dd', b⟩ ∧ Dists (adjL rows w) c f' ∧ (f'.map (·.1)).Nodup ∧ ∀ d ∈ f'.map (·.1), d ∈ cells
  | 0, n, f, level, dd, o4, o5, o6, o7, h, hk => by
    have := h.few
    omega
  | k + 1, n, f, level, dd, o4, o5, o6, o7, h, hk => by
    have h2 : ∀ t : T, fLen [] t = .ok [] t := fun _ => rfl
    have h3 : ∀ t : T, fFz [] t = .ok (.d (.lst [])) t := fun _ => rfl
    have hc : ∀ t : T, condP [some (.d (.tup (rows.map D.str))), x1, some (.loc 0), some (.d (.lst (level.map cellD))), o4, o5, o6, o7] t = .ok (!level.isEmpty) t := fun t => by
      unfold condP
      simp only [List.map_cons, List.map_nil, List.length_cons, List.length_nil, List.replicate, List.cons_append, List.nil_append, List.append_nil, sSeq, sIf, sRet, sNil, sSet, sDrop, m2, m1, mL, mCons, mNil, mC, mVar, mIf, List.getElem?_cons_zero, List.getElem?_cons_succ, List.set_cons_zero, List.set_cons_succ, R.bind_ok, R.toS_ok, Nat.reduceAdd, Nat.reduceSub, Nat.zero_add, En.eq_cell, En.asB_ok, En.eq_int, En.lt_ok, En.le_ok, En.sub_ok, En.add_ok, En.abs_ok, En.cell_0, En.cell_1, decide_true, decide_false, Bool.false_eq_true, if_true, if_false, Bool.not_true, Bool.not_false, h2, h3, ne_cellsL]
    unfold whileM
    rw [hc]
    cases hl : level with
    | nil =>
      subst hl
      exact ⟨f, dd, _, _, _, _, _, rfl, h.done, h.nodup, h.sub⟩
    | cons d0 ds =>
      rw [← hl]
      have hne : level ≠ [] := by rw [hl]; simp
      have hlc := h.level_cells
      have hlv : ∀ d ∈ level, lookK f d = some (n : Int) := fun d hd => h.has d n ((h.lev d).mp hd) (Nat.le_refl _)
      obtain ⟨o4', o5', o6', o7', e⟩ := turnL_eq (x1 := x1) (o4 := o4) (o5 := o5) (o6 := o6) (o7 := o7) (dd := dd) (b := b) hr hcl h.nodup h.sub level hlv fun d hd => hadj d (hlc d hd)
      have hemp : level.isEmpty = false := by rw [hl]; rfl
      simp only [hemp, Bool.not_false, R.toS_ok, if_true]
      rw [e]
      simp only [turnS]
      exact whileL hr hcl hadj k (n + 1) _ _ _ _ _ _ _ (h.next hne hadj hlc) (by omega)
theorem law_far_eq {rows : List Str} {w : Nat} {cells : List Pt} (hr : RowsOk rows w) (hcl : cells.length ≤ 199) (hadj : ∀ d ∈ cells, ∀ c ∈ adjL rows w d, c ∈ cells) {c : Pt} (hc : c ∈ cells) (b : Box) :
    ∃ f st, f__law_far [.d (.tup (rows.map D.str)), .d (cellD c)] b = .ok (.d (.dT (encFD f))) ⟨st, b⟩ ∧ Dists (adjL rows w) c f ∧ (f.map (·.1)).Nodup ∧ ∀ d ∈ f.map (·.1), d ∈ cells := by
  obtain ⟨f', dd', o3', o4', o5', o6', o7', e, hd⟩ := whileL (x1 := some (.d (cellD c))) (b := b) hr (by omega) hadj 200 0 [(c, 0)] [c] [] none none none none (Lv.start hc) (by omega)
  refine ⟨f', .dead :: dd', ?_, hd⟩
  have hdisp : mDisp1 (mVar 1) (mC (.int 0)) [some (.d (.tup (rows.map D.str))), some (.d (cellD c)), none, none, none, none, none, none] ⟨[], b⟩ = .ok (.loc 0) ⟨[.dT (encF [(c, 0)])], b⟩ := by
    unfold mDisp1
    simp only [List.map_cons, List.map_nil, List.length_cons, List.length_nil, List.replicate, List.cons_append, List.nil_append, List.append_nil, sSeq, sIf, sRet, sNil, sSet, sDrop, m2, m1, mL, mCons, mNil, mC, mVar, mIf, List.getElem?_cons_zero, List.getElem?_cons_succ, List.set_cons_zero, List.set_cons_succ, R.bind_ok, R.toS_ok, Nat.reduceAdd, Nat.reduceSub, Nat.zero_add, En.eq_cell, En.asB_ok, En.eq_int, En.lt_ok, En.le_ok, En.sub_ok, En.add_ok, En.abs_ok, En.cell_0, En.cell_1, decide_true, decide_false, Bool.false_eq_true, if_true, if_false, Bool.not_true, Bool.not_false, keyT_cell]
    rfl
  have hl1 : ∀ t : T, fLen [.d (cellD c)] t = .ok [.d (cellD c)] t := fun _ => rfl
  have hfz1 : ∀ t : T, fFz [.d (cellD c)] t = .ok (.d (.lst ([c].map cellD))) t := fun _ => rfl
  unfold f__law_far runF runG m__law_far
  simp only [List.map_cons, List.map_nil, List.length_cons, List.length_nil, List.replicate, List.cons_append, List.nil_append, List.append_nil, Nat.reduceAdd, Nat.reduceSub, sSeq, sPar, mCons, hdisp, R.bind_ok, R.toS_ok, mL, mNil, mVar, List.getElem?_cons_zero, List.getElem?_cons_succ, hl1, hfz1, List.set_cons_zero, List.set_cons_succ] at e ⊢
  unfold condP turnL bodyL at e
  rw [e]
  simp only [sFzD, List.getElem?_cons_zero, List.getElem?_cons_succ, encF_datas, encF_zip, List.set_cons_zero, List.set_cons_succ, sRet, mVar, R.toS_ok]
end K91
set_option Elab.async false
set_option linter.all false
set_option maxRecDepth 100000
set_option maxHeartbeats 2000000
namespace K91
open PySem PySem.Spec PyProof.Rows L2 En
theorem isi_d (ss : List String) (d : D) (s : String) (t : T) (h : tyS (.d d) t = some s) : fIsi ss (.d d) t = .ok (.d (.bl (kitAnyT s ss))) t := by
  unfold fIsi
  rw [h]
  rfl
theorem is_non (d : D) (t : T) : fIsN (.d d) (.d .non) t = .ok (.d (.bl (match d with | .non => true | _ => false))) t := by
  cases d <;> rfl
theorem eq_bl (i j : Bool) (t : T) : fEq (.d (.bl i)) (.d (.bl j)) t = .ok (.d (.bl (i == j))) t := by
  rw [eq_of_val (val_bl i t) (val_bl j t)]
  simp only [PyData.eqv]
theorem ne_bl (i j : Bool) (t : T) : fNe (.d (.bl i)) (.d (.bl j)) t = .ok (.d (.bl (!(i == j)))) t := by
  rw [ne_of_val (val_bl i t) (val_bl j t)]
  simp only [PyData.eqv]
theorem ki : kitAnyT "int" ["dict"] = false ∧ kitAnyT "int" ["tuple", "list"] = false ∧ kitAnyT "int" ["str"] = false ∧ kitAnyT "int" ["int"] = true ∧ kitAnyT "int" ["bool"] = false := by decide
theorem ks : kitAnyT "str" ["dict"] = false ∧ kitAnyT "str" ["tuple", "list"] = false ∧ kitAnyT "str" ["str"] = true := by decide
theorem kn : kitAnyT "NoneType" ["dict"] = false ∧ kitAnyT "NoneType" ["tuple", "list"] = false ∧ kitAnyT "NoneType" ["str"] = false := by decide
theorem kt : kitAnyT "tuple" ["dict"] = false ∧ kitAnyT "tuple" ["tuple", "list"] = true ∧ kitAnyT "tuple" ["list"] = false := by decide
theorem kl : kitAnyT "list" ["dict"] = false ∧ kitAnyT "list" ["tuple", "list"] = true ∧ kitAnyT "list" ["list"] = true := by decide
theorem alike_s (n : Nat) : f__law_alike (n + 1) = runF 3 (r__law_alike (f__law_alike n)) := f__law_alike.eq_2 n
theorem alike_int (n : Nat) (i : Int) (b : Box) : f__law_alike (n + 1) [.d (.int i), .d (.int i)] b = .ok (.d (.bl true)) ⟨[], b⟩ := by
  rw [alike_s]
  unfold runF runG r__law_alike
  obtain ⟨k1, k2, k3, k4, k5⟩ := ki
  simp only [List.map_cons, List.map_nil, List.length_cons, List.length_nil, List.replicate, List.cons_append, List.nil_append, List.append_nil, sSeq, sIf, sRet, sNil, sSet, sDrop, m2, m1, mL, mCons, mNil, mC, mVar, mIf, List.getElem?_cons_zero, List.getElem?_cons_succ, List.set_cons_zero, List.set_cons_succ, R.bind_ok, R.toS_ok, Nat.reduceAdd, Nat.reduceSub, Nat.zero_add, En.eq_cell, En.asB_ok, En.eq_int, En.lt_ok, En.le_ok, En.sub_ok, En.add_ok, En.abs_ok, En.cell_0, En.cell_1, decide_true, decide_false, Bool.false_eq_true, if_true, if_false, Bool.not_true, Bool.not_false, mAndV, mOr, isi_d _ (.int i) "int" _ rfl, k1, k2, k3, k4, k5, is_non, eq_bl, beq_self_eq_true]
theorem alike_str (n : Nat) {x : Str} (hx : PyData.strOk x = true) (b : Box) : f__law_alike (n + 1) [.d (.str x), .d (.str x)] b = .ok (.d (.bl true)) ⟨[], b⟩ := by
  rw [alike_s]
  unfold runF runG r__law_alike
  obtain ⟨k1, k2, k3⟩ := ks
  simp only [List.map_cons, List.map_nil, List.length_cons, List.length_nil, List.replicate, List.cons_append, List.nil_append, List.append_nil, sSeq, sIf, sRet, sNil, sSet, sDrop, m2, m1, mL, mCons, mNil, mC, mVar, mIf, List.getElem?_cons_zero, List.getElem?_cons_succ, List.set_cons_zero, List.set_cons_succ, R.bind_ok, R.toS_ok, Nat.reduceAdd, Nat.reduceSub, Nat.zero_add, En.eq_cell, En.asB_ok, En.eq_int, En.lt_ok, En.le_ok, En.sub_ok, En.add_ok, En.abs_ok, En.cell_0, En.cell_1, decide_true, decide_false, Bool.false_eq_true, if_true, if_false, Bool.not_true, Bool.not_false, mAndV, mOr, isi_d _ (.str x) "str" _ rfl, k1, k2, k3, is_non, eq_bl, En.eq_str hx hx, beq_self_eq_true]
theorem alike_non (n : Nat) (b : Box) : f__law_alike (n + 1) [.d .non, .d .non] b = .ok (.d (.bl true)) ⟨[], b⟩ := by
  rw [alike_s]
  unfold runF runG r__law_alike
  obtain ⟨k1, k2, k3⟩ := kn
  have e : ∀ t : T, fEq (.d .non) (.d .non) t = .ok (.d (.bl true)) t := fun t => by
    rw [eq_of_val (val_non t) (val_non t)]
    simp only [PyData.eqv]
  simp only [List.map_cons, List.map_nil, List.length_cons, List.length_nil, List.replicate, List.cons_append, List.nil_append, List.append_nil, sSeq, sIf, sRet, sNil, sSet, sDrop, m2, m1, mL, mCons, mNil, mC, mVar, mIf, List.getElem?_cons_zero, List.getElem?_cons_succ, List.set_cons_zero, List.set_cons_succ, R.bind_ok, R.toS_ok, Nat.reduceAdd, Nat.reduceSub, Nat.zero_add, En.eq_cell, En.asB_ok, En.eq_int, En.lt_ok, En.le_ok, En.sub_ok, En.add_ok, En.abs_ok, En.cell_0, En.cell_1, decide_true, decide_false, Bool.false_eq_true, if_true, if_false, Bool.not_true, Bool.not_false, mAndV, mOr, isi_d _ .non "NoneType" _ rfl, k1, k2, k3, is_non, eq_bl, e, beq_self_eq_true]
theorem intsV_map (n : Nat) : intsV 0 n = (List.range n).map fun (i : Nat) => Val.d (.int (0 + (i : Int))) := rfl
theorem range_ok {n : Nat} (h : n ≤ lim) (t : T) : fRange1 [.d (.int (n : Int))] t = .ok (intsV 0 n) t := by
  have hb : big (n : Int) = true := by
    have h' : n ≤ 100000 := h
    unfold big
    exact decide_eq_true (by omega)
  unfold fRange1
  simp only [hb, if_true, Int.toNat_natCast]

theorem al_comp (n : Nat) (d0 : D) (ds : List D) (b : Box) (hl : ds.length ≤ lim) (h : ∀ d ∈ ds, ∀ b, f__law_alike n [.d d, .d d] b = .ok (.d (.bl true)) ⟨[], b⟩)
    (i1 : ∀ i : Nat, i < ds.length → ∀ t : T, fIx (.d d0) (.d (.int (0 + (i : Int)))) t = .ok (.d (ds.getD i .non)) t) :
    lcM (gN 2) (mNot (m1 asB (mL (fCall (f__law_alike n)) (mCons (m2 fIx (mVar 0) (mVar 2)) (mCons (m2 fIx (mVar 1) (mVar 2)) mNil))))) (mVar 2) [some (.d d0), some (.d d0), none] (intsV 0 ds.length) [] ⟨[], b⟩ = .ok [] ⟨[], b⟩ := by
  have f3 : ((List.range ds.length).filter fun _ => false) = [] := by simp
  have e := lcM_filter (f := gN 2) (tt := mNot (m1 asB (mL (fCall (f__law_alike n)) (mCons (m2 fIx (mVar 0) (mVar 2)) (mCons (m2 fIx (mVar 1) (mVar 2)) mNil))))) (te := mVar 2) (ρ := [some (.d d0), some (.d d0), none]) (t := ⟨[], b⟩) (fun (i : Nat) => Val.d (.int (0 + (i : Int)))) (fun _ => false) (fun _ => Val.box) (List.range ds.length) [] (fun i hi => by
    refine ⟨_, rfl, ?_, fun z => nomatch z⟩
    have hi' : i < ds.length := List.mem_range.mp hi
    have hm : ds.getD i .non ∈ ds := by
      rw [List.getD_eq_getElem?_getD, List.getElem?_eq_getElem hi']
      exact List.getElem_mem hi'
    have c1 : ∀ t : T, fCall (f__law_alike n) [.d (ds.getD i .non), .d (ds.getD i .non)] t = .ok (.d (.bl true)) t := fun t => call_eq rfl (h _ hm t.b)
    simp only [List.map_cons, List.map_nil, List.length_cons, List.length_nil, List.replicate, List.cons_append, List.nil_append, List.append_nil, sSeq, sIf, sRet, sNil, sSet, sDrop, m2, m1, mL, mCons, mNil, mC, mVar, mIf, List.getElem?_cons_zero, List.getElem?_cons_succ, List.set_cons_zero, List.set_cons_succ, R.bind_ok, R.toS_ok, Nat.reduceAdd, Nat.reduceSub, Nat.zero_add, En.eq_cell, En.asB_ok, En.eq_int, En.lt_ok, En.le_ok, En.sub_ok, En.add_ok, En.abs_ok, En.cell_0, En.cell_1, decide_true, decide_false, Bool.false_eq_true, if_true, if_false, Bool.not_true, Bool.not_false, mNot, i1 i hi', c1]) (by rw [List.length_nil, List.length_range, Nat.zero_add]; exact hl)
  rw [f3] at e
  exact e
theorem f0 (t : T) : fFz [] t = .ok (.d (.lst [])) t := rfl
theorem f1 (t : T) : fLen [] t = .ok [] t := rfl
theorem f2 (t : T) : fEq (.d (.lst [])) (.d (.lst [])) t = .ok (.d (.bl true)) t := by
  rw [eq_of_val (val_L0 t) (val_L0 t), eqv_L0]
  rfl
theorem f4 (i : Int) (t : T) : fNe (.d (.int i)) (.d (.int i)) t = .ok (.d (.bl false)) t := by rw [En.ne_int]; simp
theorem fb (i : Bool) (t : T) : fNe (.d (.bl i)) (.d (.bl i)) t = .ok (.d (.bl false)) t := by rw [ne_bl]; simp
theorem it1 (ds : List D) (t : T) : fIsi ["dict"] (.d (.tup ds)) t = .ok (.d (.bl false)) t := rfl
theorem it2 (ds : List D) (t : T) : fIsi ["tuple", "list"] (.d (.tup ds)) t = .ok (.d (.bl true)) t := rfl
theorem it3 (ds : List D) (t : T) : fIsi ["list"] (.d (.tup ds)) t = .ok (.d (.bl false)) t := rfl
theorem il1 (ds : List D) (t : T) : fIsi ["dict"] (.d (.lst ds)) t = .ok (.d (.bl false)) t := rfl
theorem il2 (ds : List D) (t : T) : fIsi ["tuple", "list"] (.d (.lst ds)) t = .ok (.d (.bl true)) t := rfl
theorem il3 (ds : List D) (t : T) : fIsi ["list"] (.d (.lst ds)) t = .ok (.d (.bl true)) t := rfl
theorem alike_tup (n : Nat) (ds : List D) (hl : ds.length ≤ lim) (h : ∀ d ∈ ds, ∀ b, f__law_alike n [.d d, .d d] b = .ok (.d (.bl true)) ⟨[], b⟩) (b : Box) : f__law_alike (n + 1) [.d (.tup ds), .d (.tup ds)] b = .ok (.d (.bl true)) ⟨[], b⟩ := by
  have hc := al_comp n (.tup ds) ds b hl h fun i hi t => by
    rw [ixt_ok (by omega) (by omega)]
    have : (0 + (i : Int)).toNat = i := by omega
    rw [this]
  have hr := range_ok hl ⟨[], b⟩
  rw [alike_s]
  unfold runF runG r__law_alike
  simp only [List.map_cons, List.map_nil, List.length_cons, List.length_nil, List.replicate, List.cons_append, List.nil_append, List.append_nil, sSeq, sIf, sRet, sNil, sSet, sDrop, m2, m1, mL, mCons, mNil, mC, mVar, mIf, List.getElem?_cons_zero, List.getElem?_cons_succ, List.set_cons_zero, List.set_cons_succ, R.bind_ok, R.toS_ok, Nat.reduceAdd, Nat.reduceSub, Nat.zero_add, En.eq_cell, En.asB_ok, En.eq_int, En.lt_ok, En.le_ok, En.sub_ok, En.add_ok, En.abs_ok, En.cell_0, En.cell_1, decide_true, decide_false, Bool.false_eq_true, if_true, if_false, Bool.not_true, Bool.not_false, mOr, mNot, it1, it2, it3, fb, len_tup, f4, mLc, wipeR, hr, hc, f0, f1, f2]
theorem alike_lst (n : Nat) (ds : List D) (hl : ds.length ≤ lim) (h : ∀ d ∈ ds, ∀ b, f__law_alike n [.d d, .d d] b = .ok (.d (.bl true)) ⟨[], b⟩) (b : Box) : f__law_alike (n + 1) [.d (.lst ds), .d (.lst ds)] b = .ok (.d (.bl true)) ⟨[], b⟩ := by
  have hc := al_comp n (.lst ds) ds b hl h fun i hi t => by
    rw [ixl_ok (by omega) (by omega)]
    have : (0 + (i : Int)).toNat = i := by omega
    rw [this]
  have hr := range_ok hl ⟨[], b⟩
  rw [alike_s]
  unfold runF runG r__law_alike
  simp only [List.map_cons, List.map_nil, List.length_cons, List.length_nil, List.replicate, List.cons_append, List.nil_append, List.append_nil, sSeq, sIf, sRet, sNil, sSet, sDrop, m2, m1, mL, mCons, mNil, mC, mVar, mIf, List.getElem?_cons_zero, List.getElem?_cons_succ, List.set_cons_zero, List.set_cons_succ, R.bind_ok, R.toS_ok, Nat.reduceAdd, Nat.reduceSub, Nat.zero_add, En.eq_cell, En.asB_ok, En.eq_int, En.lt_ok, En.le_ok, En.sub_ok, En.add_ok, En.abs_ok, En.cell_0, En.cell_1, decide_true, decide_false, Bool.false_eq_true, if_true, if_false, Bool.not_true, Bool.not_false, mOr, mNot, il1, il2, il3, fb, len_lst, f4, mLc, wipeR, hr, hc, f0, f1, f2]
theorem alike_cells (ps : List (Int × Int)) (hl : ps.length ≤ lim) (b : Box) : f__law_alike 6 [.d (.lst (ps.map cellD)), .d (.lst (ps.map cellD))] b = .ok (.d (.bl true)) ⟨[], b⟩ := by
  refine alike_lst 5 _ (by rw [List.length_map]; exact hl) (fun d hd b => ?_) b
  obtain ⟨c, _, rfl⟩ := List.mem_map.mp hd
  refine alike_tup 4 _ (by show 2 ≤ 100000; decide) (fun d hd b => ?_) b
  have : d = .int c.1 ∨ d = .int c.2 := by simpa using hd
  rcases this with rfl | rfl
  · exact alike_int 3 _ b
  · exact alike_int 3 _ b
end K91
set_option Elab.async false
set_option linter.all false
set_option maxRecDepth 100000
set_option maxHeartbeats 2000000
namespace K91
open PySem PySem.Spec PyProof.Rows L2 En
theorem mVar_sat {i : Nat} {ρ : Rho} {t : T} {Q : Val → T → Prop} : (mVar i ρ t).sat Q = match ρ[i]? with | some (some v) => Q v t | _ => False := by
  unfold mVar
  cases ρ[i]? with
  | none => exact sat_stuck
  | some o => cases o with
    | none => exact sat_stuck
    | some v => exact sat_ok
end K91
set_option Elab.async false
set_option linter.all false
set_option maxRecDepth 100000
set_option maxHeartbeats 2000000
namespace K91
open PySem PySem.Spec PyProof.Rows L2 En
def rowCells (rows : List Str) (w r : Nat) : List (Int × Int) := ((List.range w).filter fun c => !(signAt rows r c == 126)).map fun (c : Nat) => ((r : Int), (c : Int))
def cellsOf (rows : List Str) (w : Nat) : List (Int × Int) := (List.range rows.length).foldl (fun acc r => acc ++ rowCells rows w r) []
theorem cells_ix {rows : List Str} {w : Nat} (hr : RowsOk rows w) {r c : Nat} (h1 : r < rows.length) (h2 : c < w) (t : T) :
    fIx (.d (.tup (rows.map D.str))) (.d (.int (0 + (r : Int)))) t = .ok (.d (.str (rows.getD r ⟨#[]⟩))) t ∧ fIx (.d (.str (rows.getD r ⟨#[]⟩))) (.d (.int (0 + (c : Int)))) t = .ok (.d (.str ⟨#[signAt rows r c]⟩)) t ∧ signAt rows r c ∈ [46, 126, 65, 66, 75, 84, 90] := by
  have e1 : rows.getD r ⟨#[]⟩ = rows[r] := by rw [List.getD_eq_getElem?_getD, List.getElem?_eq_getElem h1]; rfl
  have hm : rows[r] ∈ rows := List.getElem_mem h1
  have hw : rows[r].length = w := hr.row _ hm
  have hw' : rows[r].cps.toList.length = w := hw
  have hl : w ≤ lim := Nat.le_trans hr.w2 (by decide)
  have z1 : (0 + (r : Int)).toNat = r := by omega
  have z2 : (0 + (c : Int)).toNat = c := by omega
  refine ⟨?_, ?_, ?_⟩
  · rw [ixt_ok (by omega) (by rw [List.length_map]; omega), z1, List.getD_eq_getElem?_getD, List.getElem?_map, List.getElem?_eq_getElem h1, e1]
    rfl
  · rw [e1, ixs_ok (by rw [hw]; exact hl) (by omega) (by rw [hw']; omega), z2]
    unfold signAt
    rw [e1]
  · unfold signAt
    rw [e1, List.getD_eq_getElem?_getD, List.getElem?_eq_getElem (by rw [hw']; exact h2)]
    exact hr.sign _ hm _ (List.getElem_mem _)
theorem row_comp {rows : List Str} {w : Nat} (hr : RowsOk rows w) {r : Nat} (h1 : r < rows.length) (v1 : Option Val) (b : Box) :
    lcM (gN 3) (m1 asB (m2 fNe (m2 fIx (m2 fIx (mVar 0) (mVar 2)) (mVar 3)) (mC (.str "~")))) (mL fTup (mCons (mVar 2) (mCons (mVar 3) mNil))) [some (.d (.tup (rows.map D.str))), v1, some (.d (.int (0 + (r : Int)))), none] (intsV 0 w) [] ⟨[], b⟩ = .ok (((rowCells rows w r).map cellD).map Val.d) ⟨[], b⟩ := by
  have hl : w ≤ lim := Nat.le_trans hr.w2 (by decide)
  have e := lcM_filter (f := gN 3) (tt := m1 asB (m2 fNe (m2 fIx (m2 fIx (mVar 0) (mVar 2)) (mVar 3)) (mC (.str "~")))) (te := mL fTup (mCons (mVar 2) (mCons (mVar 3) mNil))) (ρ := [some (.d (.tup (rows.map D.str))), v1, some (.d (.int (0 + (r : Int)))), none]) (t := ⟨[], b⟩) (fun (i : Nat) => Val.d (.int (0 + (i : Int)))) (fun c => !(signAt rows r c == 126)) (fun c => .d (cellD ((r : Int), (c : Int)))) (List.range w) [] (fun c hc => by
    obtain ⟨i1, i2, i3⟩ := cells_ix hr h1 (List.mem_range.mp hc) ⟨[], b⟩
    refine ⟨_, rfl, ?_, fun _ => ?_⟩
    · simp only [List.map_cons, List.map_nil, List.length_cons, List.length_nil, List.replicate, List.cons_append, List.nil_append, List.append_nil, sSeq, sIf, sRet, sNil, sSet, sDrop, m2, m1, mL, mCons, mNil, mC, mVar, mIf, List.getElem?_cons_zero, List.getElem?_cons_succ, List.set_cons_zero, List.set_cons_succ, R.bind_ok, R.toS_ok, Nat.reduceAdd, Nat.reduceSub, Nat.zero_add, En.eq_cell, En.asB_ok, En.eq_int, En.lt_ok, En.le_ok, En.sub_ok, En.add_ok, En.abs_ok, En.cell_0, En.cell_1, decide_true, decide_false, Bool.false_eq_true, if_true, if_false, Bool.not_true, Bool.not_false, i1, i2, sign_ne i3]
    · have z1 : (0 + (r : Int)) = (r : Int) := by omega
      have z2 : (0 + (c : Int)) = (c : Int) := by omega
      simp only [List.map_cons, List.map_nil, List.length_cons, List.length_nil, List.replicate, List.cons_append, List.nil_append, List.append_nil, sSeq, sIf, sRet, sNil, sSet, sDrop, m2, m1, mL, mCons, mNil, mC, mVar, mIf, List.getElem?_cons_zero, List.getElem?_cons_succ, List.set_cons_zero, List.set_cons_succ, R.bind_ok, R.toS_ok, Nat.reduceAdd, Nat.reduceSub, Nat.zero_add, En.eq_cell, En.asB_ok, En.eq_int, En.lt_ok, En.le_ok, En.sub_ok, En.add_ok, En.abs_ok, En.cell_0, En.cell_1, decide_true, decide_false, Bool.false_eq_true, if_true, if_false, Bool.not_true, Bool.not_false, z1, z2]
      rfl) (by rw [List.length_nil, List.length_range, Nat.zero_add]; exact hl)
  rw [intsV_map]
  rw [e]
  simp only [List.nil_append, rowCells, List.map_map]
  rfl
theorem rowCells_len (rows : List Str) (w r : Nat) : (rowCells rows w r).length ≤ w := by
  unfold rowCells
  rw [List.length_map]
  exact Nat.le_trans (List.length_filter_le ..) (by rw [List.length_range]; exact Nat.le_refl _)
theorem fold_len (rows : List Str) (w : Nat) : ∀ (xs : List Nat) (acc : List (Int × Int)), (xs.foldl (fun acc r => acc ++ rowCells rows w r) acc).length ≤ acc.length + xs.length * w
  | [], acc => by simp
  | x :: xs, acc => by
    rw [List.foldl_cons]
    have h1 := fold_len rows w xs (acc ++ rowCells rows w x)
    have h2 := rowCells_len rows w x
    rw [List.length_append] at h1
    rw [List.length_cons, Nat.succ_mul]
    omega
theorem add_lst {xs ys : List D} (h : xs.length + ys.length ≤ lim) (t : T) : fAdd (.d (.lst xs)) (.d (.lst ys)) t = .ok (.d (.lst (xs ++ ys))) t := by
  show (if (xs.map Val.d).length + (ys.map Val.d).length ≤ lim then _ else _) = _
  rw [List.length_map, List.length_map, if_pos h, ← List.map_append]
  show (match datas ((xs ++ ys).map Val.d) with | some ds => _ | none => _) = _
  rw [datas_map]
theorem cells_loop {rows : List Str} {w : Nat} (hr : RowsOk rows w) (b : Box) (z0 : ∀ t : T, fIx (.d (.tup (rows.map D.str))) (.d (.int 0)) t = .ok (.d (.str (rows.getD 0 ⟨#[]⟩))) t) (i3 : ∀ t : T, fLenB [.d (.str (rows.getD 0 ⟨#[]⟩))] t = .ok (.d (.int (w : Int))) t) : ∀ (xs : List Nat) (acc : List (Int × Int)) (o2 o3 : Option Val), (∀ r ∈ xs, r < rows.length) → acc.length + xs.length * w ≤ 1000 →
    ∃ o2' o3', forM (gN 2) (sSet 1 (m2 fAdd (mVar 1) (mL fFz (mLc [3] (gN 3) (mL fRange1 (mCons (mL fLenB (mCons (m2 fIx (mVar 0) (mC (.int 0))) mNil)) mNil)) (m1 asB (m2 fNe (m2 fIx (m2 fIx (mVar 0) (mVar 2)) (mVar 3)) (mC (.str "~")))) (mL fTup (mCons (mVar 2) (mCons (mVar 3) mNil))))))) (xs.map fun (i : Nat) => Val.d (.int (0 + (i : Int)))) [some (.d (.tup (rows.map D.str))), some (.d (.lst (acc.map cellD))), o2, o3] ⟨[], b⟩ = .nx [some (.d (.tup (rows.map D.str))), some (.d (.lst ((xs.foldl (fun acc r => acc ++ rowCells rows w r) acc).map cellD))), o2', o3'] ⟨[], b⟩
  | [], acc, o2, o3, _, _ => ⟨o2, o3, rfl⟩
  | r :: xs, acc, o2, o3, h, hl => by
    have hw : w ≤ lim := Nat.le_trans hr.w2 (by decide)
    have hlen := rowCells_len rows w r
    rw [List.length_cons, Nat.succ_mul] at hl
    obtain ⟨o2', o3', e⟩ := cells_loop hr b z0 i3 xs (acc ++ rowCells rows w r) (some (.d (.int (0 + (r : Int))))) o3 (fun x hx => h x (List.mem_cons_of_mem _ hx)) (by rw [List.length_append]; omega)
    refine ⟨o2', o3', ?_⟩
    have rc := row_comp hr (h r (List.mem_cons_self ..)) (some (.d (.lst (acc.map cellD)))) b
    have q2 := range_ok hw ⟨[], b⟩
    have ad := add_lst (xs := acc.map cellD) (ys := (rowCells rows w r).map cellD) (by rw [List.length_map, List.length_map]; show _ ≤ 100000; omega) ⟨[], b⟩
    rw [List.map_cons, List.foldl_cons, ← e]
    show turnS (sSet 1 (m2 fAdd (mVar 1) (mL fFz (mLc [3] (gN 3) (mL fRange1 (mCons (mL fLenB (mCons (m2 fIx (mVar 0) (mC (.int 0))) mNil)) mNil)) (m1 asB (m2 fNe (m2 fIx (m2 fIx (mVar 0) (mVar 2)) (mVar 3)) (mC (.str "~")))) (mL fTup (mCons (mVar 2) (mCons (mVar 3) mNil)))))) [some (.d (.tup (rows.map D.str))), some (.d (.lst (acc.map cellD))), some (.d (.int (0 + (r : Int)))), o3] ⟨[], b⟩) _ = _
    simp only [List.map_cons, List.map_nil, List.length_cons, List.length_nil, List.replicate, List.cons_append, List.nil_append, List.append_nil, sSeq, sIf, sRet, sNil, sSet, sDrop, m2, m1, mL, mCons, mNil, mC, mVar, mIf, List.getElem?_cons_zero, List.getElem?_cons_succ, List.set_cons_zero, List.set_cons_succ, R.bind_ok, R.toS_ok, Nat.reduceAdd, Nat.reduceSub, Nat.zero_add, En.eq_cell, En.asB_ok, En.eq_int, En.lt_ok, En.le_ok, En.sub_ok, En.add_ok, En.abs_ok, En.cell_0, En.cell_1, decide_true, decide_false, Bool.false_eq_true, if_true, if_false, Bool.not_true, Bool.not_false, mLc, wipeR, z0, i3, q2, rc, fFz, datas_map, ad, turnS, List.map_append]
theorem cells_eq {rows : List Str} {w : Nat} (hr : RowsOk rows w) (b : Box) : f__law_cells [.d (.tup (rows.map D.str))] b = .ok (.d (.lst ((cellsOf rows w).map cellD))) ⟨[], b⟩ := by
  have hw : w ≤ lim := Nat.le_trans hr.w2 (by decide)
  have hpos : 0 < rows.length := List.length_pos_iff.mpr hr.ne
  have z0 : ∀ t : T, fIx (.d (.tup (rows.map D.str))) (.d (.int 0)) t = .ok (.d (.str (rows.getD 0 ⟨#[]⟩))) t := fun t => by
    rw [ixt_ok (by omega) (by rw [List.length_map]; omega), List.getD_eq_getElem?_getD, List.getElem?_map]
    show R.ok (Val.d ((Option.map D.str rows[0]?).getD .non)) t = _
    rw [List.getElem?_eq_getElem hpos, List.getD_eq_getElem?_getD, List.getElem?_eq_getElem hpos]
    rfl
  have hw0 : (rows.getD 0 ⟨#[]⟩).length = w := by
    rw [List.getD_eq_getElem?_getD, List.getElem?_eq_getElem hpos]
    exact hr.row _ (List.getElem_mem hpos)
  have i3 : ∀ t : T, fLenB [.d (.str (rows.getD 0 ⟨#[]⟩))] t = .ok (.d (.int (w : Int))) t := fun t => by rw [len_str (by rw [hw0]; exact hw), hw0]
  have i1 : ∀ t : T, fLenB [.d (.tup (rows.map D.str))] t = .ok (.d (.int (rows.length : Int))) t := fun t => by rw [len_tup, List.length_map]
  have hrl : rows.length ≤ lim := Nat.le_trans hr.len (by decide)
  have q1 := range_ok hrl ⟨[], b⟩
  have hm : rows.length * w ≤ 12 * 12 := Nat.mul_le_mul hr.len hr.w2
  obtain ⟨o2, o3, e⟩ := cells_loop hr b z0 i3 (List.range rows.length) [] none none (fun r h => List.mem_range.mp h) (by rw [List.length_nil, List.length_range]; omega)
  unfold f__law_cells runF runG m__law_cells
  simp only [List.map_cons, List.map_nil, List.length_cons, List.length_nil, List.replicate, List.cons_append, List.nil_append, List.append_nil, sSeq, sIf, sRet, sNil, sSet, sDrop, m2, m1, mL, mCons, mNil, mC, mVar, mIf, List.getElem?_cons_zero, List.getElem?_cons_succ, List.set_cons_zero, List.set_cons_succ, R.bind_ok, R.toS_ok, Nat.reduceAdd, Nat.reduceSub, Nat.zero_add, En.eq_cell, En.asB_ok, En.eq_int, En.lt_ok, En.le_ok, En.sub_ok, En.add_ok, En.abs_ok, En.cell_0, En.cell_1, decide_true, decide_false, Bool.false_eq_true, if_true, if_false, Bool.not_true, Bool.not_false, sFor, f0, f1, i1, q1, intsV_map] at e ⊢
  rw [e]
  rfl
end K91
set_option Elab.async false
set_option linter.all false
set_option maxRecDepth 100000
set_option maxHeartbeats 2000000
namespace K91
open PySem PySem.Spec PyProof.Rows L2 En
def sgn : List D := [.str ".", .str "A"]
def isSign (v : Val) : Prop := ∃ s ∈ [46, 65], v = .d (.str ⟨#[s]⟩)
theorem sgn_at {k : Int} (h0 : 0 ≤ k) (h1 : k < 2) : isSign (.d (sgn.getD k.toNat .non)) := by
  have : k = 0 ∨ k = 1 := by omega
  rcases this with rfl | rfl
  · exact ⟨46, by decide, rfl⟩
  · exact ⟨65, by decide, rfl⟩
theorem sign_item {ρ : Rho} {t : T} (hv : ρ[1]? = some (some .box)) (g : GoodB t.b) : ((m2 fIx (mL fFz (mL fLen (mCons (mC (.str ".")) (mCons (mC (.str "A")) mNil)))) (mL (fDraw drNext) (mCons (mVar 1) (mCons (mC (.int 2)) mNil)))) ρ t).sat fun v t' => isSign v ∧ t'.st = t.st ∧ GoodB t'.b := by
  rw [w_m2]
  refine ⟨.d (.lst sgn), t, rfl, ?_⟩
  simp only [w_mL, w_mCons, w_mC, w_mNil, w_mVar hv]
  refine draw_sat g (by decide) (by decide) fun k b1 hk0 hk1 g1 => ?_
  rw [ixl_ok hk0 (by show k < 2; exact hk1), sat_ok]
  exact ⟨sgn_at hk0 hk1, rfl, g1⟩
theorem signs_comp {ρ : Rho} (hρ : ρ[1]? = some (some .box)) (st : List Cell) (b : Box) (g : GoodB b) (vs : List Val) (hn : vs.length ≤ 1000) :
    (lcM (gN 19) mYes (m2 fIx (mL fFz (mL fLen (mCons (mC (.str ".")) (mCons (mC (.str "A")) mNil)))) (mL (fDraw drNext) (mCons (mVar 1) (mCons (mC (.int 2)) mNil)))) ρ vs [] ⟨st, b⟩).sat fun us t => t.st = st ∧ GoodB t.b ∧ us.length = vs.length ∧ ∀ v ∈ us, isSign v := by
  refine lcM_sat (fun rest acc t => acc.length + rest.length = vs.length ∧ (∀ v ∈ acc, isSign v) ∧ t.st = st ∧ GoodB t.b) vs [] ⟨st, b⟩ ⟨by simp, fun v h => (by cases h), rfl, g⟩ (fun v rest acc t ⟨h1, h2, h3, h4⟩ => ?_) fun acc t ⟨h1, h2, h3, h4⟩ => ⟨h3, h4, by simpa using h1, h2⟩
  rw [List.length_cons] at h1
  refine ⟨_, rfl, true, t, rfl, ?_⟩
  simp only [if_true]
  refine sat_mono (sign_item (by rw [List.getElem?_set_ne (by decide)]; exact hρ) h4) fun y t' ⟨s1, s2, s3⟩ => ⟨by show _ < 100000; omega, by rw [List.length_append, List.length_cons, List.length_nil]; omega, fun u hu => ?_, s2.trans h3, s3⟩
  rcases List.mem_append.mp hu with hu | hu
  · exact h2 u hu
  · rw [List.mem_singleton.mp hu]; exact s1
end K91
set_option Elab.async false
set_option linter.all false
set_option maxRecDepth 100000
set_option maxHeartbeats 2000000
namespace K91
open PySem PySem.Spec PyProof.Rows L2 En
theorem signs_data : ∀ (us : List Val), (∀ v ∈ us, isSign v) → ∃ cs : List Nat, us = (cs.map fun s => D.str ⟨#[s]⟩).map Val.d ∧ ∀ s ∈ cs, s ∈ [46, 65]
  | [], _ => ⟨[], rfl, fun _ h => (by cases h)⟩
  | u :: us, h => by
    obtain ⟨s, hs, rfl⟩ := h u (List.mem_cons_self ..)
    obtain ⟨cs, rfl, hc⟩ := signs_data us fun v hv => h v (List.mem_cons_of_mem _ hv)
    refine ⟨s :: cs, rfl, fun x hx => ?_⟩
    rcases List.mem_cons.mp hx with rfl | hx
    · exact hs
    · exact hc x hx
theorem strsV_map : ∀ cs : List Nat, strsV ((cs.map fun s => D.str ⟨#[s]⟩).map Val.d) = some (cs.map fun s => (⟨#[s]⟩ : Str))
  | [] => rfl
  | c :: cs => by simp only [List.map_cons, strsV, strsV_map cs]
theorem sum1 : ∀ cs : List Nat, ((cs.map fun s => (⟨#[s]⟩ : Str)).map (·.length)).sum = cs.length
  | [] => rfl
  | c :: cs => by
    simp only [List.map_cons, List.sum_cons, List.length_cons]
    rw [sum1 cs]
    show 1 + cs.length = cs.length + 1
    omega
theorem join_signs (cs : List Nat) (hl : cs.length ≤ 1000) (t : T) : ∃ x : Str, fJoin (.d (.str "")) [.d (.lst (cs.map fun s => D.str ⟨#[s]⟩))] t = .ok (.d (.str x)) t ∧ x.cps.toList = cs := by
  have e0 : ("" : Str) = ⟨#[]⟩ := by decide +kernel
  refine ⟨Txt.join ⟨#[]⟩ (cs.map fun s => (⟨#[s]⟩ : Str)), ?_, ?_⟩
  · rw [e0]
    have h1 : strsV ((cs.map fun s => D.str ⟨#[s]⟩).map Val.d) = some (cs.map fun s => (⟨#[s]⟩ : Str)) := strsV_map cs
    have h2 : ((cs.map fun s => (⟨#[s]⟩ : Str)).map (·.length)).sum + (cs.map fun s => (⟨#[s]⟩ : Str)).length * (⟨#[]⟩ : Str).length ≤ 16777216 := by
      rw [sum1]
      show cs.length + _ * 0 ≤ _
      omega
    show (match strsV ((cs.map fun s => D.str ⟨#[s]⟩).map Val.d) with | some ss => _ | none => _) = _
    rw [h1]
    exact if_pos h2
  · rw [join0]
    induction cs with
    | nil => rfl
    | cons c cs ih => simp only [List.map_cons, List.flatMap_cons, ih (by simp at hl; omega)]; rfl
end K91
set_option Elab.async false
set_option linter.all false
set_option maxRecDepth 100000
set_option maxHeartbeats 2000000
namespace K91
open PySem PySem.Spec PyProof.Rows L2 En
theorem w_sPar {i j : Nat} {m : ME (List Val)} {ρ : Rho} {t : T} {N : Rho → T → Prop} {V : Val → T → Prop} : (sPar i j m ρ t).sat N V = (m ρ t).sat fun vs t => match vs with | [u, v] => N ((ρ.set i (some u)).set j (some v)) t | _ => False := by
  unfold sPar
  rw [sat_toS]
  congr 1
  funext vs t
  rcases vs with _ | ⟨u, _ | ⟨v, _ | ⟨z, r⟩⟩⟩ <;> rfl
theorem w_mMeth {tb : Val → T → Bool} {f : Val → List Val → T → R Val} {mo : ME Val} {ma : ME (List Val)} {ρ : Rho} {t : T} {Q : Val → T → Prop} : (mMeth tb f mo ma ρ t).sat Q = (mo ρ t).sat fun v t => if tb v t then (ma ρ t).sat fun vs t => (f v vs t).sat Q else False := by
  unfold mMeth
  rw [sat_bind]
  congr 1
  funext v t
  split
  · rw [sat_bind]
  · exact sat_stuck
def RowT (w : Nat) (x : Str) : Prop := x.length = w ∧ ∀ c ∈ x.cps.toList, c ∈ [46, 65]
theorem row_text {ρ : Rho} {t : T} {w : Nat} (h0 : ρ[1]? = some (some .box)) (h3 : ρ[3]? = some (some (.d (.int (w : Int))))) (hw : w ≤ 1000) (g : GoodB t.b) :
    (mMeth isStrB fJoin (mC (.str "")) (mCons (mL fFz (mLc [19] (gN 19) (mL fRange1 (mCons (mVar 3) mNil)) mYes (m2 fIx (mL fFz (mL fLen (mCons (mC (.str ".")) (mCons (mC (.str "A")) mNil)))) (mL (fDraw drNext) (mCons (mVar 1) (mCons (mC (.int 2)) mNil)))))) mNil) ρ t).sat fun v t' => ∃ x, v = .d (.str x) ∧ RowT w x ∧ t'.st = t.st ∧ GoodB t'.b := by
  have hl : w ≤ lim := Nat.le_trans hw (by decide)
  rw [w_mMeth, w_mC]
  rw [if_pos (show isStrB (.d (.str "")) t = true from rfl)]
  rw [w_mCons, w_mL]
  unfold mLc
  rw [sat_bind, w_mL, w_mCons, w_mVar h3, w_mNil, range_ok hl, sat_ok]
  have hv : (wipeR ρ [19])[1]? = some (some .box) := by
    show (ρ.set 19 none)[1]? = _
    rw [List.getElem?_set_ne (by decide)]
    exact h0
  obtain ⟨ts, tb⟩ := t
  have hlen : (intsV 0 w).length = w := by rw [intsV_map, List.length_map, List.length_range]
  refine sat_mono (signs_comp hv ts tb g (intsV 0 w) (by rw [hlen]; exact hw)) fun us t1 ⟨s1, s2, s3, s4⟩ => ?_
  obtain ⟨cs, rfl, hcs⟩ := signs_data us s4
  rw [hlen, List.length_map, List.length_map] at s3
  have fz : fFz ((cs.map fun s => D.str ⟨#[s]⟩).map Val.d) t1 = .ok (.d (.lst (cs.map fun s => D.str ⟨#[s]⟩))) t1 := by
    unfold fFz
    rw [datas_map]
  rw [fz, sat_ok, w_mNil]
  obtain ⟨x, e, hx⟩ := join_signs cs (by omega) t1
  rw [e, sat_ok]
  refine ⟨x, rfl, ⟨?_, ?_⟩, s1, s2⟩
  · show x.cps.toList.length = w
    rw [hx, s3]
  · rw [hx]
    exact hcs
end K91
set_option Elab.async false
set_option linter.all false
set_option maxRecDepth 100000
set_option maxHeartbeats 2000000
namespace K91
open PySem PySem.Spec PyProof.Rows L2 En
theorem rsat_mono {r : RS} {N N' : Rho → T → Prop} {V V' : Val → T → Prop} (h : r.sat N V) (k : ∀ ρ t, N ρ t → N' ρ t) (k2 : ∀ v t, V v t → V' v t) : r.sat N' V' := by
  cases r with
  | nx ρ t => exact k ρ t h
  | rt v t => exact k2 v t h
  | bk _ _ => exact h.elim
  | ct _ _ => exact h.elim
  | exc _ _ _ => exact h.elim
  | stuck => exact h.elim
theorem seq_sat {a b : MS} {ρ : Rho} {t : T} {N N' : Rho → T → Prop} {V : Val → T → Prop} (h : (a ρ t).sat N' V) (k : ∀ ρ t, N' ρ t → (b ρ t).sat N V) : (sSeq a b ρ t).sat N V := by
  rw [w_sSeq]
  exact rsat_mono h k fun _ _ x => x
theorem strsV_rows : ∀ rows : List Str, strsV ((rows.map D.str).map Val.d) = some rows
  | [] => rfl
  | c :: cs => by simp only [List.map_cons, strsV, strsV_rows cs]
theorem empty_eq : ("" : Str) = ⟨#[]⟩ := by decide +kernel
theorem sum_rows {w : Nat} : ∀ rows : List Str, (∀ x ∈ rows, x.length = w) → (rows.map (·.length)).sum = rows.length * w
  | [], _ => by simp
  | x :: rows, h => by
    rw [List.map_cons, List.sum_cons, sum_rows rows fun y hy => h y (List.mem_cons_of_mem _ hy), h x (List.mem_cons_self ..), List.length_cons, Nat.succ_mul]
    omega
theorem join_rows {w : Nat} (rows : List Str) (hw : w ≤ 1000) (hl : rows.length ≤ 1000) (h : ∀ x ∈ rows, x.length = w) (t : T) : fJoin (.d (.str "")) [.d (.lst (rows.map D.str))] t = .ok (.d (.str (Txt.join ⟨#[]⟩ rows))) t := by
  rw [empty_eq]
  have h2 : (rows.map (·.length)).sum + rows.length * (⟨#[]⟩ : Str).length ≤ 16777216 := by
    rw [sum_rows rows h]
    have : rows.length * w ≤ 1000 * 1000 := Nat.mul_le_mul hl hw
    show rows.length * w + rows.length * 0 ≤ _
    omega
  show (match strsV ((rows.map D.str).map Val.d) with | some ss => _ | none => _) = _
  rw [strsV_rows]
  exact if_pos h2
theorem join_len {w : Nat} (rows : List Str) (h : ∀ x ∈ rows, x.length = w) : (Txt.join ⟨#[]⟩ rows).length = rows.length * w := by
  show (Txt.join ⟨#[]⟩ rows).cps.toList.length = _
  rw [join0, ← sum_rows rows h]
  simp only [List.length_flatMap]
  rfl
theorem strOk_of {x : Str} (h : ∀ c ∈ x.cps.toList, c ∈ [46, 126, 65, 66, 75, 84, 90]) : PyData.strOk x = true := by
  unfold PyData.strOk
  rw [← Array.all_toList]
  refine List.all_eq_true.mpr fun c hc => ?_
  have := h c hc
  simp only [List.mem_cons, List.mem_nil_iff, or_false] at this
  exact decide_eq_true (by omega)
theorem beq_empty (x : Str) : (x == ("" : Str)) = x.cps.toList.isEmpty := by
  rw [empty_eq]
  obtain ⟨⟨l⟩⟩ := x
  cases l with
  | nil => rfl
  | cons a l =>
    rw [show List.isEmpty (Array.toList { toList := a :: l }) = false from rfl]
    cases hb : ((⟨⟨a :: l⟩⟩ : Str) == (⟨#[]⟩ : Str)) with
    | false => rfl
    | true =>
      have := eq_of_beq hb
      cases this
theorem dots {w : Nat} (h1 : 1 ≤ w) : (strMul "." (w : Int)).cps.toList = List.replicate w 46 := by
  have e : ("." : Str) = ⟨#[46]⟩ := by decide +kernel
  rw [e]
  unfold strMul
  rw [if_neg (by omega)]
  by_cases h : w = 1
  · subst h
    rfl
  · have : (((w : Int) == 1) || ((⟨#[46]⟩ : Str).length == 0)) = false := by
      have h2 : ((w : Int) == 1) = false := by
        rw [beq_eq_false_iff_ne]; omega
      rw [h2]; rfl
    rw [if_neg (by rw [this]; decide)]
    show (List.foldl (· ++ ·) (#[] : Array Nat) (List.replicate (w : Int).toNat #[46])).toList = _
    rw [Int.toNat_natCast]
    have gen : ∀ (n : Nat) (acc : Array Nat), (List.foldl (· ++ ·) acc (List.replicate n #[46])).toList = acc.toList ++ List.replicate n 46 := by
      intro n
      induction n with
      | zero => intro acc; simp
      | succ n ih => intro acc; rw [List.replicate_succ, List.foldl_cons, ih]; simp [List.replicate_succ]
    rw [gen]
    rfl
end K91
set_option Elab.async false
set_option linter.all false
set_option maxRecDepth 100000
set_option maxHeartbeats 2000000
namespace K91
open PySem PySem.Spec PyProof.Rows L2 En
def HasLand (rows : List Str) : Prop := ∃ x ∈ rows, ∃ c ∈ x.cps.toList, c ≠ 126
theorem w_sFz {i : Nat} {m : MS} {ρ : Rho} {t t1 : T} {v a : Val} {N : Rho → T → Prop} {V : Val → T → Prop} (h1 : ρ[i]? = some (some v)) (h2 : fFreeze v t = .ok a t1) : (sFz i m ρ t).sat N V = (m (ρ.set i (some a)) t1).sat N V := by
  unfold sFz
  rw [h1]
  simp only [h2]
theorem dead_at {pre : List Cell} {vs : List Val} {b : Box} : fFreeze (.loc pre.length) ⟨pre ++ [.lst vs], b⟩ = match datas vs with | some ds => .ok (.d (.lst ds)) ⟨pre ++ [.dead], b⟩ | none => .stuck := by
  unfold fFreeze
  simp only [List.getElem?_append_right (Nat.le_refl _), Nat.sub_self, List.getElem?_cons_zero]
  cases datas vs with
  | none => rfl
  | some ds => simp
theorem cut_tail (ds : List D) : En.cut (ds.map Val.d) (some 1) none = (ds.drop 1).map Val.d := by
  unfold En.cut
  cases ds with
  | nil => rfl
  | cons d ds =>
    have e1 : HT.sIx ((d :: ds).map Val.d).length 0 (some 1) = 1 := by
      show HT.sIx (ds.map Val.d).length.succ 0 (some 1) = 1
      unfold HT.sIx
      simp
      try omega
    have e2 : HT.sIx ((d :: ds).map Val.d).length ((d :: ds).map Val.d).length none = ((d :: ds).map Val.d).length := rfl
    rw [e1, e2]
    simp only [List.map_cons, List.drop_succ_cons, List.drop_zero, List.length_cons, Nat.add_sub_cancel]
    rw [List.take_of_length_le (by simp)]
end K91
set_option Elab.async false
set_option linter.all false
set_option maxRecDepth 100000
set_option maxHeartbeats 2000000
namespace K91
open PySem PySem.Spec PyProof.Rows L2 En
theorem forM_keep {f : Val → Rho → Option Rho} {b : MS} (S : Rho → Prop) (t : T) : ∀ (vs : List Val) (ρ : Rho), S ρ →
    (∀ v ρ, v ∈ vs → S ρ → ∃ ρ' ρ'', f v ρ = some ρ' ∧ b ρ' t = .nx ρ'' t ∧ S ρ'') → ∃ ρ', forM f b vs ρ t = .nx ρ' t ∧ S ρ'
  | [], ρ, h, _ => ⟨ρ, rfl, h⟩
  | x :: xs, ρ, h, hs => by
    obtain ⟨ρ', ρ'', e1, e2, h'⟩ := hs x ρ (List.mem_cons_self ..) h
    obtain ⟨ρ3, e3, h3⟩ := forM_keep S t xs ρ'' h' fun y ρ hy => hs y ρ (List.mem_cons_of_mem _ hy)
    refine ⟨ρ3, ?_, h3⟩
    unfold En.forM
    rw [e1]
    show turnS (b ρ' t) _ = _
    rw [e2]
    exact e3
theorem pairs_mem {ds : List D} {v : Val} (h : v ∈ pairsFrom 0 ds) : ∃ (i : Nat) (d : D), ds[i]? = some d ∧ v = .d (.tup [.int (i : Int), d]) := by
  obtain ⟨i, hi⟩ := List.getElem?_of_mem h
  obtain ⟨d, h1, h2⟩ := pairs_get hi
  exact ⟨i, d, h1, by simpa using h2⟩
theorem min2_ok (i j : Int) (t : T) : fMin2 [.d (.int i), .d (.int j)] t = .ok (.d (.int (if j < i then j else i))) t := rfl
theorem signs_in : ∀ c ∈ [46, 126, 65, 66, 75, 84, 90], decide (c ∈ ((("." : Str) ++ ("~" : Str)) ++ ("ABCDEFGHIJKLMNOPQRSTUVWXYZ" : Str)).cps.toList) = true := by decide +kernel
theorem notIn_signs {c : Nat} (h : c ∈ [46, 126, 65, 66, 75, 84, 90]) (t : T) : fNotIn (.d (.str ⟨#[c]⟩)) (.d (.str ((("." : Str) ++ ("~" : Str)) ++ ("ABCDEFGHIJKLMNOPQRSTUVWXYZ" : Str)))) t = .ok (.d (.bl false)) t := by
  show retB (!(strIn ⟨#[c]⟩ ((("." : Str) ++ ("~" : Str)) ++ ("ABCDEFGHIJKLMNOPQRSTUVWXYZ" : Str)))) t = _
  have : strIn ⟨#[c]⟩ ((("." : Str) ++ ("~" : Str)) ++ ("ABCDEFGHIJKLMNOPQRSTUVWXYZ" : Str)) = true := signs_in c h
  rw [this]
  rfl
theorem cat_signs1 (t : T) : fAdd (.d (.str ".")) (.d (.str "~")) t = .ok (.d (.str (("." : Str) ++ ("~" : Str)))) t := rfl
theorem cat_signs2 (t : T) : fAdd (.d (.str (("." : Str) ++ ("~" : Str)))) (.d (.str "ABCDEFGHIJKLMNOPQRSTUVWXYZ")) t = .ok (.d (.str ((("." : Str) ++ ("~" : Str)) ++ ("ABCDEFGHIJKLMNOPQRSTUVWXYZ" : Str)))) t := by
  have h : (("." : Str) ++ ("~" : Str)).length + ("ABCDEFGHIJKLMNOPQRSTUVWXYZ" : Str).length ≤ lim := by decide +kernel
  unfold fAdd
  simp only [h, if_true]
theorem enum_str (x : Str) (t : T) : fEnum [.d (.str x)] t = .ok (pairsFrom 0 (charsD x)) t := rfl
theorem enum_tup (ds : List D) (t : T) : fEnum [.d (.tup ds)] t = .ok (pairsFrom 0 ds) t := rfl
theorem init_eq {rows : List Str} {w : Nat} (hr : RowsOk rows w) (b : Box) : f_Island____init__ [.loc 0, .d (.tup (rows.map D.str))] ⟨[.ins "Island" []], b⟩ = .ok (.d .non) ⟨[.ins "Island" [("own_rows", .d (.tup (rows.map D.str)))]], b⟩ := by
  have hpos : 0 < rows.length := List.length_pos_iff.mpr hr.ne
  obtain ⟨y, e0⟩ : ∃ y, rows[0]? = some y := ⟨rows[0], List.getElem?_eq_getElem hpos⟩
  have hy : y.length = w := hr.row y (List.mem_of_getElem? e0)
  have hyl : y.cps.toList.length = w := hy
  have w2 := hr.w2
  have w1 := hr.w1
  have i1 : ∀ t : T, fLenB [.d (.tup (rows.map D.str))] t = .ok (.d (.int (rows.length : Int))) t := fun t => by rw [len_tup, List.length_map]
  have i2 : ∀ t : T, fIx (.d (.tup (rows.map D.str))) (.d (.int 0)) t = .ok (.d (.str y)) t := fun t => by
    rw [ixt_ok (by omega) (by rw [List.length_map]; omega)]
    rw [List.getD_eq_getElem?_getD, List.getElem?_map]
    show R.ok (Val.d ((Option.map D.str rows[0]?).getD .non)) t = _
    rw [e0]
    rfl
  have i3 : ∀ t : T, fLenB [.d (.str y)] t = .ok (.d (.int (w : Int))) t := fun t => by rw [len_str (by rw [hy]; exact Nat.le_trans w2 (by decide)), hy]
  have i4 : ∀ t : T, fEq (.d (.str y)) (.d (.str "")) t = .ok (.d (.bl false)) t := fun t => by
    rw [En.eq_str (strOk_of (hr.sign y (List.mem_of_getElem? e0))) (by decide +kernel), beq_empty]
    cases h : y.cps.toList with
    | nil => rw [h] at hyl; simp at hyl; omega
    | cons _ _ => rfl
  have hne0 : ¬ ((rows.length : Int) = 0) := by omega
  obtain ⟨ρ', ef, o2, o3, o4, o5, eρ⟩ := forM_keep (f := gT 2 (gsCons (gN 2) (gsCons (gN 3) gsNil))) (b := (sSeq (sIf (m1 asB (m2 fEq (mVar 2) (mC d_MAX_SIZE)))
     sNever
     sNil)
     (sSeq (sFor (gT 2 (gsCons (gN 4) (gsCons (gN 5) gsNil))) (mL fEnum (mCons (mVar 3) mNil))
      (sIf (mOr (m1 asB (m2 fEq (mVar 4) (mL fMin2 (mCons (mC d_MAX_SIZE) (mCons (mL fLenB (mCons (m2 fIx (mVar 1) (mC (.int 0))) mNil)) mNil))))) (m1 asB (m2 fNotIn (mVar 5) (m2 fAdd (m2 fAdd (mC d_LAND) (mC d_WATER)) (mC d_LETTERS)))))
       sNever
       sNil))
      (sIf (m1 asB (m2 fLt (mL fLenB (mCons (mVar 3) mNil)) (mL fLenB (mCons (m2 fIx (mVar 1) (mC (.int 0))) mNil))))
       sNever
       sNil)))) (fun ρ => ∃ o2 o3 o4 o5, ρ = [some (.loc 0), some (.d (.tup (rows.map D.str))), o2, o3, o4, o5]) ⟨[.ins "Island" []], b⟩ (pairsFrom 0 (rows.map D.str)) [some (.loc 0), some (.d (.tup (rows.map D.str))), none, none, none, none] ⟨none, none, none, none, rfl⟩ (by
    rintro v ρ hv ⟨o2, o3, o4, o5, rfl⟩
    obtain ⟨i, d, hd, rfl⟩ := pairs_mem hv
    rw [List.getElem?_map] at hd
    obtain ⟨x, hx, rfl⟩ := Option.map_eq_some_iff.mp hd
    have hi : i < rows.length := (List.getElem?_eq_some_iff.mp hx).1
    have hi12 : ¬ ((i : Int) = 12) := by have := hr.len; omega
    have hxm := List.mem_of_getElem? hx
    have hxl : x.cps.toList.length = w := hr.row x hxm
    have i5 : ∀ t : T, fLenB [.d (.str x)] t = .ok (.d (.int (w : Int))) t := fun t => by rw [len_str (by rw [hr.row x hxm]; exact Nat.le_trans w2 (by decide)), hr.row x hxm]
    obtain ⟨ρ2, ef2, p4, p5, eρ2⟩ := forM_keep (f := gT 2 (gsCons (gN 4) (gsCons (gN 5) gsNil))) (b := (sIf (mOr (m1 asB (m2 fEq (mVar 4) (mL fMin2 (mCons (mC d_MAX_SIZE) (mCons (mL fLenB (mCons (m2 fIx (mVar 1) (mC (.int 0))) mNil)) mNil))))) (m1 asB (m2 fNotIn (mVar 5) (m2 fAdd (m2 fAdd (mC d_LAND) (mC d_WATER)) (mC d_LETTERS)))))
       sNever
       sNil)) (fun ρ => ∃ o4 o5, ρ = [some (.loc 0), some (.d (.tup (rows.map D.str))), some (.d (.int (i : Int))), some (.d (.str x)), o4, o5]) ⟨[.ins "Island" []], b⟩ (pairsFrom 0 (charsD x)) [some (.loc 0), some (.d (.tup (rows.map D.str))), some (.d (.int (i : Int))), some (.d (.str x)), o4, o5] ⟨o4, o5, rfl⟩ (by
      rintro v ρ hv ⟨o4, o5, rfl⟩
      obtain ⟨j, d, hd, rfl⟩ := pairs_mem hv
      simp only [charsD, List.getElem?_map, Option.map_eq_some_iff] at hd
      obtain ⟨c, hc, rfl⟩ := hd
      have hj : j < w := by have := (List.getElem?_eq_some_iff.mp hc).1; omega
      have hjm : ¬ ((j : Int) = if (w : Int) < 12 then (w : Int) else 12) := by split <;> omega
      have hcs := hr.sign x hxm c (List.mem_of_getElem? hc)
      refine ⟨_, _, rfl, ?_, some (.d (.int (j : Int))), some (.d (.str ⟨#[c]⟩)), rfl⟩
      simp only [List.map_cons, List.map_nil, List.length_cons, List.length_nil, List.replicate, List.cons_append, List.nil_append, List.append_nil, sSeq, sIf, sRet, sNil, sSet, sDrop, m2, m1, mL, mCons, mNil, mC, mVar, mIf, List.getElem?_cons_zero, List.getElem?_cons_succ, List.set_cons_zero, List.set_cons_succ, R.bind_ok, R.toS_ok, Nat.reduceAdd, Nat.reduceSub, Nat.zero_add, En.eq_cell, En.asB_ok, En.eq_int, En.lt_ok, En.le_ok, En.sub_ok, En.add_ok, En.abs_ok, En.cell_0, En.cell_1, decide_true, decide_false, Bool.false_eq_true, if_true, if_false, Bool.not_true, Bool.not_false, mOr, d_MAX_SIZE, d_LAND, d_WATER, d_LETTERS, i2, i3, min2_ok, hjm, cat_signs1, cat_signs2, notIn_signs hcs])
    subst eρ2
    simp only [d_MAX_SIZE] at ef2
    refine ⟨_, _, rfl, ?_, some (.d (.int (i : Int))), some (.d (.str x)), p4, p5, rfl⟩
    simp only [List.map_cons, List.map_nil, List.length_cons, List.length_nil, List.replicate, List.cons_append, List.nil_append, List.append_nil, sSeq, sIf, sRet, sNil, sSet, sDrop, m2, m1, mL, mCons, mNil, mC, mVar, mIf, List.getElem?_cons_zero, List.getElem?_cons_succ, List.set_cons_zero, List.set_cons_succ, R.bind_ok, R.toS_ok, Nat.reduceAdd, Nat.reduceSub, Nat.zero_add, En.eq_cell, En.asB_ok, En.eq_int, En.lt_ok, En.le_ok, En.sub_ok, En.add_ok, En.abs_ok, En.cell_0, En.cell_1, decide_true, decide_false, Bool.false_eq_true, if_true, if_false, Bool.not_true, Bool.not_false, d_MAX_SIZE, hi12, sFor, enum_str, ef2, i2, i3, i5, Int.lt_irrefl])
  subst eρ
  unfold f_Island____init__ runG m_Island____init__
  simp only [List.map_cons, List.map_nil, List.length_cons, List.length_nil, List.replicate, List.cons_append, List.nil_append, List.append_nil, sSeq, sIf, sRet, sNil, sSet, sDrop, m2, m1, mL, mCons, mNil, mC, mVar, mIf, List.getElem?_cons_zero, List.getElem?_cons_succ, List.set_cons_zero, List.set_cons_succ, R.bind_ok, R.toS_ok, Nat.reduceAdd, Nat.reduceSub, Nat.zero_add, En.eq_cell, En.asB_ok, En.eq_int, En.lt_ok, En.le_ok, En.sub_ok, En.add_ok, En.abs_ok, En.cell_0, En.cell_1, decide_true, decide_false, Bool.false_eq_true, if_true, if_false, Bool.not_true, Bool.not_false, mOr, i1, i2, i4, hne0, sFor, enum_tup, ef, sFldV]
  rfl
theorem make_eq {rows : List Str} {w : Nat} (hr : RowsOk rows w) (t : T) : fMake "Island" f_Island____init__ [.d (.tup (rows.map D.str))] t = .ok (.d (islD rows)) t := by
  unfold fMake
  rw [if_pos (show [Val.d (D.tup (List.map D.str rows))].all argOk = true from rfl), init_eq hr t.b]
  simp only [if_true]
  rfl
end K91
set_option Elab.async false
set_option linter.all false
set_option maxRecDepth 100000
set_option maxHeartbeats 2000000
namespace K91
open PySem PySem.Spec PyProof.Rows L2 En
theorem erase_perm {α : Type} : ∀ (l : List α) (q : Nat) (h : q < l.length), (l[q] :: l.eraseIdx q).Perm l
  | _ :: _, 0, _ => List.Perm.refl _
  | a :: l, q + 1, h => by
    simp only [List.getElem_cons_succ, List.eraseIdx_cons_succ]
    exact (List.Perm.swap ..).trans ((erase_perm l q (by simpa using h)).cons a)
end K91
set_option Elab.async false
set_option linter.all false
set_option maxRecDepth 100000
set_option maxHeartbeats 2000000
namespace K91
open PySem PySem.Spec PyProof.Rows L2 En
theorem foldl_flat {α β : Type} (f : α → List β) : ∀ (l : List α) (acc : List β), l.foldl (fun acc r => acc ++ f r) acc = acc ++ l.flatMap f
  | [], acc => by simp
  | a :: l, acc => by rw [List.foldl_cons, foldl_flat f l, List.flatMap_cons, List.append_assoc]
theorem cellsOf_flat (rows : List Str) (w : Nat) : cellsOf rows w = (List.range rows.length).flatMap (rowCells rows w) := by
  unfold cellsOf
  rw [foldl_flat]
  rfl
theorem cellsOf_mem {rows : List Str} {w : Nat} {p : Int × Int} : p ∈ cellsOf rows w ↔ ∃ r c : Nat, r < rows.length ∧ c < w ∧ signAt rows r c ≠ 126 ∧ p = ((r : Int), (c : Int)) := by
  rw [cellsOf_flat, List.mem_flatMap]
  constructor
  · rintro ⟨r, hr, hp⟩
    unfold rowCells at hp
    obtain ⟨c, hc, rfl⟩ := List.mem_map.mp hp
    obtain ⟨h1, h2⟩ := List.mem_filter.mp hc
    exact ⟨r, c, List.mem_range.mp hr, List.mem_range.mp h1, by simpa using h2, rfl⟩
  · rintro ⟨r, c, hr, hc, hs, rfl⟩
    exact ⟨r, List.mem_range.mpr hr, List.mem_map.mpr ⟨c, List.mem_filter.mpr ⟨List.mem_range.mpr hc, by simpa using hs⟩, rfl⟩⟩
theorem cellsOf_land {rows : List Str} {w : Nat} (hr : RowsOk rows w) {p : Int × Int} (h : p ∈ cellsOf rows w) : Land rows p := by
  obtain ⟨r, c, h1, h2, h3, rfl⟩ := cellsOf_mem.mp h
  have l : c < rows[r].cps.toList.length := by
    have : rows[r].cps.toList.length = w := hr.row _ (List.getElem_mem h1)
    omega
  refine ⟨by simp, by simp, rows[r], rows[r].cps.toList[c], ?_, ?_, ?_⟩
  · simp [h1]
  · simp only [Int.toNat_natCast]
    exact List.getElem?_eq_getElem l
  · unfold signAt at h3
    rw [List.getD_eq_getElem?_getD, List.getD_eq_getElem?_getD, List.getElem?_eq_getElem h1] at h3
    show rows[r].cps.toList[c] ≠ 126
    rw [show (some rows[r]).getD ⟨#[]⟩ = rows[r] from rfl, List.getElem?_eq_getElem l] at h3
    exact h3
theorem cellsOf_ne {rows : List Str} {w : Nat} (hr : RowsOk rows w) (h : HasLand rows) : 0 < (cellsOf rows w).length := by
  obtain ⟨x, hx, c, hc, hne⟩ := h
  obtain ⟨r, hr1⟩ := List.getElem?_of_mem hx
  obtain ⟨j, hj⟩ := List.getElem?_of_mem hc
  have l1 := (List.getElem?_eq_some_iff.mp hr1).1
  have l2 := (List.getElem?_eq_some_iff.mp hj).1
  have lw : x.cps.toList.length = w := hr.row x hx
  have : ((r : Int), (j : Int)) ∈ cellsOf rows w := cellsOf_mem.mpr ⟨r, j, l1, by omega, by
    unfold signAt
    rw [List.getD_eq_getElem?_getD, List.getD_eq_getElem?_getD, hr1]
    show (x.cps.toList[j]?).getD 0 ≠ 126
    rw [hj]
    exact hne, rfl⟩
  exact List.length_pos_of_mem this
theorem cellsOf_len {rows : List Str} {w : Nat} (hr : RowsOk rows w) : (cellsOf rows w).length ≤ 144 := by
  have h1 := fold_len rows w (List.range rows.length) []
  rw [List.length_range, List.length_nil] at h1
  have hm : rows.length * w ≤ 12 * 12 := Nat.mul_le_mul hr.len hr.w2
  unfold cellsOf
  omega
theorem w_sAsgT {fs : List Val → Rho → Option Rho} {n : Nat} {m : ME (List Val)} {ρ : Rho} {t : T} {N : Rho → T → Prop} {V : Val → T → Prop} : (sAsgT fs n m ρ t).sat N V = (m ρ t).sat fun vs t => if vs.length = n ∧ n ≤ lim then (oS (fs vs ρ) t).sat N V else False := by
  unfold sAsgT
  rw [sat_toS]
  congr 1
  funext vs t
  split <;> rfl
theorem ix_cellL {ps : List (Int × Int)} {q : Nat} (h : q < ps.length) (t : T) : fIx (.d (.lst (ps.map cellD))) (.d (.int (q : Int))) t = .ok (.d (cellD ps[q])) t := by
  rw [ixl_ok (by omega) (by rw [List.length_map]; omega), List.getD_eq_getElem?_getD, List.getElem?_map, Int.toNat_natCast, List.getElem?_eq_getElem h]
  rfl
theorem ix_cellT {ps : List (Int × Int)} {q : Nat} (h : q < ps.length) (t : T) : fIx (.d (.tup (ps.map cellD))) (.d (.int (q : Int))) t = .ok (.d (cellD ps[q])) t := by
  rw [ixt_ok (by omega) (by rw [List.length_map]; omega), List.getD_eq_getElem?_getD, List.getElem?_map, Int.toNat_natCast, List.getElem?_eq_getElem h]
  rfl
theorem ne_T0 (ps : List (Int × Int)) (t : T) : fNe (.d (.tup (ps.map cellD))) (.d (.tup [])) t = .ok (.d (.bl (!ps.isEmpty))) t := by
  rw [ne_of_val (val_cellsT ps t) (val_T0 t), eqv_T0]
  simp
theorem cut_take {α : Type} (f : α → D) (ds : List α) {k : Nat} (hk : k ≤ ds.length) : En.cut ((ds.map f).map Val.d) none (some (k : Int)) = ((ds.take k).map f).map Val.d := by
  unfold En.cut
  have e1 : ∀ n : Nat, HT.sIx n 0 none = 0 := fun _ => rfl
  have e2 : HT.sIx ((ds.map f).map Val.d).length ((ds.map f).map Val.d).length (some (k : Int)) = k := by
    rw [List.length_map, List.length_map]
    unfold HT.sIx
    simp only [Int.toNat_natCast]
    rw [if_neg (by omega)]
    omega
  rw [e1, e2]
  simp [List.map_take]
theorem sl_take {α : Type} (f : α → D) (ds : List α) {k : Nat} (hk : k ≤ ds.length) (t : T) : fSl (.d (.lst (ds.map f))) none (some (k : Int)) t = .ok (.d (.lst ((ds.take k).map f))) t := by
  show (match datas (En.cut ((ds.map f).map Val.d) none (some (k : Int))) with | some ds => _ | none => _) = _
  rw [cut_take f ds hk, datas_map]
theorem ne_ints0 (ns : List Int) (t : T) : fNe (.d (.lst (ns.map D.int))) (.d (.lst [])) t = .ok (.d (.bl (!ns.isEmpty))) t := by
  have hv : valPy (.d (.lst (ns.map D.int))) t = some (.list (ns.map PyData.int)) := val_of (by simp only [toPy, toPys_map D.int PyData.int (fun _ => rfl) ns]) (shaped_lst PyData.int ns 1 (by decide) (fun d hd => by
    simp [PyData.canLay0]) fun d _ => by simp [PyData.depth])
  rw [ne_of_val hv (val_L0 t), eqv_L0]
  simp
theorem put_last {pre : List Cell} {b : Box} {us vs : List Val} : putL pre.length vs ⟨pre ++ [.lst us], b⟩ = ⟨pre ++ [.lst vs], b⟩ := by
  unfold putL
  simp
theorem append_last {pre : List Cell} {b : Box} {us : List Val} {u : Val} (h : us.length < lim) : fAppend (.loc pre.length) [u] ⟨pre ++ [.lst us], b⟩ = .ok (.d .non) ⟨pre ++ [.lst (us ++ [u])], b⟩ := by
  unfold fAppend
  simp only [List.getElem?_append_right (Nat.le_refl _), Nat.sub_self, List.getElem?_cons_zero]
  rw [if_pos h, put_last]
theorem isLst_last {pre : List Cell} {b : Box} {us : List Val} : isLstB (.loc pre.length) ⟨pre ++ [.lst us], b⟩ = true := by
  unfold isLstB asList
  simp only [List.getElem?_append_right (Nat.le_refl _), Nat.sub_self, List.getElem?_cons_zero]
  rfl
end K91
set_option Elab.async false
set_option linter.all false
set_option maxRecDepth 100000
set_option maxHeartbeats 1000000
set_option autoImplicit false
namespace En
section
variable {α : Type} [DecidableEq α] {adj adj' : α → List α} {a b c v : α}
def Conn (adj : α → List α) (a b : α) : Prop := ∃ k, Reach adj a k b
theorem Conn.refl (a : α) : Conn adj a a := ⟨0, rfl⟩
theorem Conn.step (h : Conn adj a b) (hc : c ∈ adj b) : Conn adj a c := let ⟨k, h⟩ := h; ⟨k + 1, b, h, hc⟩
theorem Reach.comp {i : Nat} (h : Reach adj a i b) : ∀ (j : Nat) (c : α), Reach adj b j c → Reach adj a (i + j) c
  | 0, c, e => by cases e; exact h
  | j + 1, c, ⟨d, h1, h2⟩ => ⟨d, Reach.comp h j d h1, h2⟩
theorem Conn.trans (h : Conn adj a b) (h2 : Conn adj b c) : Conn adj a c := by
  obtain ⟨i, h⟩ := h
  obtain ⟨j, h2⟩ := h2
  exact ⟨i + j, h.comp j c h2⟩
theorem Reach.symm (hs : ∀ c d, c ∈ adj d → d ∈ adj c) : ∀ (k : Nat) (b : α), Reach adj a k b → Reach adj b k a
  | 0, b, e => by cases e; rfl
  | k + 1, b, ⟨d, h1, h2⟩ => by
    have h3 : Reach adj b 1 d := ⟨b, rfl, hs b d h2⟩
    have := h3.comp k a (Reach.symm hs k d h1)
    rwa [Nat.add_comm] at this
theorem Conn.symm (hs : ∀ c d, c ∈ adj d → d ∈ adj c) (h : Conn adj a b) : Conn adj b a := let ⟨k, h⟩ := h; ⟨k, Reach.symm hs k b h⟩
theorem IsDist.symm (hs : ∀ c d, c ∈ adj d → d ∈ adj c) {k : Nat} (h : IsDist adj a k b) : IsDist adj b k a := ⟨Reach.symm hs k b h.1, fun j hj z => h.2 j hj (Reach.symm hs j a z)⟩
theorem Reach.sub (h : ∀ c d, c ∈ adj d → c ∈ adj' d) : ∀ (k : Nat) (b : α), Reach adj a k b → Reach adj' a k b
  | 0, _, e => e
  | k + 1, b, ⟨d, h1, h2⟩ => ⟨d, Reach.sub h k d h1, h b d h2⟩
theorem Conn.sub (h : ∀ c d, c ∈ adj d → c ∈ adj' d) (x : Conn adj a b) : Conn adj' a b := let ⟨k, x⟩ := x; ⟨k, Reach.sub h k b x⟩
theorem Conn.congr (h : ∀ c d, c ∈ adj d ↔ c ∈ adj' d) : Conn adj a b ↔ Conn adj' a b := ⟨Conn.sub fun c d => (h c d).mp, Conn.sub fun c d => (h c d).mpr⟩
def offV (adj : α → List α) (v d : α) : List α := (adj d).filter fun c => !decide (c = v)
theorem offV_mem {d : α} : c ∈ offV adj v d ↔ c ∈ adj d ∧ c ≠ v := by
  unfold offV
  rw [List.mem_filter]
  simp
theorem offV_sub : Conn (offV adj v) a b → Conn adj a b := Conn.sub fun c d h => (offV_mem.mp h).1
theorem offV_far (hv : ¬ Conn adj a v) : ∀ (k : Nat) (b : α), Reach adj a k b → Reach (offV adj v) a k b
  | 0, _, e => e
  | k + 1, b, ⟨d, h1, h2⟩ => ⟨d, offV_far hv k d h1, offV_mem.mpr ⟨h2, fun e => hv (by rw [← e]; exact ⟨k + 1, d, h1, h2⟩)⟩⟩
def Walk (adj : α → List α) : α → List α → Prop
  | _, [] => True
  | c, d :: ds => c ∈ adj d ∧ Walk adj d ds
theorem Walk.conn : ∀ {ds : List α} {c a : α}, Walk adj c ds → (c :: ds).getLast? = some a → Conn adj a c
  | [], c, a, _, e => by
    have : c = a := by simpa using e
    rw [this]; exact Conn.refl a
  | d :: ds, c, a, ⟨h1, h2⟩, e => by
    have : Conn adj a d := Walk.conn h2 (by rw [List.getLast?_cons_cons] at e; exact e)
    exact this.step h1
theorem Walk.off : ∀ {ds : List α} {c : α}, Walk adj c ds → v ∉ c :: ds → Walk (offV adj v) c ds
  | [], _, _, _ => trivial
  | d :: ds, c, ⟨h1, h2⟩, h => ⟨offV_mem.mpr ⟨h1, fun e => h (by rw [e]; exact List.mem_cons_self ..)⟩, Walk.off h2 fun z => h (List.mem_cons_of_mem _ z)⟩
structure Leaders (adj : α → List α) (cells reps : List α) : Prop where
  sub : ∀ r ∈ reps, r ∈ cells
  apart : reps.Pairwise fun a b => ¬ Conn adj a b
  all : ∀ c ∈ cells, ∃ r ∈ reps, Conn adj r c
theorem Leaders.nil : Leaders adj [] [] := ⟨(fun _ h => by cases h), List.Pairwise.nil, (fun _ h => by cases h)⟩
theorem Leaders.old {pre reps : List α} (h : Leaders adj pre reps) (hc : ∃ r ∈ reps, Conn adj r c) : Leaders adj (pre ++ [c]) reps where
  sub := fun r hr => List.mem_append_left _ (h.sub r hr)
  apart := h.apart
  all := fun d hd => by
    rcases List.mem_append.mp hd with hd | hd
    · exact h.all d hd
    · rw [List.mem_singleton.mp hd]; exact hc
theorem Leaders.new {pre reps : List α} (h : Leaders adj pre reps) (hc : ∀ r ∈ reps, ¬ Conn adj r c) : Leaders adj (pre ++ [c]) (reps ++ [c]) where
  sub := fun r hr => by
    rcases List.mem_append.mp hr with hr | hr
    · exact List.mem_append_left _ (h.sub r hr)
    · exact List.mem_append_right _ hr
  apart := List.pairwise_append.mpr ⟨h.apart, List.pairwise_singleton .., fun r hr d hd => by rw [List.mem_singleton.mp hd]; exact hc r hr⟩
  all := fun d hd => by
    rcases List.mem_append.mp hd with hd | hd
    · obtain ⟨r, h1, h2⟩ := h.all d hd
      exact ⟨r, List.mem_append_left _ h1, h2⟩
    · rw [List.mem_singleton.mp hd]; exact ⟨c, by simp, Conn.refl c⟩
open Classical in
theorem pick_le (hs : ∀ c d, c ∈ adj d → d ∈ adj c) {cells reps S : List α} (h : Leaders adj cells reps) (hS : S.Pairwise fun a b => ¬ Conn adj a b) (hm : ∀ s ∈ S, s ∈ cells) : S.length ≤ reps.length := by
  have hc : ∀ s, s ∈ S → ∃ r, r ∈ reps ∧ Conn adj r s := fun s hs => let ⟨r, h1, h2⟩ := h.all s (hm s hs); ⟨r, h1, h2⟩
  let f : α → α := fun s => if hx : s ∈ S then (hc s hx).choose else s
  have hf : ∀ s ∈ S, f s ∈ reps ∧ Conn adj (f s) s := fun s hx => by
    have := (hc s hx).choose_spec
    show (if hx : s ∈ S then (hc s hx).choose else s) ∈ reps ∧ Conn adj (if hx : s ∈ S then (hc s hx).choose else s) s
    rw [dif_pos hx]
    exact this
  have hn : (S.map f).Nodup := by
    rw [List.Nodup, List.pairwise_map]
    refine List.Pairwise.imp_of_mem (fun {x y} hx hy hxy e => hxy ?_) hS
    have h1 := (hf x hx).2
    have h2 := (hf y hy).2
    rw [← e] at h2
    exact (h1.symm hs).trans h2
  have := nodup_le hn (l' := reps) (fun z hz => by
    obtain ⟨s, hx, rfl⟩ := List.mem_map.mp hz
    exact (hf s hx).1)
  rwa [List.length_map] at this
theorem more_regions (hs : ∀ c d, c ∈ adj d → d ∈ adj c) (hs' : ∀ c d, c ∈ adj' d → d ∈ adj' c) (he : ∀ c d, c ∈ adj' d → c ∈ offV adj v d) (hb : ∀ a b, a ≠ v → Conn (offV adj v) a b → Conn adj' a b) {cells cells' reps reps' : List α} (h : Leaders adj cells reps) (h' : Leaders adj' cells' reps') (hcl : ∀ c ∈ cells, c ≠ v → c ∈ cells')
    (ha : a ∈ cells) (hb2 : b ∈ cells) (hav : a ≠ v) (hbv : b ≠ v) (hab : Conn adj a b) (hn : ¬ Conn adj' a b) : reps.length < reps'.length := by
  have sub : ∀ x y, Conn adj' x y → Conn adj x y := fun x y z => offV_sub (v := v) (Conn.sub he z)
  obtain ⟨r0, hr0, c0⟩ := h.all a ha
  have cv : Conn adj a v := Classical.byContradiction fun z => hn (hb a b hav (let ⟨k, hk⟩ := hab; ⟨k, offV_far z k b hk⟩))
  have apart : ∀ x y, x ∈ reps → y ∈ reps → Conn adj x y → x = y := fun x y hx hy z => Classical.byContradiction fun ne => by
    have := h.apart
    have hsym : ∀ p q : α, ¬ Conn adj p q → ¬ Conn adj q p := fun p q n z => n (z.symm hs)
    have hw := (List.pairwise_iff_getElem.mp this)
    obtain ⟨i, hi, rfl⟩ := List.getElem_of_mem hx
    obtain ⟨j, hj, rfl⟩ := List.getElem_of_mem hy
    rcases Nat.lt_trichotomy i j with l | l | l
    · exact hw i j hi hj l z
    · subst l; exact ne rfl
    · exact hsym _ _ (hw j i hj hi l) z
  have ern : ∀ x ∈ reps.erase r0, x ∈ reps ∧ ¬ Conn adj a x := fun x hx => by
    have hm := List.mem_of_mem_erase hx
    refine ⟨hm, fun z => ?_⟩
    have e := apart r0 x hr0 hm (c0.trans z)
    subst e
    have nd : reps.Nodup := List.Pairwise.imp (fun {p q} n e => n (by rw [e]; exact Conn.refl q)) h.apart
    exact (nd.mem_erase_iff.mp hx).1 rfl
  have hS : (a :: b :: reps.erase r0).Pairwise fun a b => ¬ Conn adj' a b := by
    refine List.pairwise_cons.mpr ⟨fun x hx => ?_, List.pairwise_cons.mpr ⟨fun x hx z => (ern x hx).2 (hab.trans (sub _ _ z)), ?_⟩⟩
    · rcases List.mem_cons.mp hx with rfl | hx
      · exact hn
      · exact fun z => (ern x hx).2 (sub _ _ z)
    · exact List.Pairwise.imp (fun {p q} n z => n (sub _ _ z)) (h.apart.sublist (List.erase_sublist ..))
  have hm : ∀ s ∈ a :: b :: reps.erase r0, s ∈ cells' := fun s hx => by
    rcases List.mem_cons.mp hx with rfl | hx
    · exact hcl s ha hav
    rcases List.mem_cons.mp hx with rfl | hx
    · exact hcl s hb2 hbv
    · exact hcl s (h.sub s (ern s hx).1) fun e => (ern s hx).2 (by rw [e]; exact cv)
  have := pick_le hs' h' hS hm
  have l2 := List.length_erase_of_mem hr0
  have l3 := List.length_pos_of_mem hr0
  simp only [List.length_cons] at this
  omega
end
end En
set_option Elab.async false
set_option linter.all false
set_option maxRecDepth 100000
set_option maxHeartbeats 2000000
namespace K91
open PySem PySem.Spec PyProof.Rows L2 En
theorem around_symm {c d : Pt} (h : c ∈ around d) : d ∈ around c := by
  obtain ⟨c1, c2⟩ := c
  obtain ⟨d1, d2⟩ := d
  simp only [around, List.mem_cons, Prod.mk.injEq, List.not_mem_nil, or_false] at h ⊢
  omega
def gr (L : Pt → Bool) (d : Pt) : List Pt := if L d then (around d).filter L else []
theorem gr_mem {L : Pt → Bool} {c d : Pt} : c ∈ gr L d ↔ L d = true ∧ c ∈ around d ∧ L c = true := by
  unfold gr
  split
  · rename_i h
    rw [List.mem_filter]
    simp [h]
  · rename_i h
    simp [h]
theorem gr_symm {L : Pt → Bool} : ∀ c d, c ∈ gr L d → d ∈ gr L c := fun c d h => by
  obtain ⟨h1, h2, h3⟩ := gr_mem.mp h
  exact gr_mem.mpr ⟨h3, around_symm h2, h1⟩
theorem reach_land {L : Pt → Bool} {a : Pt} (ha : L a = true) : ∀ (k : Nat) (c : Pt), Reach (gr L) a k c → L c = true
  | 0, c, e => by cases e; exact ha
  | k + 1, c, ⟨d, _, h2⟩ => (gr_mem.mp h2).2.2
theorem reach_gr {L : Pt → Bool} {a : Pt} (ha : L a = true) : ∀ (k : Nat) (c : Pt), Reach (fun d => (around d).filter L) a k c ↔ Reach (gr L) a k c
  | 0, c => Iff.rfl
  | k + 1, c => by
    constructor
    · rintro ⟨d, h1, h2⟩
      have h3 := (reach_gr ha k d).mp h1
      obtain ⟨h4, h5⟩ := List.mem_filter.mp h2
      exact ⟨d, h3, gr_mem.mpr ⟨reach_land ha k d h3, h4, h5⟩⟩
    · rintro ⟨d, h1, h2⟩
      obtain ⟨_, h4, h5⟩ := gr_mem.mp h2
      exact ⟨d, (reach_gr ha k d).mpr h1, List.mem_filter.mpr ⟨h4, h5⟩⟩
theorem dist_gr {L : Pt → Bool} {adj : Pt → List Pt} (he : ∀ c d, c ∈ adj d ↔ c ∈ (around d).filter L) {a : Pt} (ha : L a = true) {k : Nat} {c : Pt} : IsDist adj a k c ↔ IsDist (gr L) a k c := by
  rw [IsDist.congr he]
  unfold IsDist
  rw [reach_gr ha k c]
  constructor
  · rintro ⟨h1, h2⟩; exact ⟨h1, fun j hj z => h2 j hj ((reach_gr ha j c).mpr z)⟩
  · rintro ⟨h1, h2⟩; exact ⟨h1, fun j hj z => h2 j hj ((reach_gr ha j c).mp z)⟩
theorem dists_gr {L : Pt → Bool} {adj : Pt → List Pt} (he : ∀ c d, c ∈ adj d ↔ c ∈ (around d).filter L) {a : Pt} (ha : L a = true) {f : List (Pt × Int)} (h : Dists adj a f) : Dists (gr L) a f := ⟨fun c k => (dist_gr he ha).symm.trans (h.1 c k), h.2⟩
open Classical in
noncomputable def dst (adj : Pt → List Pt) (a c : Pt) : Option Nat := if h : ∃ k, IsDist adj a k c then some h.choose else none
theorem dst_some {adj : Pt → List Pt} {a c : Pt} {k : Nat} : dst adj a c = some k ↔ IsDist adj a k c := by
  unfold dst
  constructor
  · intro h
    split at h
    · rename_i hx
      cases h
      exact hx.choose_spec
    · cases h
  · intro h
    have hx : ∃ k, IsDist adj a k c := ⟨k, h⟩
    rw [dif_pos hx]
    exact congrArg some (hx.choose_spec.uniq h)
theorem dst_conn {adj : Pt → List Pt} {a c : Pt} : (dst adj a c).isSome = true ↔ Conn adj a c := by
  constructor
  · intro h
    obtain ⟨k, e⟩ := Option.isSome_iff_exists.mp h
    exact ⟨k, (dst_some.mp e).1⟩
  · rintro ⟨k, h⟩
    obtain ⟨j, _, hj⟩ := Reach.least k c h
    rw [dst_some.mpr hj]
    rfl
theorem dst_look {adj : Pt → List Pt} {a : Pt} {f : List (Pt × Int)} (h : Dists adj a f) (c : Pt) : lookK f c = (dst adj a c).map fun k => (k : Int) := by
  cases e : lookK f c with
  | some v =>
    have h0 := h.2 c v e
    obtain ⟨k, rfl⟩ : ∃ k : Nat, v = k := ⟨v.toNat, by omega⟩
    rw [dst_some.mpr ((h.1 c k).mpr e)]
    rfl
  | none =>
    cases e' : dst adj a c with
    | none => rfl
    | some k =>
      have := (h.1 c k).mp (dst_some.mp e')
      rw [e] at this
      cases this
theorem dst_symm {L : Pt → Bool} (a c : Pt) : dst (gr L) a c = dst (gr L) c a := by
  cases e : dst (gr L) a c with
  | some k => exact (dst_some.mpr ((dst_some.mp e).symm gr_symm)).symm
  | none =>
    cases e' : dst (gr L) c a with
    | none => rfl
    | some k =>
      have := dst_some.mpr ((dst_some.mp e').symm gr_symm)
      rw [e] at this
      cases this
theorem land_iff {rows : List Str} {w : Nat} {c : Pt} : landB rows w c = true ↔ c ∈ cellsOf rows w := by
  rw [cellsOf_mem]
  unfold landB inB'
  obtain ⟨c1, c2⟩ := c
  simp only [Bool.and_eq_true, decide_eq_true_eq, Bool.not_eq_true', beq_eq_false_iff_ne]
  constructor
  · rintro ⟨⟨⟨h1, h2⟩, h3, h4⟩, h5⟩
    exact ⟨c1.toNat, c2.toNat, by omega, by omega, h5, by rw [Int.toNat_of_nonneg h1, Int.toNat_of_nonneg h3]⟩
  · rintro ⟨r, c, h1, h2, h3, e⟩
    cases e
    exact ⟨⟨⟨by omega, by omega⟩, by omega, by omega⟩, by simpa using h3⟩
abbrev G (rows : List Str) (w : Nat) : Pt → List Pt := gr (landB rows w)
theorem adjP_mem {rows : List Str} {w : Nat} (c d : Pt) : c ∈ adjP rows w d ↔ c ∈ (around d).filter (landB rows w) := adj_same c d
theorem adjP_cells {rows : List Str} {w : Nat} : ∀ d ∈ cellsOf rows w, ∀ c ∈ adjP rows w d, c ∈ cellsOf rows w := fun d _ c h => land_iff.mp (List.mem_filter.mp ((adjP_mem c d).mp h)).2
theorem adjL_cells {rows : List Str} {w : Nat} : ∀ d ∈ cellsOf rows w, ∀ c ∈ adjL rows w d, c ∈ cellsOf rows w := fun d _ c h => land_iff.mp (List.mem_filter.mp h).2
structure FarOk (rows : List Str) (w : Nat) (c : Pt) (f : List (Pt × Int)) : Prop where
  look : ∀ d, lookK f d = (dst (G rows w) c d).map fun k => (k : Int)
  nodup : (f.map (·.1)).Nodup
  sub : ∀ d ∈ f.map (·.1), d ∈ cellsOf rows w
theorem dist_call {rows : List Str} {w : Nat} (hr : RowsOk rows w) {c : Pt} (hc : c ∈ cellsOf rows w) (t : T) : ∃ f, fCall f_distances [.d (islD rows), .d (cellD c)] t = .ok (.d (.dT (encFD f))) t ∧ FarOk rows w c f := by
  have hl := cellsOf_len hr
  obtain ⟨f, st, e, hd, h2, h3⟩ := distances_eq hr (by omega) adjP_cells hc t.b
  exact ⟨f, call_eq' rfl e, dst_look (dists_gr adjP_mem (land_iff.mpr hc) hd), h2, h3⟩
theorem far_call {rows : List Str} {w : Nat} (hr : RowsOk rows w) {c : Pt} (hc : c ∈ cellsOf rows w) (t : T) : ∃ f, fCall f__law_far [.d (.tup (rows.map D.str)), .d (cellD c)] t = .ok (.d (.dT (encFD f))) t ∧ FarOk rows w c f := by
  have hl := cellsOf_len hr
  obtain ⟨f, st, e, hd, h2, h3⟩ := law_far_eq hr (by omega) adjL_cells hc t.b
  exact ⟨f, call_eq' rfl e, dst_look (dists_gr (fun _ _ => Iff.rfl) (land_iff.mpr hc) hd), h2, h3⟩
theorem encFD_V (f : List (Pt × Int)) : ((encFD f).map fun p => (p.1, Val.d p.2)) = encF f := by
  unfold encFD encF
  rw [List.map_map]
  rfl
theorem getFD (f : List (Pt × Int)) (c : Pt) (t : T) : dGet? (.d (.dT (encFD f))) (.d (cellD c)) t = some ((lookK f c).map fun v => Val.d (.int v)) := by
  unfold dGet?
  simp only [keyT_cell, Option.map_some, encFD_V, encF_look]
theorem inFD {rows : List Str} {w : Nat} {a : Pt} {f : List (Pt × Int)} (h : FarOk rows w a f) (c : Pt) (t : T) : fDIn (.d (cellD c)) (.d (.dT (encFD f))) t = .ok (.d (.bl (dst (G rows w) a c).isSome)) t := by
  unfold fDIn
  rw [getFD, h.look]
  cases dst (G rows w) a c <;> rfl
theorem notInFD {rows : List Str} {w : Nat} {a : Pt} {f : List (Pt × Int)} (h : FarOk rows w a f) (c : Pt) (t : T) : fDNotIn (.d (cellD c)) (.d (.dT (encFD f))) t = .ok (.d (.bl (!(dst (G rows w) a c).isSome))) t := by
  unfold fDNotIn
  rw [getFD, h.look]
  cases dst (G rows w) a c <;> rfl
theorem lookFD {rows : List Str} {w : Nat} {a : Pt} {f : List (Pt × Int)} (h : FarOk rows w a f) {c : Pt} {k : Nat} (e : dst (G rows w) a c = some k) (t : T) : fDGet (.d (.dT (encFD f))) (.d (cellD c)) t = .ok (.d (.int (k : Int))) t := by
  unfold fDGet
  rw [getFD, h.look, e]
  rfl
def optD : Option Nat → D
  | none => .non
  | some k => .int (k : Int)
theorem get2FD {rows : List Str} {w : Nat} {a : Pt} {f : List (Pt × Int)} (h : FarOk rows w a f) (c : Pt) {ρ : Rho} {mo mk : ME Val} {t : T} (h1 : mo ρ t = .ok (.d (.dT (encFD f))) t) (h2 : mk ρ t = .ok (.d (cellD c)) t) : mDGet2 mo mk (mC .non) ρ t = .ok (.d (optD (dst (G rows w) a c))) t := by
  unfold mDGet2
  have hd : isDicB (.d (.dT (encFD f))) t = true := rfl
  simp only [h1, R.bind_ok, hd, if_true, h2, mC, getFD, h.look]
  cases dst (G rows w) a c <;> rfl
theorem inO_eqN {rows : List Str} {w : Nat} (hr : RowsOk rows w) (c : Int × Int) (t : T) : fInO "Island" f_Island____contains__ true (.d (cellD c)) (.d (islD rows)) t = .ok (.d (.bl (!landB rows w c))) t := by
  have h := call_eq (t := t) (vs := [.d (islD rows), .d (cellD c)]) rfl (contains_all hr c t.b)
  unfold fInO
  simp only [islD, clsOf] at h ⊢
  simp [h]
  cases landB rows w c <;> rfl
theorem validate_call {rows : List Str} {w : Nat} (hr : RowsOk rows w) {c : Pt} (hc : c ∈ cellsOf rows w) (t : T) : fCall f_validate_cell [.d (islD rows), .d (cellD c)] t = .ok (.d .non) t := by
  refine call_eq rfl ?_
  unfold f_validate_cell runF runG m_validate_cell
  simp only [List.map_cons, List.map_nil, List.length_cons, List.length_nil, List.replicate, List.cons_append, List.nil_append, List.append_nil, sSeq, sIf, sRet, sNil, sSet, sDrop, m2, m1, mL, mCons, mNil, mC, mVar, mIf, List.getElem?_cons_zero, List.getElem?_cons_succ, List.set_cons_zero, List.set_cons_succ, R.bind_ok, R.toS_ok, Nat.reduceAdd, Nat.reduceSub, Nat.zero_add, En.eq_cell, En.asB_ok, En.eq_int, En.lt_ok, En.le_ok, En.sub_ok, En.add_ok, En.abs_ok, En.cell_0, En.cell_1, decide_true, decide_false, Bool.false_eq_true, if_true, if_false, Bool.not_true, Bool.not_false, inO_eqN hr, land_iff.mpr hc]
end K91
set_option Elab.async false
set_option linter.all false
set_option maxRecDepth 100000
set_option maxHeartbeats 1000000
set_option autoImplicit false
namespace En
open PySem PySem.Spec PyProof.Rows L2
def leC (p q : Int × Int) : Prop := p.1 < q.1 ∨ (p.1 = q.1 ∧ p.2 ≤ q.2)
def ltC (p q : Int × Int) : Prop := p.1 < q.1 ∨ (p.1 = q.1 ∧ p.2 < q.2)
theorem leC_cases {p q : Int × Int} (h : leC p q) : p = q ∨ ltC p q := by
  rcases h with h | ⟨h1, h2⟩
  · exact .inr (.inl h)
  · by_cases e : p.2 = q.2
    · exact .inl (Prod.ext h1 e)
    · exact .inr (.inr ⟨h1, by omega⟩)
def lexC : List (Int × Int) → List (Int × Int) → Prop
  | a :: as, b :: bs => ltC a b ∨ (a = b ∧ lexC as bs)
  | _, _ => False
section
variable (d : (Int × Int) → (Int × Int) → Int) (hv : (Int × Int) → Int)
def wsum (l : List (Int × Int)) : Int := (l.map hv).sum
def cost : (Int × Int) → List (Int × Int) → Int
  | _, [] => 0
  | c, g :: o => d c g * wsum hv (g :: o) + cost g o
def restW (l : List (Int × Int)) (g : Int × Int) : List (Int × Int) := l.filter fun x => !decide (x = g)
def leastN : Nat → (Int × Int) → List (Int × Int) → Int
  | 0, _, _ => 0
  | n + 1, c, l => if l = [] then 0 else minL (l.map fun g => d c g * wsum hv l + leastN n g (restW l g))
def leastW (c : Int × Int) (l : List (Int × Int)) : Int := leastN d hv l.length c l
def totW (c : Int × Int) (l : List (Int × Int)) (g : Int × Int) : Int := d c g * wsum hv l + leastW d hv g (restW l g)
theorem restW_perm {l : List (Int × Int)} {g : Int × Int} (hn : l.Nodup) : restW l g = l.erase g := by
  unfold restW
  rw [List.Nodup.erase_eq_filter hn]
  refine List.filter_congr fun x _ => ?_
  by_cases h : x = g <;> simp [h]
theorem restW_nodup {l : List (Int × Int)} {g : Int × Int} (hn : l.Nodup) : (restW l g).Nodup := List.Nodup.sublist List.filter_sublist hn
theorem restW_mem {l : List (Int × Int)} {g x : Int × Int} : x ∈ restW l g ↔ x ∈ l ∧ x ≠ g := by
  unfold restW
  rw [List.mem_filter]
  simp
theorem restW_len {l : List (Int × Int)} {g : Int × Int} (hn : l.Nodup) (hg : g ∈ l) : (restW l g).length = l.length - 1 := by
  rw [restW_perm hn, List.length_erase_of_mem hg]
theorem leastW_nil (c : Int × Int) : leastW d hv c [] = 0 := rfl
theorem leastW_eq {l : List (Int × Int)} (hn : l.Nodup) (hl : l ≠ []) (c : Int × Int) : leastW d hv c l = minL (l.map (totW d hv c l)) := by
  unfold leastW
  cases e : l.length with
  | zero => exact absurd (List.length_eq_zero_iff.mp e) hl
  | succ n =>
    rw [leastN, if_neg hl]
    congr 1
    refine List.map_congr_left fun g hg => ?_
    unfold totW leastW
    rw [restW_len hn hg, e]
    rfl
theorem minL_le {ns : List Int} {x : Int} (h : x ∈ ns) : minL ns ≤ x := by
  cases ns with
  | nil => cases h
  | cons n ns => exact (minL_spec (n := n) (ns := ns)).2 x h
theorem minL_mem {ns : List Int} (h : ns ≠ []) : minL ns ∈ ns := by
  cases ns with
  | nil => exact absurd rfl h
  | cons n ns => exact (minL_spec (n := n) (ns := ns)).1
theorem leastW_tot {l : List (Int × Int)} (hn : l.Nodup) {g : Int × Int} (hg : g ∈ l) (c : Int × Int) : leastW d hv c l ≤ totW d hv c l g := by
  rw [leastW_eq d hv hn (fun z => by rw [z] at hg; cases hg)]
  exact minL_le (List.mem_map.mpr ⟨g, hg, rfl⟩)
theorem wsum_perm {l o : List (Int × Int)} (h : o.Perm l) : wsum hv o = wsum hv l := by
  unfold wsum
  induction h with
  | nil => rfl
  | cons x _ ih => simp [ih]
  | swap x y l => simp only [List.map_cons, List.sum_cons]; omega
  | trans _ _ h1 h2 => exact h1.trans h2
theorem perm_rest {l o : List (Int × Int)} {g : Int × Int} (hn : l.Nodup) (h : (g :: o).Perm l) : o.Perm (restW l g) := by
  rw [restW_perm hn]
  have := h.erase g
  rwa [List.erase_cons_head] at this
theorem leastW_le : ∀ (o l : List (Int × Int)) (c : Int × Int), o.Perm l → l.Nodup → leastW d hv c l ≤ cost d hv c o
  | [], l, c, h, hn => by
    rw [h.symm.eq_nil]
    exact Int.le_refl _
  | g :: o, l, c, h, hn => by
    have hg : g ∈ l := h.mem_iff.mp (List.mem_cons_self ..)
    have h1 := leastW_tot d hv hn hg c
    have h2 := leastW_le o (restW l g) g (perm_rest hn h) (restW_nodup hn)
    unfold cost
    unfold totW at h1
    rw [wsum_perm hv h]
    omega
def pickW (c : Int × Int) (l : List (Int × Int)) : Option (Int × Int) := (l.filter fun g => decide (totW d hv c l g = leastW d hv c l)).head?
def walkN : Nat → (Int × Int) → List (Int × Int) → List (Int × Int)
  | 0, _, _ => []
  | n + 1, c, l => match pickW d hv c l with
    | none => []
    | some g => g :: walkN n g (restW l g)
def walkW (c : Int × Int) (l : List (Int × Int)) : List (Int × Int) := walkN d hv l.length c l
theorem pickW_some {l : List (Int × Int)} (hn : l.Nodup) (hl : l ≠ []) (c : Int × Int) : ∃ g, pickW d hv c l = some g ∧ g ∈ l ∧ totW d hv c l g = leastW d hv c l := by
  have h1 : minL (l.map (totW d hv c l)) ∈ l.map (totW d hv c l) := minL_mem (by simpa using hl)
  rw [← leastW_eq d hv hn hl] at h1
  obtain ⟨g, hg, eg⟩ := List.mem_map.mp h1
  have hm : g ∈ l.filter fun g => decide (totW d hv c l g = leastW d hv c l) := List.mem_filter.mpr ⟨hg, decide_eq_true eg⟩
  unfold pickW
  cases hf : l.filter fun g => decide (totW d hv c l g = leastW d hv c l) with
  | nil => rw [hf] at hm; cases hm
  | cons x xs =>
    have hx : x ∈ l.filter fun g => decide (totW d hv c l g = leastW d hv c l) := by rw [hf]; exact List.mem_cons_self ..
    obtain ⟨h2, h3⟩ := List.mem_filter.mp hx
    exact ⟨x, rfl, h2, of_decide_eq_true h3⟩
theorem walkW_cons {l : List (Int × Int)} (hn : l.Nodup) {g c : Int × Int} (hg : pickW d hv c l = some g) (hm : g ∈ l) : walkW d hv c l = g :: walkW d hv g (restW l g) := by
  unfold walkW
  have := restW_len hn hm
  cases e : l.length with
  | zero =>
    rw [List.length_eq_zero_iff.mp e] at hm
    cases hm
  | succ n =>
    rw [walkN, hg]
    show g :: walkN d hv n g (restW l g) = _
    rw [this, e]
    rfl
theorem walkW_ok : ∀ (n : Nat) (l : List (Int × Int)) (c : Int × Int), l.length = n → l.Nodup → (walkW d hv c l).Perm l ∧ cost d hv c (walkW d hv c l) = leastW d hv c l
  | 0, l, c, e, hn => by
    rw [List.length_eq_zero_iff.mp e]
    exact ⟨List.Perm.refl _, rfl⟩
  | n + 1, l, c, e, hn => by
    have hl : l ≠ [] := fun z => by rw [z] at e; cases e
    obtain ⟨g, hp, hg, ht⟩ := pickW_some d hv hn hl c
    obtain ⟨h1, h2⟩ := walkW_ok n (restW l g) g (by rw [restW_len hn hg]; omega) (restW_nodup hn)
    rw [walkW_cons d hv hn hp hg]
    have hp2 : (g :: walkW d hv g (restW l g)).Perm l := by
      rw [restW_perm hn] at h1 ⊢
      exact (h1.cons g).trans (List.perm_cons_erase hg).symm
    refine ⟨hp2, ?_⟩
    unfold cost
    rw [h2, wsum_perm hv hp2]
    exact ht
theorem walkW_min : ∀ (n : Nat) (l p : List (Int × Int)) (c : Int × Int), l.length = n → l.Nodup → l.Pairwise leC → p.Perm l → cost d hv c p = leastW d hv c l → p = walkW d hv c l ∨ lexC (walkW d hv c l) p
  | 0, l, p, c, e, hn, hs, hp, hc => by
    have := List.length_eq_zero_iff.mp e
    subst this
    rw [hp.eq_nil]
    exact .inl rfl
  | n + 1, l, p, c, e, hn, hs, hp, hc => by
    cases p with
    | nil => rw [← hp.length_eq] at e; cases e
    | cons h p =>
      have hl : l ≠ [] := fun z => by rw [z] at e; cases e
      obtain ⟨g, hpk, hg, ht⟩ := pickW_some d hv hn hl c
      have hh : h ∈ l := hp.mem_iff.mp (List.mem_cons_self ..)
      have h1 := leastW_tot d hv hn hh c
      have h2 := leastW_le d hv p (restW l h) h (perm_rest hn hp) (restW_nodup hn)
      have hth : totW d hv c l h = leastW d hv c l ∧ cost d hv h p = leastW d hv h (restW l h) := by
        unfold cost at hc
        rw [wsum_perm hv hp] at hc
        unfold totW at h1 ⊢
        omega
      have hmem : h ∈ l.filter fun g => decide (totW d hv c l g = leastW d hv c l) := List.mem_filter.mpr ⟨hh, decide_eq_true hth.1⟩
      have hle : leC g h := by
        unfold pickW at hpk
        cases hf : l.filter fun g => decide (totW d hv c l g = leastW d hv c l) with
        | nil => rw [hf] at hmem; cases hmem
        | cons x xs =>
          rw [hf] at hpk hmem
          have hx : x = g := by simpa using hpk
          subst hx
          have hs' : (x :: xs).Pairwise leC := by rw [← hf]; exact hs.sublist List.filter_sublist
          rcases List.mem_cons.mp hmem with rfl | hm
          · exact .inr ⟨rfl, Int.le_refl _⟩
          · exact (List.pairwise_cons.mp hs').1 h hm
      rw [walkW_cons d hv hn hpk hg]
      rcases leC_cases hle with rfl | hlt
      · rcases walkW_min n (restW l g) p g (by rw [restW_len hn hg]; omega) (restW_nodup hn) (hs.sublist List.filter_sublist) (perm_rest hn hp) hth.2 with e1 | e1
        · exact .inl (by rw [e1])
        · exact .inr (.inr ⟨rfl, e1⟩)
      · exact .inr (.inl hlt)
def runW : (Int × Int) → Int → Int → List (Int × Int) → Int
  | _, _, t, [] => t
  | c, p, t, g :: o => runW g (p + d c g) (t + (p + d c g) * hv g) o
theorem runW_eq : ∀ (o : List (Int × Int)) (c : Int × Int) (p t : Int), runW d hv c p t o = t + p * wsum hv o + cost d hv c o
  | [], c, p, t => by simp [runW, cost, wsum]
  | g :: o, c, p, t => by
    have e : wsum hv (g :: o) = hv g + wsum hv o := by simp [wsum]
    rw [runW, runW_eq o, cost, e]
    simp only [Int.mul_add, Int.add_mul]
    omega
end
end En
set_option Elab.async false
set_option linter.all false
set_option maxRecDepth 100000
set_option maxHeartbeats 4000000
namespace K91
open PySem PySem.Spec PyProof.Rows L2 En
theorem put_mid {pre post : List Cell} {b : Box} {us vs : List Val} : putL pre.length vs ⟨pre ++ .lst us :: post, b⟩ = ⟨pre ++ .lst vs :: post, b⟩ := by
  unfold putL
  simp
theorem append_mid {pre post : List Cell} {b : Box} {us : List Val} {u : Val} (h : us.length < lim) : fAppend (.loc pre.length) [u] ⟨pre ++ .lst us :: post, b⟩ = .ok (.d .non) ⟨pre ++ .lst (us ++ [u]) :: post, b⟩ := by
  have e : (⟨pre ++ .lst us :: post, b⟩ : T).st[pre.length]? = some (.lst us) := by simp
  unfold fAppend
  simp only [e, h, if_true, put_mid]
theorem isLst_mid {pre post : List Cell} {b : Box} {us : List Val} : isLstB (.loc pre.length) ⟨pre ++ .lst us :: post, b⟩ = true := by
  have e : (⟨pre ++ .lst us :: post, b⟩ : T).st[pre.length]? = some (.lst us) := by simp
  unfold isLstB asList
  simp only [e]
  rfl
theorem dead_mid {pre post : List Cell} {ds : List D} {b : Box} : fFreeze (.loc pre.length) ⟨pre ++ .lst (ds.map Val.d) :: post, b⟩ = .ok (.d (.lst ds)) ⟨pre ++ .dead :: post, b⟩ := by
  have e : (⟨pre ++ .lst (ds.map Val.d) :: post, b⟩ : T).st[pre.length]? = some (.lst (ds.map Val.d)) := by simp
  unfold fFreeze
  simp only [e, datas_map]
  simp
def kW (c : Pt) (l : List Pt) : NestedKey := .tup [kC c, keyC l]
theorem kW_inj {c c' : Pt} {l l' : List Pt} (h : kW c l = kW c' l') : c = c' ∧ l = l' := by
  unfold kW at h
  injection h with h
  injection h with h1 h2
  injection h2 with h2 _
  exact ⟨kC_inj _ _ h1, keyC_inj h2⟩
theorem keyT_W (c : Pt) (l : List Pt) : keyT (.d (.tup [cellD c, .tup (l.map cellD)])) = some (kW c l) := by
  have e : toKey (.tup [cellD c, .tup (l.map cellD)]) = some (kW c l) := by
    simp only [toKey, toKeys, cellD, toKeys_cells]
    rfl
  have d : (kW c l).depth ≤ 8 := by
    have := depthAll_cells l
    unfold kW keyC kC
    simp only [NestedKey.depth, NestedKey.depthAll]
    omega
  unfold keyT
  simp only [e, d, if_true]
def encTb (tbs : List (Pt × List (Pt × Int))) : List (NestedKey × D) := tbs.map fun p => (kC p.1, D.dT (encFD p.2))
theorem getTb (tbs : List (Pt × List (Pt × Int))) (c : Pt) (t : T) : dGet? (.d (.dT (encTb tbs))) (.d (cellD c)) t = some ((lookK tbs c).map fun f => Val.d (.dT (encFD f))) := by
  unfold dGet?
  have e : ((encTb tbs).map fun p => (p.1, Val.d p.2)) = tbs.map fun p => (kC p.1, Val.d (.dT (encFD p.2))) := by
    unfold encTb
    rw [List.map_map]
    rfl
  simp only [keyT_cell, Option.map_some, e]
  rw [look_enc kC kC_inj (fun f => Val.d (.dT (encFD f))) tbs c]
theorem lookTb {tbs : List (Pt × List (Pt × Int))} {c : Pt} {f : List (Pt × Int)} (h : lookK tbs c = some f) (t : T) : fDGet (.d (.dT (encTb tbs))) (.d (cellD c)) t = .ok (.d (.dT (encFD f))) t := by
  unfold fDGet
  rw [getTb, h]
  rfl
theorem lookInt {f : List (Pt × Int)} {c : Pt} {v : Int} (h : lookK f c = some v) (t : T) : fDGet (.d (.dT (encFD f))) (.d (cellD c)) t = .ok (.d (.int v)) t := by
  unfold fDGet
  rw [getFD, h]
  rfl
def wtF (hvs : List (Pt × Int)) (tbs : List (Pt × List (Pt × Int))) : List (Str × Val) := [("heavy", .d (.dT (encFD hvs))), ("tables", .d (.dT (encTb tbs))), ("known", .loc 1)]
def WP0 (hvs : List (Pt × Int)) (tbs : List (Pt × List (Pt × Int))) (kvs : List (NestedKey × Val)) (more : List Cell) : List Cell := .ins "Waits" (wtF hvs tbs) :: .dT kvs :: more
section
variable {hvs : List (Pt × Int)} {tbs : List (Pt × List (Pt × Int))} {kvs : List (NestedKey × Val)} {more : List Cell} {b : Box}
theorem fldWS {f : Str} {v : Val} (h : (wtF hvs tbs).lookup f = some v) : fFld ["Waits"] f (.loc 0) ⟨WP0 hvs tbs kvs more, b⟩ = .ok v ⟨WP0 hvs tbs kvs more, b⟩ := by
  unfold fFld
  have e : fldOf f (.loc 0) ⟨WP0 hvs tbs kvs more, b⟩ = some (("Waits" : Str), v) := by
    show ((wtF hvs tbs).lookup f).map (fun u => (("Waits" : Str), u)) = _
    rw [h]
    rfl
  rw [e]
  have h2 : [("Waits" : Str)].contains ("Waits" : Str) = true := by decide
  simp only [h2, if_true]
theorem fld_known : fFld ["Waits"] "known" (.loc 0) ⟨WP0 hvs tbs kvs more, b⟩ = .ok (.loc 1) ⟨WP0 hvs tbs kvs more, b⟩ := fldWS (by
  unfold wtF
  rw [List.lookup_cons, show (("known" : Str) == ("heavy" : Str)) = false from by decide +kernel]
  show List.lookup _ _ = _
  rw [List.lookup_cons, show (("known" : Str) == ("tables" : Str)) = false from by decide +kernel]
  show List.lookup _ _ = _
  rw [List.lookup_cons, show (("known" : Str) == ("known" : Str)) = true from by decide +kernel])
theorem fld_heavy : fFld ["Waits"] "heavy" (.loc 0) ⟨WP0 hvs tbs kvs more, b⟩ = .ok (.d (.dT (encFD hvs))) ⟨WP0 hvs tbs kvs more, b⟩ := fldWS (by
  unfold wtF
  rw [List.lookup_cons, show (("heavy" : Str) == ("heavy" : Str)) = true from by decide +kernel])
theorem fld_tables : fFld ["Waits"] "tables" (.loc 0) ⟨WP0 hvs tbs kvs more, b⟩ = .ok (.d (.dT (encTb tbs))) ⟨WP0 hvs tbs kvs more, b⟩ := fldWS (by
  unfold wtF
  rw [List.lookup_cons, show (("tables" : Str) == ("heavy" : Str)) = false from by decide +kernel]
  show List.lookup _ _ = _
  rw [List.lookup_cons, show (("tables" : Str) == ("tables" : Str)) = true from by decide +kernel])
theorem no_least : (wtF hvs tbs).lookup ("least" : Str) = none := by
  unfold wtF
  rw [List.lookup_cons, show (("least" : Str) == ("heavy" : Str)) = false from by decide +kernel]
  show List.lookup _ _ = _
  rw [List.lookup_cons, show (("least" : Str) == ("tables" : Str)) = false from by decide +kernel]
  show List.lookup _ _ = _
  rw [List.lookup_cons, show (("least" : Str) == ("known" : Str)) = false from by decide +kernel]
  rfl
theorem no_totals : (wtF hvs tbs).lookup ("totals" : Str) = none := by
  unfold wtF
  rw [List.lookup_cons, show (("totals" : Str) == ("heavy" : Str)) = false from by decide +kernel]
  show List.lookup _ _ = _
  rw [List.lookup_cons, show (("totals" : Str) == ("tables" : Str)) = false from by decide +kernel]
  show List.lookup _ _ = _
  rw [List.lookup_cons, show (("totals" : Str) == ("known" : Str)) = false from by decide +kernel]
  rfl
theorem w_methW {m : Str} {f : MG} {i : Nat} {ma : ME (List Val)} {ρ : Rho} {Q : Val → T → Prop} (hm : (wtF hvs tbs).lookup m = none) (h0 : ρ[i]? = some (some (.loc 0))) : (mMethG "Waits" m f (mVar i) ma ρ ⟨WP0 hvs tbs kvs more, b⟩).sat Q = (ma ρ ⟨WP0 hvs tbs kvs more, b⟩).sat fun vs t => (f (.loc 0 :: vs) t).sat Q := by
  unfold mMethG
  rw [mVar_eq h0, R.bind_ok]
  have e : (⟨WP0 hvs tbs kvs more, b⟩ : T).st[0]? = some (.ins "Waits" (wtF hvs tbs)) := rfl
  simp only [e, hm, and_self, if_true, sat_bind]
theorem getWS (c : Pt) (l : List Pt) : dGet? (.loc 1) (.d (.tup [cellD c, .tup (l.map cellD)])) ⟨WP0 hvs tbs kvs more, b⟩ = some (lookK kvs (kW c l)) := by
  show (keyT (.d (.tup [cellD c, .tup (l.map cellD)]))).map (fun k => lookK kvs k) = _
  rw [keyT_W]
  rfl
theorem notInWS (c : Pt) (l : List Pt) : fDNotIn (.d (.tup [cellD c, .tup (l.map cellD)])) (.loc 1) ⟨WP0 hvs tbs kvs more, b⟩ = .ok (.d (.bl (!(lookK kvs (kW c l)).isSome))) ⟨WP0 hvs tbs kvs more, b⟩ := by
  unfold fDNotIn
  rw [getWS]
  rfl
theorem lookWS {c : Pt} {l : List Pt} {v : Val} (h : lookK kvs (kW c l) = some v) : fDGet (.loc 1) (.d (.tup [cellD c, .tup (l.map cellD)])) ⟨WP0 hvs tbs kvs more, b⟩ = .ok v ⟨WP0 hvs tbs kvs more, b⟩ := by
  unfold fDGet
  rw [getWS, h]
end
structure MemoW (d : Pt → Pt → Int) (hv : Pt → Int) (cs gs : List Pt) (kvs : List (NestedKey × Val)) : Prop where
  sub : ∀ k ∈ kvs.map (·.1), ∃ c ∈ cs, ∃ l, List.Sublist l gs ∧ k = kW c l
  nodup : (kvs.map (·.1)).Nodup
  good : ∀ c l v, lookK kvs (kW c l) = some v → v = .d (.int (leastW d hv c l))
theorem MemoW.nil {d : Pt → Pt → Int} {hv : Pt → Int} {cs gs : List Pt} : MemoW d hv cs gs [] := ⟨fun k hk => (by cases hk), List.Pairwise.nil, fun c l v h => (by cases h)⟩
theorem MemoW.len {d : Pt → Pt → Int} {hv : Pt → Int} {cs gs : List Pt} {kvs : List (NestedKey × Val)} (h : MemoW d hv cs gs kvs) (hc : cs.length ≤ 8) (hg : gs.length ≤ 7) : kvs.length < lim := by
  have h1 : (kvs.map (·.1)).length ≤ (cs.flatMap fun c => (subs gs).map (kW c)).length := nodup_le h.nodup fun k hk => by
    obtain ⟨c, hc, l, h1, rfl⟩ := h.sub k hk
    exact List.mem_flatMap.mpr ⟨c, hc, List.mem_map.mpr ⟨l, mem_subs h1, rfl⟩⟩
  have h2 : ∀ cs : List Pt, (cs.flatMap fun c => (subs gs).map (kW c)).length = cs.length * 2 ^ gs.length := fun cs => by
    induction cs with
    | nil => simp
    | cons c cs ih => rw [List.flatMap_cons, List.length_append, ih, List.length_map, subs_len, List.length_cons, Nat.succ_mul, Nat.add_comm]
  rw [List.length_map, h2] at h1
  have h3 : 2 ^ gs.length ≤ 2 ^ 7 := Nat.pow_le_pow_right (by decide) hg
  have h4 : cs.length * 2 ^ gs.length ≤ 8 * 2 ^ 7 := Nat.mul_le_mul hc h3
  show _ < 100000
  omega
theorem MemoW.put {d : Pt → Pt → Int} {hv : Pt → Int} {cs gs : List Pt} {kvs : List (NestedKey × Val)} (h : MemoW d hv cs gs kvs) {c : Pt} {l : List Pt} (hc : c ∈ cs) (hl : List.Sublist l gs) : MemoW d hv cs gs (putKV kvs (kW c l) (.d (.int (leastW d hv c l)))) where
  sub := fun k hk => by
    rcases mem_keys_put hk with rfl | hk
    · exact ⟨c, hc, l, hl, rfl⟩
    · exact h.sub k hk
  nodup := nodup_put h.nodup
  good := fun c' l' v e => by
    rw [look_put] at e
    by_cases hk : kW c' l' = kW c l
    · rw [if_pos hk] at e
      obtain ⟨rfl, rfl⟩ := kW_inj hk
      cases e
      rfl
    · rw [if_neg hk] at e
      exact h.good c' l' v e
end K91
set_option Elab.async false
set_option linter.all false
set_option maxRecDepth 100000
set_option maxHeartbeats 4000000
namespace K91
open PySem PySem.Spec PyProof.Rows L2 En
theorem intsOf_map (ns : List Int) : intsOf ((ns.map D.int).map Val.d) = some ns := by
  induction ns with
  | nil => rfl
  | cons n ns ih =>
    simp only [List.map_cons, intsOf, ih]
    rfl
theorem mul_sm {i : Int} (h0 : 0 ≤ i) (h1 : i < 1000) (j : Int) (t : T) : fMul (.d (.int i)) (.d (.int j)) t = .ok (.d (.int (i * j))) t := by
  refine En.mul_ok ?_
  have e1 : (-(2 ^ 64) : Int) < i := by omega
  have e2 : i < (2 ^ 64 : Int) := by omega
  unfold cMul
  rw [decide_eq_true e1, decide_eq_true e2]
  rfl
theorem sum1_ok (ns : List Int) (t : T) : fSum1 [.d (.lst (ns.map D.int))] t = .ok (.d (.int ns.sum)) t := by
  show fInts List.sum false _ t = _
  unfold fInts
  have e : asList (.d (.lst (ns.map D.int))) t = some ((ns.map D.int).map Val.d) := rfl
  simp only [e, intsOf_map, Bool.false_and, Bool.false_eq_true, if_false]
  rfl
theorem min1_ok (n : Int) (ns : List Int) (t : T) : fMin1 [.d (.lst ((n :: ns).map D.int))] t = .ok (.d (.int (minL (n :: ns)))) t := by
  show fInts minL true _ t = _
  unfold fInts
  have e : asList (.d (.lst ((n :: ns).map D.int))) t = some (((n :: ns).map D.int).map Val.d) := rfl
  simp only [e, intsOf_map, List.isEmpty_cons, Bool.and_false, Bool.false_eq_true, if_false]
  rfl
theorem tupL (ds : List D) (t : T) : fTuple [.d (.lst ds)] t = .ok (.d (.tup ds)) t := by
  show (match datas (ds.map Val.d) with | some ds => _ | none => _) = _
  rw [datas_map]
theorem fz_map {α : Type} (g : α → D) (l : List α) (t : T) : fFz (l.map fun x => Val.d (g x)) t = .ok (.d (.lst (l.map g))) t := by
  unfold fFz
  rw [show (l.map fun x => Val.d (g x)) = (l.map g).map Val.d from by simp, datas_map]
theorem ne_cell' (c p : Pt) (t : T) : fNe (.d (cellD c)) (.d (cellD p)) t = .ok (.d (.bl (!decide (c = p)))) t := by
  rw [ne_of_val (val_cell c t) (val_cell p t), eqv_cell]
section
variable {hvs : List (Pt × Int)} {tbs : List (Pt × List (Pt × Int))} {d : Pt → Pt → Int} {hv : Pt → Int} {cs gs : List Pt}
structure WOk (hvs : List (Pt × Int)) (tbs : List (Pt × List (Pt × Int))) (d : Pt → Pt → Int) (hv : Pt → Int) (cs gs : List Pt) : Prop where
  hvy : ∀ g ∈ gs, lookK hvs g = some (hv g)
  tab : ∀ c ∈ cs, ∀ g ∈ gs, ∃ f, lookK tbs c = some f ∧ lookK f g = some (d c g)
  sub : ∀ g ∈ gs, g ∈ cs
  nd : gs.Nodup
  dsm : ∀ c ∈ cs, ∀ g ∈ gs, 0 ≤ d c g ∧ d c g < 1000
  cl : cs.length ≤ 8
  gl : gs.length ≤ 7
def LeastOk (hvs : List (Pt × Int)) (tbs : List (Pt × List (Pt × Int))) (d : Pt → Pt → Int) (hv : Pt → Int) (cs gs : List Pt) (n : Nat) (f : MG) : Prop :=
  ∀ (c : Pt) (l : List Pt) (kvs : List (NestedKey × Val)) (more : List Cell) (b : Box), c ∈ cs → List.Sublist l gs → l.length < n → MemoW d hv cs gs kvs →
    (f [.loc 0, .d (cellD c), .d (.tup (l.map cellD))] ⟨WP0 hvs tbs kvs more, b⟩).sat fun v t => v = .d (.int (leastW d hv c l)) ∧ ∃ kvs' ext, t = ⟨WP0 hvs tbs kvs' (more ++ ext), b⟩ ∧ MemoW d hv cs gs kvs'
def totD (d : Pt → Pt → Int) (hv : Pt → Int) (c : Pt) (l : List Pt) (g : Pt) : D := .tup [.int (totW d hv c l g), cellD g]
theorem totals_sat (ok : WOk hvs tbs d hv cs gs) {n : Nat} {f : MG} (F : LeastOk hvs tbs d hv cs gs n f) {c : Pt} {l : List Pt} (hc : c ∈ cs) (hl : List.Sublist l gs) (hn : l.length ≤ n) {kvs : List (NestedKey × Val)} (more : List Cell) (b : Box) (hm : MemoW d hv cs gs kvs) :
    (f_Waits__totals f [.loc 0, .d (cellD c), .d (.tup (l.map cellD))] ⟨WP0 hvs tbs kvs more, b⟩).sat fun v t => v = .d (.lst (l.map (totD d hv c l))) ∧ ∃ kvs' ext, t = ⟨WP0 hvs tbs kvs' (more ++ ext), b⟩ ∧ MemoW d hv cs gs kvs' := by
  have hlg : ∀ g ∈ l, g ∈ gs := fun g hg => hl.subset hg
  have hln : l.Nodup := ok.nd.sublist hl
  have hll : l.length ≤ 7 := Nat.le_trans hl.length_le ok.gl
  refine run_sat ?_
  unfold r_Waits__totals
  have e1 := lcM_filter (f := gN 5) (tt := mYes) (te := m2 fDGet (m1 (fFld ["Waits"] "heavy") (mVar 0)) (mVar 5)) (ρ := [some (.loc 0), some (.d (cellD c)), some (.d (.tup (l.map cellD))), none, none, none, none, none]) (t := ⟨WP0 hvs tbs kvs more, b⟩) (fun p => Val.d (cellD p)) (fun _ => true) (fun p => .d (.int (hv p))) l [] (fun p hp => by
    refine ⟨_, rfl, rfl, fun _ => ?_⟩
    simp only [List.map_cons, List.map_nil, List.length_cons, List.length_nil, List.replicate, List.cons_append, List.nil_append, List.append_nil, sSeq, sIf, sRet, sNil, sSet, sDrop, m2, m1, mL, mCons, mNil, mC, mVar, mIf, List.getElem?_cons_zero, List.getElem?_cons_succ, List.set_cons_zero, List.set_cons_succ, R.bind_ok, R.toS_ok, Nat.reduceAdd, Nat.reduceSub, Nat.zero_add, En.eq_cell, En.asB_ok, En.eq_int, En.lt_ok, En.le_ok, En.sub_ok, En.add_ok, En.abs_ok, En.cell_0, En.cell_1, decide_true, decide_false, Bool.false_eq_true, if_true, if_false, Bool.not_true, Bool.not_false, fld_heavy, lookInt (ok.hvy p (hlg p hp))]) (by show 0 + l.length ≤ 100000; omega)
  have e1' : ∀ t : T, fFz ([] ++ (l.filter fun _ => true).map fun p => Val.d (.int (hv p))) t = .ok (.d (.lst ((l.map hv).map D.int))) t := fun t => by
    rw [List.nil_append, show (l.filter fun _ => true) = l from List.filter_eq_self.mpr fun _ _ => rfl, fz_map (fun p => D.int (hv p)), List.map_map]
    rfl
  refine seq_sat (N' := fun ρ t => ρ = [some (.loc 0), some (.d (cellD c)), some (.d (.tup (l.map cellD))), some (.d (.int (wsum hv l))), some (.loc (WP0 hvs tbs kvs more).length), none, none, none] ∧ t = ⟨WP0 hvs tbs kvs more ++ .lst [] :: [], b⟩) ?_ ?_
  · simp only [w_sSet, w_sRet, w_sDrop, w_sPar, w_sIf, w_sFor, w_sNil, w_m2, w_m1, w_mL, w_mCons, w_mNil, w_mC, mVar_sat, w_mIf, w_mMeth, w_mNot, w_mAnd, w_mOr, w_asB, sat_ok, List.map_cons, List.map_nil, List.cons_append, List.nil_append, List.getElem?_cons_zero, List.getElem?_cons_succ, List.set_cons_zero, List.set_cons_succ, List.length_cons, List.length_nil, Nat.reduceAdd, Nat.reduceSub, List.replicate, Nat.zero_add, mLc, cells_iter, wipeR, sat_bind]
    rw [e1, sat_ok, e1', sat_ok, sum1_ok, sat_ok]
    exact ⟨_, _, rfl, _, _, rfl, rfl, rfl⟩
  rintro ρ t ⟨rfl, rfl⟩
  refine seq_sat (N' := fun ρ t => ∃ o5 o6 o7 kvs' ext, ρ = [some (.loc 0), some (.d (cellD c)), some (.d (.tup (l.map cellD))), some (.d (.int (wsum hv l))), some (.loc (WP0 hvs tbs kvs more).length), o5, o6, o7] ∧ t = ⟨WP0 hvs tbs kvs' more ++ .lst ((l.map (totD d hv c l)).map Val.d) :: ext, b⟩ ∧ MemoW d hv cs gs kvs') ?_ ?_
  rotate_left
  · rintro ρ t ⟨o5, o6, o7, kvs', ext, rfl, rfl, hm'⟩
    have hlen : (WP0 hvs tbs kvs more).length = (WP0 hvs tbs kvs' more).length := rfl
    rw [hlen, w_sFz rfl dead_mid]
    simp only [w_sSet, w_sRet, w_sDrop, w_sPar, w_sIf, w_sFor, w_sNil, w_m2, w_m1, w_mL, w_mCons, w_mNil, w_mC, mVar_sat, w_mIf, w_mMeth, w_mNot, w_mAnd, w_mOr, w_asB, sat_ok, List.map_cons, List.map_nil, List.cons_append, List.nil_append, List.getElem?_cons_zero, List.getElem?_cons_succ, List.set_cons_zero, List.set_cons_succ, List.length_cons, List.length_nil, Nat.reduceAdd, Nat.reduceSub, List.replicate, Nat.zero_add]
    exact ⟨trivial, kvs', .dead :: ext, by unfold WP0; simp, hm'⟩
  rw [w_sFor]
  simp only [w_sSet, w_sRet, w_sDrop, w_sPar, w_sIf, w_sFor, w_sNil, w_m2, w_m1, w_mL, w_mCons, w_mNil, w_mC, mVar_sat, w_mIf, w_mMeth, w_mNot, w_mAnd, w_mOr, w_asB, sat_ok, List.map_cons, List.map_nil, List.cons_append, List.nil_append, List.getElem?_cons_zero, List.getElem?_cons_succ, List.set_cons_zero, List.set_cons_succ, List.length_cons, List.length_nil, Nat.reduceAdd, Nat.reduceSub, List.replicate, Nat.zero_add, cells_iter]
  refine rsat_mono (forM_presat (fun p => Val.d (cellD p)) (fun pre ρ t => ∃ o5 o6 o7 kvs' ext, ρ = [some (.loc 0), some (.d (cellD c)), some (.d (.tup (l.map cellD))), some (.d (.int (wsum hv l))), some (.loc (WP0 hvs tbs kvs more).length), o5, o6, o7] ∧ t = ⟨WP0 hvs tbs kvs' more ++ .lst ((pre.map (totD d hv c l)).map Val.d) :: ext, b⟩ ∧ MemoW d hv cs gs kvs') l ?_ l [] _ _ rfl ⟨none, none, none, kvs, [], rfl, rfl, hm⟩) (fun _ _ h => h) (fun _ _ h => h)
  rintro g pre post ρ t epr ⟨o5, o6, o7, kvs1, ext1, rfl, rfl, hm1⟩
  have hg : g ∈ l := by rw [epr]; simp
  refine ⟨_, rfl, ?_⟩
  have e2 := lcM_filter (f := gN 7) (tt := m1 asB (m2 fNe (mVar 7) (mVar 5))) (te := mVar 7) (ρ := [some (.loc 0), some (.d (cellD c)), some (.d (.tup (l.map cellD))), some (.d (.int (wsum hv l))), some (.loc (WP0 hvs tbs kvs more).length), some (.d (cellD g)), o6, none]) (t := ⟨WP0 hvs tbs kvs1 more ++ .lst ((pre.map (totD d hv c l)).map Val.d) :: ext1, b⟩) (fun p => Val.d (cellD p)) (fun x => !decide (x = g)) (fun p => .d (cellD p)) l [] (fun p hp => by
    refine ⟨_, rfl, ?_, fun _ => ?_⟩
    · simp only [List.map_cons, List.map_nil, List.length_cons, List.length_nil, List.replicate, List.cons_append, List.nil_append, List.append_nil, sSeq, sIf, sRet, sNil, sSet, sDrop, m2, m1, mL, mCons, mNil, mC, mVar, mIf, List.getElem?_cons_zero, List.getElem?_cons_succ, List.set_cons_zero, List.set_cons_succ, R.bind_ok, R.toS_ok, Nat.reduceAdd, Nat.reduceSub, Nat.zero_add, En.eq_cell, En.asB_ok, En.eq_int, En.lt_ok, En.le_ok, En.sub_ok, En.add_ok, En.abs_ok, En.cell_0, En.cell_1, decide_true, decide_false, Bool.false_eq_true, if_true, if_false, Bool.not_true, Bool.not_false, ne_cell']
    · simp only [List.map_cons, List.map_nil, List.length_cons, List.length_nil, List.replicate, List.cons_append, List.nil_append, List.append_nil, sSeq, sIf, sRet, sNil, sSet, sDrop, m2, m1, mL, mCons, mNil, mC, mVar, mIf, List.getElem?_cons_zero, List.getElem?_cons_succ, List.set_cons_zero, List.set_cons_succ, R.bind_ok, R.toS_ok, Nat.reduceAdd, Nat.reduceSub, Nat.zero_add, En.eq_cell, En.asB_ok, En.eq_int, En.lt_ok, En.le_ok, En.sub_ok, En.add_ok, En.abs_ok, En.cell_0, En.cell_1, decide_true, decide_false, Bool.false_eq_true, if_true, if_false, Bool.not_true, Bool.not_false]) (by show 0 + l.length ≤ 100000; omega)
  have e2' : ∀ t : T, fFz ([] ++ (l.filter fun x => !decide (x = g)).map fun p => Val.d (cellD p)) t = .ok (.d (.lst ((restW l g).map cellD))) t := fun t => by
    rw [List.nil_append, fz_map cellD]
    rfl
  refine seq_sat (N' := fun ρ t => ρ = [some (.loc 0), some (.d (cellD c)), some (.d (.tup (l.map cellD))), some (.d (.int (wsum hv l))), some (.loc (WP0 hvs tbs kvs more).length), some (.d (cellD g)), some (.d (.tup ((restW l g).map cellD))), o7] ∧ t = ⟨WP0 hvs tbs kvs1 more ++ .lst ((pre.map (totD d hv c l)).map Val.d) :: ext1, b⟩) ?_ ?_
  · simp only [gN, List.set_cons_zero, List.set_cons_succ, w_sSet, w_sRet, w_sDrop, w_sPar, w_sIf, w_sFor, w_sNil, w_m2, w_m1, w_mL, w_mCons, w_mNil, w_mC, mVar_sat, w_mIf, w_mMeth, w_mNot, w_mAnd, w_mOr, w_asB, sat_ok, List.map_cons, List.map_nil, List.cons_append, List.nil_append, List.getElem?_cons_zero, List.getElem?_cons_succ, List.set_cons_zero, List.set_cons_succ, List.length_cons, List.length_nil, Nat.reduceAdd, Nat.reduceSub, List.replicate, Nat.zero_add, mLc, cells_iter, wipeR, sat_bind]
    rw [e2, sat_ok, e2', sat_ok, tupL, sat_ok]
    exact ⟨rfl, rfl⟩
  rintro ρ t ⟨rfl, rfl⟩
  obtain ⟨f0, hf0, hf1⟩ := ok.tab c hc g (hlg g hg)
  have hsub : List.Sublist (restW l g) gs := List.filter_sublist.trans hl
  have hshape : ∀ kv, (WP0 hvs tbs kv more ++ .lst ((pre.map (totD d hv c l)).map Val.d) :: ext1) = WP0 hvs tbs kv (more ++ .lst ((pre.map (totD d hv c l)).map Val.d) :: ext1) := fun kv => rfl
  have hlen1 : (WP0 hvs tbs kvs more).length = (WP0 hvs tbs kvs1 more).length := rfl
  simp only [w_sSet, w_sRet, w_sDrop, w_sPar, w_sIf, w_sFor, w_sNil, w_m2, w_m1, w_mL, w_mCons, w_mNil, w_mC, mVar_sat, w_mIf, w_mMeth, w_mNot, w_mAnd, w_mOr, w_asB, sat_ok, List.map_cons, List.map_nil, List.cons_append, List.nil_append, List.getElem?_cons_zero, List.getElem?_cons_succ, List.set_cons_zero, List.set_cons_succ, List.length_cons, List.length_nil, Nat.reduceAdd, Nat.reduceSub, List.replicate, Nat.zero_add]
  rw [hlen1, isLst_mid, if_pos rfl]
  rw [hshape]
  simp only [w_sSet, w_sRet, w_sDrop, w_sPar, w_sIf, w_sFor, w_sNil, w_m2, w_m1, w_mL, w_mCons, w_mNil, w_mC, mVar_sat, w_mIf, w_mMeth, w_mNot, w_mAnd, w_mOr, w_asB, sat_ok, List.map_cons, List.map_nil, List.cons_append, List.nil_append, List.getElem?_cons_zero, List.getElem?_cons_succ, List.set_cons_zero, List.set_cons_succ, List.length_cons, List.length_nil, Nat.reduceAdd, Nat.reduceSub, List.replicate, Nat.zero_add, fld_tables, lookTb hf0, lookInt hf1, mul_sm (ok.dsm c hc g (hlg g hg)).1 (ok.dsm c hc g (hlg g hg)).2]
  rw [w_methW no_least rfl]
  simp only [w_sSet, w_sRet, w_sDrop, w_sPar, w_sIf, w_sFor, w_sNil, w_m2, w_m1, w_mL, w_mCons, w_mNil, w_mC, mVar_sat, w_mIf, w_mMeth, w_mNot, w_mAnd, w_mOr, w_asB, sat_ok, List.map_cons, List.map_nil, List.cons_append, List.nil_append, List.getElem?_cons_zero, List.getElem?_cons_succ, List.set_cons_zero, List.set_cons_succ, List.length_cons, List.length_nil, Nat.reduceAdd, Nat.reduceSub, List.replicate, Nat.zero_add]
  refine sat_mono (F g (restW l g) kvs1 _ b (ok.sub g (hlg g hg)) hsub (by rw [restW_len hln hg]; have : 0 < l.length := List.length_pos_of_mem hg; omega) hm1) ?_
  rintro v t ⟨rfl, kvs2, ext2, rfl, hm2⟩
  have hshape2 : WP0 hvs tbs kvs2 ((more ++ .lst ((pre.map (totD d hv c l)).map Val.d) :: ext1) ++ ext2) = WP0 hvs tbs kvs2 more ++ .lst ((pre.map (totD d hv c l)).map Val.d) :: (ext1 ++ ext2) := by
    unfold WP0; simp
  have htup : ∀ t : T, fTup [.d (.int (d c g * wsum hv l + leastW d hv g (restW l g))), .d (cellD g)] t = .ok (.d (totD d hv c l g)) t := fun _ => rfl
  simp only [w_sSet, w_sRet, w_sDrop, w_sPar, w_sIf, w_sFor, w_sNil, w_m2, w_m1, w_mL, w_mCons, w_mNil, w_mC, mVar_sat, w_mIf, w_mMeth, w_mNot, w_mAnd, w_mOr, w_asB, sat_ok, List.map_cons, List.map_nil, List.cons_append, List.nil_append, List.getElem?_cons_zero, List.getElem?_cons_succ, List.set_cons_zero, List.set_cons_succ, List.length_cons, List.length_nil, Nat.reduceAdd, Nat.reduceSub, List.replicate, Nat.zero_add, En.add_ok, htup]
  have hpl : ((pre.map (totD d hv c l)).map Val.d).length < lim := by
    have : pre.length ≤ l.length := by rw [epr, List.length_append]; omega
    rw [List.length_map, List.length_map]
    show _ < 100000
    omega
  rw [hshape2, show (WP0 hvs tbs kvs1 more).length = (WP0 hvs tbs kvs2 more).length from rfl, append_mid hpl, sat_ok]
  exact ⟨_, _, _, kvs2, ext1 ++ ext2, rfl, by simp, hm2⟩
theorem least_sat (ok : WOk hvs tbs d hv cs gs) : ∀ n : Nat, LeastOk hvs tbs d hv cs gs n (f_Waits__least n)
  | 0 => fun c l kvs more b _ _ h _ => absurd h (Nat.not_lt_zero _)
  | n + 1 => fun c l kvs more b hc hl hn hm => by
    have hln : l.Nodup := ok.nd.sublist hl
    have hll : l.length ≤ 7 := Nat.le_trans hl.length_le ok.gl
    have hT0 : ∀ (ps : List Pt) (t : T), fEq (.d (.tup (ps.map cellD))) (.d (.tup [])) t = .ok (.d (.bl ps.isEmpty)) t := fun ps t => by
      rw [eq_of_val (val_cellsT ps t) (val_T0 t), eqv_T0]
      cases ps <;> rfl
    have htup0 : ∀ t : T, fTup [] t = .ok (.d (.tup [])) t := fun _ => rfl
    have htup2 : ∀ t : T, fTup [.d (cellD c), .d (.tup (l.map cellD))] t = .ok (.d (.tup [cellD c, .tup (l.map cellD)])) t := fun _ => rfl
    show (runG 5 (r_Waits__least (f_Waits__least n)) _ _).sat _
    refine run_sat ?_
    unfold r_Waits__least
    by_cases hne : l = []
    · subst hne
      rw [w_sSeq, w_sIf]
      simp only [w_sSet, w_sRet, w_sDrop, w_sPar, w_sIf, w_sFor, w_sNil, w_m2, w_m1, w_mL, w_mCons, w_mNil, w_mC, mVar_sat, w_mIf, w_mMeth, w_mNot, w_mAnd, w_mOr, w_asB, sat_ok, List.map_cons, List.map_nil, List.cons_append, List.nil_append, List.getElem?_cons_zero, List.getElem?_cons_succ, List.set_cons_zero, List.set_cons_succ, List.length_cons, List.length_nil, Nat.reduceAdd, Nat.reduceSub, List.replicate, Nat.zero_add, htup0]
      have := hT0 []
      rw [List.map_nil] at this
      simp only [List.map_nil, this, w_sSet, w_sRet, w_sDrop, w_sPar, w_sIf, w_sFor, w_sNil, w_m2, w_m1, w_mL, w_mCons, w_mNil, w_mC, mVar_sat, w_mIf, w_mMeth, w_mNot, w_mAnd, w_mOr, w_asB, sat_ok, List.map_cons, List.map_nil, List.cons_append, List.nil_append, List.getElem?_cons_zero, List.getElem?_cons_succ, List.set_cons_zero, List.set_cons_succ, List.length_cons, List.length_nil, Nat.reduceAdd, Nat.reduceSub, List.replicate, Nat.zero_add, List.isEmpty_nil, if_true]
      exact ⟨rfl, kvs, [], by rw [List.append_nil], hm⟩
    have hemp : l.isEmpty = false := by cases l with | nil => exact absurd rfl hne | cons _ _ => rfl
    refine seq_sat (N' := fun ρ t => ρ = [some (.loc 0), some (.d (cellD c)), some (.d (.tup (l.map cellD))), none, none] ∧ t = ⟨WP0 hvs tbs kvs more, b⟩) ?_ ?_
    · rw [w_sIf]
      simp only [w_sSet, w_sRet, w_sDrop, w_sPar, w_sIf, w_sFor, w_sNil, w_m2, w_m1, w_mL, w_mCons, w_mNil, w_mC, mVar_sat, w_mIf, w_mMeth, w_mNot, w_mAnd, w_mOr, w_asB, sat_ok, List.map_cons, List.map_nil, List.cons_append, List.nil_append, List.getElem?_cons_zero, List.getElem?_cons_succ, List.set_cons_zero, List.set_cons_succ, List.length_cons, List.length_nil, Nat.reduceAdd, Nat.reduceSub, List.replicate, Nat.zero_add, htup0, hT0, hemp, Bool.false_eq_true, if_false]
      exact ⟨trivial, trivial⟩
    rintro ρ t ⟨rfl, rfl⟩
    refine seq_sat (N' := fun ρ t => (∃ o3 o4, ρ = [some (.loc 0), some (.d (cellD c)), some (.d (.tup (l.map cellD))), o3, o4]) ∧ ∃ kvs' ext, t = ⟨WP0 hvs tbs kvs' (more ++ ext), b⟩ ∧ MemoW d hv cs gs kvs' ∧ lookK kvs' (kW c l) = some (.d (.int (leastW d hv c l)))) ?_ ?_
    rotate_left
    · rintro ρ t ⟨⟨o3, o4, rfl⟩, kvs', ext, rfl, hm', hk⟩
      simp only [w_sSet, w_sRet, w_sDrop, w_sPar, w_sIf, w_sFor, w_sNil, w_m2, w_m1, w_mL, w_mCons, w_mNil, w_mC, mVar_sat, w_mIf, w_mMeth, w_mNot, w_mAnd, w_mOr, w_asB, sat_ok, List.map_cons, List.map_nil, List.cons_append, List.nil_append, List.getElem?_cons_zero, List.getElem?_cons_succ, List.set_cons_zero, List.set_cons_succ, List.length_cons, List.length_nil, Nat.reduceAdd, Nat.reduceSub, List.replicate, Nat.zero_add, fld_known, htup2, lookWS hk]
      exact ⟨trivial, kvs', ext, rfl, hm'⟩
    rw [w_sIf]
    simp only [w_sSet, w_sRet, w_sDrop, w_sPar, w_sIf, w_sFor, w_sNil, w_m2, w_m1, w_mL, w_mCons, w_mNil, w_mC, mVar_sat, w_mIf, w_mMeth, w_mNot, w_mAnd, w_mOr, w_asB, sat_ok, List.map_cons, List.map_nil, List.cons_append, List.nil_append, List.getElem?_cons_zero, List.getElem?_cons_succ, List.set_cons_zero, List.set_cons_succ, List.length_cons, List.length_nil, Nat.reduceAdd, Nat.reduceSub, List.replicate, Nat.zero_add, fld_known, htup2, notInWS]
    cases hk : lookK kvs (kW c l) with
    | some v =>
      have hv' := hm.good c l v hk
      subst hv'
      show RS.sat (if false = true then _ else _) _ _
      rw [if_neg (by decide), w_sNil]
      exact ⟨⟨_, _, rfl⟩, kvs, [], by rw [List.append_nil], hm, hk⟩
    | none =>
      show RS.sat (if true = true then _ else _) _ _
      rw [if_pos rfl]
      unfold En.sDPut
      rw [sat_toS]
      simp only [w_sSet, w_sRet, w_sDrop, w_sPar, w_sIf, w_sFor, w_sNil, w_m2, w_m1, w_mL, w_mCons, w_mNil, w_mC, mVar_sat, w_mIf, w_mMeth, w_mNot, w_mAnd, w_mOr, w_asB, sat_ok, List.map_cons, List.map_nil, List.cons_append, List.nil_append, List.getElem?_cons_zero, List.getElem?_cons_succ, List.set_cons_zero, List.set_cons_succ, List.length_cons, List.length_nil, Nat.reduceAdd, Nat.reduceSub, List.replicate, Nat.zero_add, mLc, sat_bind]
      rw [w_methW no_totals rfl]
      simp only [w_sSet, w_sRet, w_sDrop, w_sPar, w_sIf, w_sFor, w_sNil, w_m2, w_m1, w_mL, w_mCons, w_mNil, w_mC, mVar_sat, w_mIf, w_mMeth, w_mNot, w_mAnd, w_mOr, w_asB, sat_ok, List.map_cons, List.map_nil, List.cons_append, List.nil_append, List.getElem?_cons_zero, List.getElem?_cons_succ, List.set_cons_zero, List.set_cons_succ, List.length_cons, List.length_nil, Nat.reduceAdd, Nat.reduceSub, List.replicate, Nat.zero_add]
      refine sat_mono (totals_sat ok (least_sat ok n) hc hl (by omega) more b hm) ?_
      rintro v t ⟨rfl, kvs1, ext1, rfl, hm1⟩
      have hit : ∀ t : T, fIter (.d (.lst (l.map (totD d hv c l)))) t = .ok (l.map fun g => .d (totD d hv c l g)) t := fun t => by
        show R.ok ((l.map (totD d hv c l)).map Val.d) t = _
        rw [List.map_map]
        rfl
      have e1 := lcM_filter (f := gT 2 (gsCons (gN 3) (gsCons (gN 4) gsNil))) (tt := mYes) (te := mVar 3) (ρ := [some (.loc 0), some (.d (cellD c)), some (.d (.tup (l.map cellD))), none, none]) (t := ⟨WP0 hvs tbs kvs1 (more ++ ext1), b⟩) (fun g => Val.d (totD d hv c l g)) (fun _ => true) (fun g => .d (.int (totW d hv c l g))) l [] (fun p hp => by
        refine ⟨_, rfl, rfl, fun _ => ?_⟩
        simp only [List.map_cons, List.map_nil, List.length_cons, List.length_nil, List.replicate, List.cons_append, List.nil_append, List.append_nil, sSeq, sIf, sRet, sNil, sSet, sDrop, m2, m1, mL, mCons, mNil, mC, mVar, mIf, List.getElem?_cons_zero, List.getElem?_cons_succ, List.set_cons_zero, List.set_cons_succ, R.bind_ok, R.toS_ok, Nat.reduceAdd, Nat.reduceSub, Nat.zero_add, En.eq_cell, En.asB_ok, En.eq_int, En.lt_ok, En.le_ok, En.sub_ok, En.add_ok, En.abs_ok, En.cell_0, En.cell_1, decide_true, decide_false, Bool.false_eq_true, if_true, if_false, Bool.not_true, Bool.not_false]) (by show 0 + l.length ≤ 100000; omega)
      have e1' : ∀ t : T, fFz ([] ++ (l.filter fun _ => true).map fun g => Val.d (.int (totW d hv c l g))) t = .ok (.d (.lst ((l.map (totW d hv c l)).map D.int))) t := fun t => by
        rw [List.nil_append, show (l.filter fun _ => true) = l from List.filter_eq_self.mpr fun _ _ => rfl, fz_map (fun g => D.int (totW d hv c l g)), List.map_map]
        rfl
      have hmin : ∀ t : T, fMin1 [.d (.lst ((l.map (totW d hv c l)).map D.int))] t = .ok (.d (.int (leastW d hv c l))) t := fun t => by
        rw [leastW_eq d hv hln hne]
        cases l with
        | nil => exact absurd rfl hne
        | cons g l => rw [List.map_cons, min1_ok]
      simp only [hit, sat_ok, wipeR, List.set_cons_zero, List.set_cons_succ]
      rw [e1, sat_ok, e1', sat_ok, hmin, sat_ok]
      simp only [sat_toS, w_sSet, w_sRet, w_sDrop, w_sPar, w_sIf, w_sFor, w_sNil, w_m2, w_m1, w_mL, w_mCons, w_mNil, w_mC, mVar_sat, w_mIf, w_mMeth, w_mNot, w_mAnd, w_mOr, w_asB, sat_ok, List.map_cons, List.map_nil, List.cons_append, List.nil_append, List.getElem?_cons_zero, List.getElem?_cons_succ, List.set_cons_zero, List.set_cons_succ, List.length_cons, List.length_nil, Nat.reduceAdd, Nat.reduceSub, List.replicate, Nat.zero_add, fld_known, htup2]
      have hst : (⟨WP0 hvs tbs kvs1 (more ++ ext1), b⟩ : T).st[1]? = some (.dT kvs1) := rfl
      simp only [hst, keyT_W, hm1.len ok.cl ok.gl, if_true]
      refine ⟨⟨_, _, rfl⟩, putKV kvs1 (kW c l) (.d (.int (leastW d hv c l))), ext1, rfl, hm1.put hc hl, ?_⟩
      rw [look_put, if_pos rfl]
end
end K91
set_option Elab.async false
set_option linter.all false
set_option maxRecDepth 100000
set_option maxHeartbeats 4000000
namespace K91
open PySem PySem.Spec PyProof.Rows L2 En
def encV {α : Type} (g : α → D) (f : List (Pt × α)) : List (NestedKey × Val) := f.map fun p => (kC p.1, Val.d (g p.2))
def encD {α : Type} (g : α → D) (f : List (Pt × α)) : List (NestedKey × D) := f.map fun p => (kC p.1, g p.2)
theorem encV_put {α : Type} (g : α → D) (f : List (Pt × α)) (p : Pt) (v : α) : putKV (encV g f) (kC p) (.d (g v)) = encV g (putKV f p v) := put_enc kC kC_inj (fun v => Val.d (g v)) f p v
def putAll {α : Type} (h : Pt → α) (cs : List Pt) (acc : List (Pt × α)) : List (Pt × α) := cs.foldl (fun acc c => putKV acc c (h c)) acc
theorem putAll_len {α : Type} (h : Pt → α) : ∀ (cs : List Pt) (acc : List (Pt × α)), (putAll h cs acc).length ≤ acc.length + cs.length
  | [], acc => Nat.le_refl _
  | c :: cs, acc => by
    have h1 := putAll_len h cs (putKV acc c (h c))
    have h2 : (putKV acc c (h c)).length ≤ acc.length + 1 := by
      have := congrArg List.length (keys_put acc c (h c))
      rw [List.length_map] at this
      rw [this]
      split <;> simp
    show (putAll h cs (putKV acc c (h c))).length ≤ _
    rw [List.length_cons]
    omega
theorem putAll_look {α : Type} (h : Pt → α) (c : Pt) : ∀ (cs : List Pt) (acc : List (Pt × α)), lookK (putAll h cs acc) c = if c ∈ cs then some (h c) else lookK acc c
  | [], acc => by simp [putAll]
  | x :: cs, acc => by
    show lookK (putAll h cs (putKV acc x (h x))) c = _
    rw [putAll_look h c cs, look_put]
    by_cases h1 : c ∈ cs
    · rw [if_pos h1, if_pos (List.mem_cons_of_mem _ h1)]
    · rw [if_neg h1]
      by_cases h2 : c = x
      · rw [if_pos h2, h2, if_pos (List.mem_cons_self ..)]
      · rw [if_neg h2, if_neg fun z => by rcases List.mem_cons.mp z with z | z; exact h2 z; exact h1 z]
theorem dcM_put {α : Type} (g : α → D) (h : Pt → α) {i : Nat} {ρ : Rho} {tv : ME Val} {t : T} (hρ : ∀ v, (ρ.set i (some v))[i]? = some (some v)) : ∀ (cs : List Pt) (acc : List (Pt × α)), acc.length + cs.length ≤ 1000 →
    (∀ c ∈ cs, tv (ρ.set i (some (.d (cellD c)))) t = .ok (.d (g (h c))) t) → dcM (gN i) mYes (mVar i) tv ρ (cs.map fun p => Val.d (cellD p)) (encV g acc) t = .ok (encV g (putAll h cs acc)) t
  | [], acc, _, _ => rfl
  | c :: cs, acc, hl, ht => by
    have g5 : gN i (.d (cellD c)) ρ = some (ρ.set i (some (.d (cellD c)))) := rfl
    have hlen : (encV g acc).length < lim := by
      unfold encV
      rw [List.length_map]
      simp only [List.length_cons] at hl
      show _ < 100000
      omega
    have hpl : (putKV acc c (h c)).length ≤ acc.length + 1 := putAll_len h [c] acc
    have ih := dcM_put g h hρ cs (putKV acc c (h c)) (by simp only [List.length_cons] at hl; omega) fun x hx => ht x (List.mem_cons_of_mem _ hx)
    rw [List.map_cons]
    unfold dcM
    simp only [g5, mYes, R.bindN, if_true, mVar, hρ, keyT_cell, hlen, ht c (List.mem_cons_self ..), encV_put]
    exact ih
theorem encV_fz {α : Type} (g : α → D) (f : List (Pt × α)) : datas ((encV g f).map (·.2)) = some ((encD g f).map (·.2)) := by
  have : (encV g f).map (·.2) = ((encD g f).map (·.2)).map Val.d := by
    unfold encV encD
    simp [List.map_map, Function.comp_def]
  rw [this, datas_map]
theorem encV_zip {α : Type} (g : α → D) (f : List (Pt × α)) : ((encV g f).map (·.1)).zip ((encD g f).map (·.2)) = encD g f := by
  have : (encV g f).map (·.1) = (encD g f).map (·.1) := by
    unfold encV encD
    simp [List.map_map, Function.comp_def]
  rw [this]
  exact (List.zip_of_prod rfl rfl).symm
theorem encTb_eq (tbs : List (Pt × List (Pt × Int))) : encTb tbs = encD (fun f => D.dT (encFD f)) tbs := rfl
theorem encFD_eq (f : List (Pt × Int)) : encFD f = encD D.int f := rfl
theorem keyND_kC (p : Pt) : keyND (kC p) = cellD p := rfl
theorem keys_enc {α : Type} (g : α → D) (f : List (Pt × α)) : ((encD g f).map fun p => Val.d (keyND p.1)) = (f.map (·.1)).map fun p => Val.d (cellD p) := by
  unfold encD
  rw [List.map_map, List.map_map]
  rfl
theorem dists_fun {rows : List Str} {w : Nat} (hr : RowsOk rows w) (b : Box) : ∃ fr : Pt → List (Pt × Int), ∀ c, c ∈ cellsOf rows w → (∀ st : List Cell, fCall f_distances [.d (islD rows), .d (cellD c)] ⟨st, b⟩ = .ok (.d (.dT (encFD (fr c)))) ⟨st, b⟩) ∧ FarOk rows w c (fr c) := by
  have h : ∀ c, ∃ f : List (Pt × Int), c ∈ cellsOf rows w → (∀ st : List Cell, fCall f_distances [.d (islD rows), .d (cellD c)] ⟨st, b⟩ = .ok (.d (.dT (encFD f))) ⟨st, b⟩) ∧ FarOk rows w c f := fun c => by
    by_cases hc : c ∈ cellsOf rows w
    · have hl := cellsOf_len hr
      obtain ⟨f, st, e, hd, h2, h3⟩ := distances_eq hr (by omega) adjP_cells hc b
      exact ⟨f, fun _ => ⟨fun st' => call_eq' rfl e, dst_look (dists_gr adjP_mem (land_iff.mpr hc) hd), h2, h3⟩⟩
    · exact ⟨[], fun z => absurd z hc⟩
  obtain ⟨fr, hfr⟩ := Classical.axiomOfChoice h
  exact ⟨fr, hfr⟩
theorem init_W {rows : List Str} {w : Nat} (hr : RowsOk rows w) {fr : Pt → List (Pt × Int)} {b : Box} (hfr : ∀ c, c ∈ cellsOf rows w → (∀ st : List Cell, fCall f_distances [.d (islD rows), .d (cellD c)] ⟨st, b⟩ = .ok (.d (.dT (encFD (fr c)))) ⟨st, b⟩) ∧ FarOk rows w c (fr c)) {a : Pt} (ha : a ∈ cellsOf rows w) (hvs : List (Pt × Int)) (hh : ∀ g ∈ hvs.map (·.1), g ∈ cellsOf rows w) (hl : hvs.length ≤ 200) :
    f_Waits____init__ [.loc 0, .d (islD rows), .d (cellD a), .d (.dT (encFD hvs))] ⟨[.ins "Waits" []], b⟩ = .ok (.d .non) ⟨WP0 hvs (putAll fr (a :: hvs.map (·.1)) []) [] [], b⟩ := by
  have n1 : ¬ (("heavy" : Str) = ("tables" : Str)) := by decide +kernel
  have n2 : ¬ (("heavy" : Str) = ("known" : Str)) := by decide +kernel
  have n3 : ¬ (("tables" : Str) = ("known" : Str)) := by decide +kernel
  have hc : [("Waits" : Str)].contains ("Waits" : Str) = true := by decide
  have hlen : ∀ t : T, fLen ((a :: hvs.map (·.1)).map fun p => Val.d (cellD p)) t = .ok ((a :: hvs.map (·.1)).map fun p => Val.d (cellD p)) t := fun t => by
    unfold fLen
    rw [if_pos (by rw [List.length_map, List.length_cons, List.length_map]; show _ ≤ 100000; omega)]
  have hst : (mCons (mVar 2) (mStarT (mVar 3) mNil)) [some (.loc 0), some (.d (islD rows)), some (.d (cellD a)), some (.d (.dT (encFD hvs))), none] ⟨[.ins "Waits" [("heavy", .d (.dT (encFD hvs)))]], b⟩ = .ok ((a :: hvs.map (·.1)).map fun p => Val.d (cellD p)) ⟨[.ins "Waits" [("heavy", .d (.dT (encFD hvs)))]], b⟩ := by
    unfold mStarT
    simp only [List.map_cons, List.map_nil, List.length_cons, List.length_nil, List.replicate, List.cons_append, List.nil_append, List.append_nil, sSeq, sIf, sRet, sNil, sSet, sDrop, m2, m1, mL, mCons, mNil, mC, mVar, mIf, List.getElem?_cons_zero, List.getElem?_cons_succ, List.set_cons_zero, List.set_cons_succ, R.bind_ok, R.toS_ok, Nat.reduceAdd, Nat.reduceSub, Nat.zero_add, En.eq_cell, En.asB_ok, En.eq_int, En.lt_ok, En.le_ok, En.sub_ok, En.add_ok, En.abs_ok, En.cell_0, En.cell_1, decide_true, decide_false, Bool.false_eq_true, if_true, if_false, Bool.not_true, Bool.not_false]
    rw [encFD_eq, keys_enc]
  have hit : ∀ (ps : List Pt) (t : T), fIter (.d (.lst (ps.map cellD))) t = .ok (ps.map fun p => .d (cellD p)) t := fun ps t => cellsI ps t
  have hdc := dcM_put (fun f => D.dT (encFD f)) fr (i := 4) (ρ := [some (.loc 0), some (.d (islD rows)), some (.d (cellD a)), some (.d (.dT (encFD hvs))), none]) (tv := (mL (fCall f_distances) (mCons (mVar 1) (mCons (mVar 4) mNil)))) (t := ⟨[.ins "Waits" [("heavy", .d (.dT (encFD hvs)))]], b⟩) (fun v => rfl) (a :: hvs.map (·.1)) [] (by simp only [List.length_nil, List.length_cons, List.length_map]; omega) (fun c hc => by
    have hcc : c ∈ cellsOf rows w := by
      rcases List.mem_cons.mp hc with rfl | hc
      · exact ha
      · exact hh c hc
    simp only [List.map_cons, List.map_nil, List.length_cons, List.length_nil, List.replicate, List.cons_append, List.nil_append, List.append_nil, sSeq, sIf, sRet, sNil, sSet, sDrop, m2, m1, mL, mCons, mNil, mC, mVar, mIf, List.getElem?_cons_zero, List.getElem?_cons_succ, List.set_cons_zero, List.set_cons_succ, R.bind_ok, R.toS_ok, Nat.reduceAdd, Nat.reduceSub, Nat.zero_add, En.eq_cell, En.asB_ok, En.eq_int, En.lt_ok, En.le_ok, En.sub_ok, En.add_ok, En.abs_ok, En.cell_0, En.cell_1, decide_true, decide_false, Bool.false_eq_true, if_true, if_false, Bool.not_true, Bool.not_false, (hfr c hcc).1])
  have hnil : encV (fun f : List (Pt × Int) => D.dT (encFD f)) [] = [] := rfl
  rw [hnil] at hdc
  have hfz : (fDFz (mDc [4] (gN 4) (m1 fIter (mL fFz (mL fLen (mCons (mVar 2) (mStarT (mVar 3) mNil))))) mYes (mVar 4) (mL (fCall f_distances) (mCons (mVar 1) (mCons (mVar 4) mNil))))) [some (.loc 0), some (.d (islD rows)), some (.d (cellD a)), some (.d (.dT (encFD hvs))), none] ⟨[.ins "Waits" [("heavy", .d (.dT (encFD hvs)))]], b⟩ = .ok (.d (.dT (encTb (putAll fr (a :: hvs.map (·.1)) [])))) ⟨[.ins "Waits" [("heavy", .d (.dT (encFD hvs)))]], b⟩ := by
    have hmi : (m1 fIter (mL fFz (mL fLen (mCons (mVar 2) (mStarT (mVar 3) mNil))))) [some (.loc 0), some (.d (islD rows)), some (.d (cellD a)), some (.d (.dT (encFD hvs))), none] ⟨[.ins "Waits" [("heavy", .d (.dT (encFD hvs)))]], b⟩ = .ok ((a :: hvs.map (·.1)).map fun p => Val.d (cellD p)) ⟨[.ins "Waits" [("heavy", .d (.dT (encFD hvs)))]], b⟩ := by
      show R.bind (R.bind (R.bind _ _) _) _ = _
      rw [hst]
      simp only [R.bind_ok, hlen, fz_map cellD, hit]
    unfold fDFz mDc
    rw [hmi]
    simp only [R.bind_ok, wipeR, List.set_cons_zero, List.set_cons_succ]
    rw [hdc]
    simp only [R.bind_ok, encV_fz, encV_zip]
    rfl
  have seq_nx : ∀ {a b : MS} {ρ ρ1 : Rho} {t t1 : T}, a ρ t = .nx ρ1 t1 → sSeq a b ρ t = b ρ1 t1 := fun h => by unfold sSeq; rw [h]
  have s1 : sFldV ["Waits"] "heavy" (mVar 0) (mVar 3) [some (.loc 0), some (.d (islD rows)), some (.d (cellD a)), some (.d (.dT (encFD hvs))), none] ⟨[.ins "Waits" []], b⟩ = .nx [some (.loc 0), some (.d (islD rows)), some (.d (cellD a)), some (.d (.dT (encFD hvs))), none] ⟨[.ins "Waits" [("heavy", .d (.dT (encFD hvs)))]], b⟩ := by
    simp only [List.map_cons, List.map_nil, List.length_cons, List.length_nil, List.replicate, List.cons_append, List.nil_append, List.append_nil, sSeq, sIf, sRet, sNil, sSet, sDrop, m2, m1, mL, mCons, mNil, mC, mVar, mIf, List.getElem?_cons_zero, List.getElem?_cons_succ, List.set_cons_zero, List.set_cons_succ, R.bind_ok, R.toS_ok, Nat.reduceAdd, Nat.reduceSub, Nat.zero_add, En.eq_cell, En.asB_ok, En.eq_int, En.lt_ok, En.le_ok, En.sub_ok, En.add_ok, En.abs_ok, En.cell_0, En.cell_1, decide_true, decide_false, Bool.false_eq_true, if_true, if_false, Bool.not_true, Bool.not_false, sFldV, hc, Bool.true_and, putV, Nat.reduceLT, decide_true]
  have s2 : sFldV ["Waits"] "tables" (mVar 0) (fDFz (mDc [4] (gN 4) (m1 fIter (mL fFz (mL fLen (mCons (mVar 2) (mStarT (mVar 3) mNil))))) mYes (mVar 4) (mL (fCall f_distances) (mCons (mVar 1) (mCons (mVar 4) mNil))))) [some (.loc 0), some (.d (islD rows)), some (.d (cellD a)), some (.d (.dT (encFD hvs))), none] ⟨[.ins "Waits" [("heavy", .d (.dT (encFD hvs)))]], b⟩ = .nx [some (.loc 0), some (.d (islD rows)), some (.d (cellD a)), some (.d (.dT (encFD hvs))), none] ⟨[.ins "Waits" [("heavy", .d (.dT (encFD hvs))), ("tables", .d (.dT (encTb (putAll fr (a :: hvs.map (·.1)) []))))]], b⟩ := by
    unfold sFldV
    rw [hfz]
    simp only [List.map_cons, List.map_nil, List.length_cons, List.length_nil, List.replicate, List.cons_append, List.nil_append, List.append_nil, sSeq, sIf, sRet, sNil, sSet, sDrop, m2, m1, mL, mCons, mNil, mC, mVar, mIf, List.getElem?_cons_zero, List.getElem?_cons_succ, List.set_cons_zero, List.set_cons_succ, R.bind_ok, R.toS_ok, Nat.reduceAdd, Nat.reduceSub, Nat.zero_add, En.eq_cell, En.asB_ok, En.eq_int, En.lt_ok, En.le_ok, En.sub_ok, En.add_ok, En.abs_ok, En.cell_0, En.cell_1, decide_true, decide_false, Bool.false_eq_true, if_true, if_false, Bool.not_true, Bool.not_false, hc, Bool.true_and, putV, Nat.reduceLT, decide_true, n1, if_false]
  have s3 : sFldV ["Waits"] "known" (mVar 0) mDNewT [some (.loc 0), some (.d (islD rows)), some (.d (cellD a)), some (.d (.dT (encFD hvs))), none] ⟨[.ins "Waits" [("heavy", .d (.dT (encFD hvs))), ("tables", .d (.dT (encTb (putAll fr (a :: hvs.map (·.1)) []))))]], b⟩ = .nx [some (.loc 0), some (.d (islD rows)), some (.d (cellD a)), some (.d (.dT (encFD hvs))), none] ⟨WP0 hvs (putAll fr (a :: hvs.map (·.1)) []) [] [], b⟩ := by
    unfold sFldV mDNewT
    simp only [List.map_cons, List.map_nil, List.length_cons, List.length_nil, List.replicate, List.cons_append, List.nil_append, List.append_nil, sSeq, sIf, sRet, sNil, sSet, sDrop, m2, m1, mL, mCons, mNil, mC, mVar, mIf, List.getElem?_cons_zero, List.getElem?_cons_succ, List.set_cons_zero, List.set_cons_succ, R.bind_ok, R.toS_ok, Nat.reduceAdd, Nat.reduceSub, Nat.zero_add, En.eq_cell, En.asB_ok, En.eq_int, En.lt_ok, En.le_ok, En.sub_ok, En.add_ok, En.abs_ok, En.cell_0, En.cell_1, decide_true, decide_false, Bool.false_eq_true, if_true, if_false, Bool.not_true, Bool.not_false, hc, Bool.true_and, putV, Nat.reduceLT, decide_true, n2, n3, if_false]
    rfl
  unfold f_Waits____init__ runG m_Waits____init__
  simp only [List.map_cons, List.map_nil, List.length_cons, List.length_nil, List.replicate, List.cons_append, List.nil_append, List.append_nil, Nat.reduceAdd, Nat.reduceSub]
  rw [seq_nx s1, seq_nx s2, s3]
end K91
set_option Elab.async false
set_option linter.all false
set_option maxRecDepth 100000
set_option maxHeartbeats 4000000
namespace K91
open PySem PySem.Spec PyProof.Rows L2 En
theorem dataLe_cell (p q : Pt) : PySem.W.dataLe false cellP p q = decide (p.1 < q.1 ∨ (p.1 = q.1 ∧ p.2 ≤ q.2)) := by
  have := PySem.W.dataLe_ii (β := Pt) (fun p => p.1) (fun p => p.2)
  exact congrFun (congrFun this p) q
theorem sortC_sorted (ps : List Pt) : (sortC ps).Pairwise leC := by
  have h := List.pairwise_mergeSort (le := PySem.W.dataLe false cellP) (fun a b c h1 h2 => by
    rw [dataLe_cell] at h1 h2 ⊢
    simp only [decide_eq_true_eq] at h1 h2 ⊢
    omega) (fun a b => by
    rw [dataLe_cell, dataLe_cell]
    simp only [Bool.or_eq_true, decide_eq_true_eq]
    omega) ps
  refine h.imp fun {a b} h => ?_
  rw [dataLe_cell, decide_eq_true_eq] at h
  exact h
theorem sortC_perm (ps : List Pt) : (sortC ps).Perm ps := List.mergeSort_perm ..
theorem dist_chain {L : Pt → Bool} {a : Pt} (ha : L a = true) : ∀ (k : Nat) (c : Pt), IsDist (gr L) a k c → ∃ l : List Pt, l.length = k + 1 ∧ l.Nodup ∧ ∀ x ∈ l, L x = true ∧ ∃ j, j ≤ k ∧ IsDist (gr L) a j x
  | 0, c, h => ⟨[c], rfl, by simp, fun x hx => by
      have : x = c := by simpa using hx
      subst this
      exact ⟨reach_land ha 0 x h.1, 0, Nat.le_refl _, h⟩⟩
  | k + 1, c, h => by
    obtain ⟨e, he, hc⟩ := h.pred
    obtain ⟨l, h1, h2, h3⟩ := dist_chain ha k e he
    refine ⟨c :: l, by simp [h1], List.nodup_cons.mpr ⟨fun z => ?_, h2⟩, fun x hx => ?_⟩
    · obtain ⟨_, j, hj, hd⟩ := h3 c z
      have := h.uniq hd
      omega
    · rcases List.mem_cons.mp hx with rfl | hx
      · exact ⟨reach_land ha (k + 1) x h.1, k + 1, Nat.le_refl _, h⟩
      · obtain ⟨h4, j, hj, hd⟩ := h3 x hx
        exact ⟨h4, j, by omega, hd⟩
theorem dst_small {rows : List Str} {w : Nat} (hr : RowsOk rows w) {a c : Pt} (ha : a ∈ cellsOf rows w) {k : Nat} (h : dst (G rows w) a c = some k) : k < 144 := by
  obtain ⟨l, h1, h2, h3⟩ := dist_chain (land_iff.mpr ha) k c (dst_some.mp h)
  have := nodup_le h2 (l' := cellsOf rows w) fun x hx => land_iff.mp (h3 x hx).1
  have := cellsOf_len hr
  omega
noncomputable def dI (rows : List Str) (w : Nat) (a c : Pt) : Int := match dst (G rows w) a c with
  | some k => (k : Int)
  | none => 0
theorem sortV_cells (ps : List Pt) : sortV (ps.map fun p => Val.d (cellD p)) = some ((sortC ps).map cellD) := by
  have e : (ps.map fun p => Val.d (cellD p)) = (ps.map cellD).map Val.d := by simp
  rw [e]
  unfold sortV
  rw [datas_map]
  simp only [withPy_cells, okSort_cells, if_true]
  have : sortD (ps.map fun p => (cellD p, cellP p)) = (sortC ps).map cellD := by
    unfold sortD sortC
    rw [← List.map_mergeSort (r := PySem.W.dataLe false cellP) (f := fun p : Int × Int => (cellD p, cellP p)) (fun _ _ _ _ => rfl), List.map_map]
    rfl
  rw [this]
theorem sortedFD (f : List (Pt × Int)) (t : T) : fSortedT [.d (.dT (encFD f))] t = .ok (.d (.lst ((sortC (f.map (·.1))).map cellD))) t := by
  have e : ((encFD f).map fun p => Val.d (keyND p.1)) = (f.map (·.1)).map fun p => Val.d (cellD p) := by
    unfold encFD
    rw [List.map_map, List.map_map]
    exact List.map_congr_left fun p _ => rfl
  unfold fSortedT
  simp only [e, sortV_cells]
def allIn (rows : List Str) (w : Nat) (a : Pt) (gs : List Pt) : Prop := ∀ g ∈ gs, (dst (G rows w) a g).isSome = true
noncomputable instance (rows : List Str) (w : Nat) (a : Pt) (gs : List Pt) : Decidable (allIn rows w a gs) := List.decidableBAll (fun g => (dst (G rows w) a g).isSome = true) gs
theorem wOk {rows : List Str} {w : Nat} (hr : RowsOk rows w) {fr : Pt → List (Pt × Int)} (hfr : ∀ c, c ∈ cellsOf rows w → FarOk rows w c (fr c)) {a : Pt} (ha : a ∈ cellsOf rows w) {hvs : List (Pt × Int)} {hv : Pt → Int} (hh : ∀ g ∈ hvs.map (·.1), g ∈ cellsOf rows w) (hlk : ∀ g ∈ hvs.map (·.1), lookK hvs g = some (hv g)) (hnd : (hvs.map (·.1)).Nodup) (hl : hvs.length ≤ 7) (hall : allIn rows w a (hvs.map (·.1))) :
    WOk hvs (putAll fr (a :: hvs.map (·.1)) []) (dI rows w) hv (a :: hvs.map (·.1)) (sortC (hvs.map (·.1))) := by
  have hcs : ∀ c ∈ a :: hvs.map (·.1), c ∈ cellsOf rows w := fun c hc => by
    rcases List.mem_cons.mp hc with rfl | hc
    · exact ha
    · exact hh c hc
  have hac : ∀ c ∈ a :: hvs.map (·.1), Conn (G rows w) a c := fun c hc => by
    rcases List.mem_cons.mp hc with rfl | hc
    · exact Conn.refl _
    · exact dst_conn.mp (hall c hc)
  have hd : ∀ c ∈ a :: hvs.map (·.1), ∀ g ∈ sortC (hvs.map (·.1)), ∃ k, dst (G rows w) c g = some k := fun c hc g hg => by
    have hg' := sortC_mem.mp hg
    have : Conn (G rows w) c g := ((hac c hc).symm gr_symm).trans (dst_conn.mp (hall g hg'))
    exact Option.isSome_iff_exists.mp (dst_conn.mpr this)
  refine ⟨fun g hg => hlk g (sortC_mem.mp hg), fun c hc g hg => ?_, fun g hg => List.mem_cons_of_mem _ (sortC_mem.mp hg), (sortC_perm _).nodup_iff.mpr hnd, fun c hc g hg => ?_, by rw [List.length_cons, List.length_map]; omega, by rw [sortC_len, List.length_map]; omega⟩
  · obtain ⟨k, hk⟩ := hd c hc g hg
    refine ⟨fr c, ?_, ?_⟩
    · rw [putAll_look, if_pos hc]
    · rw [(hfr c (hcs c hc)).look, hk]
      unfold dI
      rw [hk]
      rfl
  · obtain ⟨k, hk⟩ := hd c hc g hg
    have := dst_small hr (hcs c hc) hk
    unfold dI
    rw [hk]
    show 0 ≤ (k : Int) ∧ (k : Int) < 1000
    omega
end K91
set_option Elab.async false
set_option linter.all false
set_option maxRecDepth 100000
set_option maxHeartbeats 4000000
namespace K91
open PySem PySem.Spec PyProof.Rows L2 En
theorem gt_ok (i j : Int) (t : T) : fGt (.d (.int i)) (.d (.int j)) t = .ok (.d (.bl (decide (j < i)))) t := rfl
theorem lenTd (f : List (Pt × Int)) (t : T) : fLenT [.d (.dT (encFD f))] t = .ok (.d (.int (f.length : Int))) t := by
  show R.ok (Val.d (.int ((encFD f).length : Int))) t = _
  unfold encFD
  rw [List.length_map]
theorem ne_cellsL0 (ps : List Pt) (t : T) : fNe (.d (.lst (ps.map cellD))) (.d (.lst [])) t = .ok (.d (.bl (!ps.isEmpty))) t := ne_cellsL ps t
theorem filter_first {l : List Pt} {p : Pt → Bool} {g : Pt} (h : (l.filter p).head? = some g) (t : T) : fIx (.d (.lst ((l.filter p).map cellD))) (.d (.int 0)) t = .ok (.d (cellD g)) t := by
  cases e : l.filter p with
  | nil => rw [e] at h; cases h
  | cons x xs =>
    rw [e] at h
    have : x = g := by simpa using h
    subst this
    exact ix_cellL (ps := x :: xs) (q := 0) (by simp) t
def condW : ME Bool := (m1 asB (m2 fNe (mVar 4) (mL fTup mNil)))
def bodyW : MS := (sSeq (sSet 8 (mMethG "Waits" "least" (f_Waits__least 8) (mVar 3) (mCons (mVar 7) (mCons (mVar 4) mNil))))
        (sSeq (sSet 7 (m2 fIx (mL fFz (mLc [10, 11] (gT 2 (gsCons (gN 10) (gsCons (gN 11) gsNil))) (m1 fIter (mMethG "Waits" "totals" (f_Waits__totals (f_Waits__least 8)) (mVar 3) (mCons (mVar 7) (mCons (mVar 4) mNil)))) (m1 asB (m2 fEq (mVar 10) (mVar 8))) (mVar 11))) (mC (.int 0))))
         (sSeq (sDrop (mMeth isLstB fAppend (mVar 6) (mCons (mVar 7) mNil)))
          (sSet 4 (mL fTuple (mCons (mL fFz (mLc [11] (gN 11) (m1 fIter (mVar 4)) (m1 asB (m2 fNe (mVar 11) (mVar 7))) (mVar 11))) mNil))))))
section
variable {hvs : List (Pt × Int)} {tbs : List (Pt × List (Pt × Int))} {d : Pt → Pt → Int} {hv : Pt → Int} {cs gs : List Pt} {x0 x1 x2 x5 : Option Val} {b : Box}
theorem bodyW_sat (ok : WOk hvs tbs d hv cs gs) {c : Pt} {l dn : List Pt} (hc : c ∈ cs) (hl : List.Sublist l gs) (hne : l ≠ []) (hdn : dn.length ≤ 100) {kvs : List (NestedKey × Val)} {more ext : List Cell} (hm : MemoW d hv cs gs kvs) {o8 o9 o10 o11 : Option Val} {V : Val → T → Prop} :
    (bodyW [x0, x1, x2, some (.loc 0), some (.d (.tup (l.map cellD))), x5, some (.loc (more.length + 2)), some (.d (cellD c)), o8, o9, o10, o11] ⟨WP0 hvs tbs kvs more ++ .lst ((dn.map cellD).map Val.d) :: ext, b⟩).sat
      (fun ρ t => ∃ g o8 o10 o11 kvs' ext', pickW d hv c l = some g ∧ g ∈ l ∧ ρ = [x0, x1, x2, some (.loc 0), some (.d (.tup ((restW l g).map cellD))), x5, some (.loc (more.length + 2)), some (.d (cellD g)), o8, o9, o10, o11] ∧ t = ⟨WP0 hvs tbs kvs' more ++ .lst (((dn ++ [g]).map cellD).map Val.d) :: ext', b⟩ ∧ MemoW d hv cs gs kvs') V := by
  have hln : l.Nodup := ok.nd.sublist hl
  have hll : l.length ≤ 7 := Nat.le_trans hl.length_le ok.gl
  obtain ⟨g, hpk, hg, _⟩ := pickW_some d hv hln hne c
  have hsh : ∀ kv ext, (WP0 hvs tbs kv more ++ .lst ((dn.map cellD).map Val.d) :: ext) = WP0 hvs tbs kv (more ++ .lst ((dn.map cellD).map Val.d) :: ext) := fun kv ext => rfl
  unfold bodyW
  refine seq_sat (N' := fun ρ t => ∃ kvs' ext', ρ = [x0, x1, x2, some (.loc 0), some (.d (.tup (l.map cellD))), x5, some (.loc (more.length + 2)), some (.d (cellD c)), some (.d (.int (leastW d hv c l))), o9, o10, o11] ∧ t = ⟨WP0 hvs tbs kvs' more ++ .lst ((dn.map cellD).map Val.d) :: ext', b⟩ ∧ MemoW d hv cs gs kvs') ?_ ?_
  · rw [w_sSet, hsh, w_methW no_least rfl]
    simp only [w_sSet, w_sRet, w_sDrop, w_sPar, w_sIf, w_sFor, w_sNil, w_m2, w_m1, w_mL, w_mCons, w_mNil, w_mC, mVar_sat, w_mIf, w_mMeth, w_mNot, w_mAnd, w_mOr, w_asB, sat_ok, List.map_cons, List.map_nil, List.cons_append, List.nil_append, List.getElem?_cons_zero, List.getElem?_cons_succ, List.set_cons_zero, List.set_cons_succ, List.length_cons, List.length_nil, Nat.reduceAdd, Nat.reduceSub, List.replicate, Nat.zero_add]
    refine sat_mono (least_sat ok 8 c l kvs _ b hc hl (by omega) hm) ?_
    rintro v t ⟨rfl, kvs', ext', rfl, hm'⟩
    exact ⟨kvs', ext ++ ext', rfl, by rw [hsh]; simp, hm'⟩
  rintro ρ t ⟨kvs1, ext1, rfl, rfl, hm1⟩
  refine seq_sat (N' := fun ρ t => ∃ kvs' ext', ρ = [x0, x1, x2, some (.loc 0), some (.d (.tup (l.map cellD))), x5, some (.loc (more.length + 2)), some (.d (cellD g)), some (.d (.int (leastW d hv c l))), o9, o10, o11] ∧ t = ⟨WP0 hvs tbs kvs' more ++ .lst ((dn.map cellD).map Val.d) :: ext', b⟩ ∧ MemoW d hv cs gs kvs') ?_ ?_
  · rw [w_sSet, w_m2, w_mL]
    simp only [mLc, sat_bind]
    rw [w_m1, hsh, w_methW no_totals rfl]
    simp only [w_sSet, w_sRet, w_sDrop, w_sPar, w_sIf, w_sFor, w_sNil, w_m2, w_m1, w_mL, w_mCons, w_mNil, w_mC, mVar_sat, w_mIf, w_mMeth, w_mNot, w_mAnd, w_mOr, w_asB, sat_ok, List.map_cons, List.map_nil, List.cons_append, List.nil_append, List.getElem?_cons_zero, List.getElem?_cons_succ, List.set_cons_zero, List.set_cons_succ, List.length_cons, List.length_nil, Nat.reduceAdd, Nat.reduceSub, List.replicate, Nat.zero_add]
    refine sat_mono (totals_sat ok (least_sat ok 8) hc hl (by omega) _ b hm1) ?_
    rintro v t ⟨rfl, kvs2, ext2, rfl, hm2⟩
    have hit : ∀ t : T, fIter (.d (.lst (l.map (totD d hv c l)))) t = .ok (l.map fun g => .d (totD d hv c l g)) t := fun t => by
      show R.ok ((l.map (totD d hv c l)).map Val.d) t = _
      rw [List.map_map]
      rfl
    have e1 := fun (t : T) => lcM_filter (f := gT 2 (gsCons (gN 10) (gsCons (gN 11) gsNil))) (tt := m1 asB (m2 fEq (mVar 10) (mVar 8))) (te := mVar 11) (ρ := [x0, x1, x2, some (.loc 0), some (.d (.tup (l.map cellD))), x5, some (.loc (more.length + 2)), some (.d (cellD c)), some (.d (.int (leastW d hv c l))), o9, none, none]) (t := t) (fun g => Val.d (totD d hv c l g)) (fun g => decide (totW d hv c l g = leastW d hv c l)) (fun g => .d (cellD g)) l [] (fun p hp => by
      refine ⟨_, rfl, ?_, fun _ => ?_⟩
      · simp only [List.map_cons, List.map_nil, List.length_cons, List.length_nil, List.replicate, List.cons_append, List.nil_append, List.append_nil, sSeq, sIf, sRet, sNil, sSet, sDrop, m2, m1, mL, mCons, mNil, mC, mVar, mIf, List.getElem?_cons_zero, List.getElem?_cons_succ, List.set_cons_zero, List.set_cons_succ, R.bind_ok, R.toS_ok, Nat.reduceAdd, Nat.reduceSub, Nat.zero_add, En.eq_cell, En.asB_ok, En.eq_int, En.lt_ok, En.le_ok, En.sub_ok, En.add_ok, En.abs_ok, En.cell_0, En.cell_1, decide_true, decide_false, Bool.false_eq_true, if_true, if_false, Bool.not_true, Bool.not_false]
      · simp only [List.map_cons, List.map_nil, List.length_cons, List.length_nil, List.replicate, List.cons_append, List.nil_append, List.append_nil, sSeq, sIf, sRet, sNil, sSet, sDrop, m2, m1, mL, mCons, mNil, mC, mVar, mIf, List.getElem?_cons_zero, List.getElem?_cons_succ, List.set_cons_zero, List.set_cons_succ, R.bind_ok, R.toS_ok, Nat.reduceAdd, Nat.reduceSub, Nat.zero_add, En.eq_cell, En.asB_ok, En.eq_int, En.lt_ok, En.le_ok, En.sub_ok, En.add_ok, En.abs_ok, En.cell_0, En.cell_1, decide_true, decide_false, Bool.false_eq_true, if_true, if_false, Bool.not_true, Bool.not_false]) (by show 0 + l.length ≤ 100000; omega)
    simp only [hit, sat_ok, wipeR, List.set_cons_zero, List.set_cons_succ]
    rw [e1, sat_ok, List.nil_append, fz_map cellD, sat_ok, filter_first hpk, sat_ok]
    exact ⟨kvs2, ext1 ++ ext2, rfl, by rw [hsh]; simp, hm2⟩
  rintro ρ t ⟨kvs2, ext2, rfl, rfl, hm2⟩
  have hlen : more.length + 2 = (WP0 hvs tbs kvs2 more).length := rfl
  have hpl : ((dn.map cellD).map Val.d).length < lim := by
    rw [List.length_map, List.length_map]
    show _ < 100000
    omega
  have e2 := fun (t : T) => lcM_filter (f := gN 11) (tt := m1 asB (m2 fNe (mVar 11) (mVar 7))) (te := mVar 11) (ρ := [x0, x1, x2, some (.loc 0), some (.d (.tup (l.map cellD))), x5, some (.loc (more.length + 2)), some (.d (cellD g)), some (.d (.int (leastW d hv c l))), o9, o10, none]) (t := t) (fun p => Val.d (cellD p)) (fun x => !decide (x = g)) (fun p => .d (cellD p)) l [] (fun p hp => by
    refine ⟨_, rfl, ?_, fun _ => ?_⟩
    · simp only [List.map_cons, List.map_nil, List.length_cons, List.length_nil, List.replicate, List.cons_append, List.nil_append, List.append_nil, sSeq, sIf, sRet, sNil, sSet, sDrop, m2, m1, mL, mCons, mNil, mC, mVar, mIf, List.getElem?_cons_zero, List.getElem?_cons_succ, List.set_cons_zero, List.set_cons_succ, R.bind_ok, R.toS_ok, Nat.reduceAdd, Nat.reduceSub, Nat.zero_add, En.eq_cell, En.asB_ok, En.eq_int, En.lt_ok, En.le_ok, En.sub_ok, En.add_ok, En.abs_ok, En.cell_0, En.cell_1, decide_true, decide_false, Bool.false_eq_true, if_true, if_false, Bool.not_true, Bool.not_false, ne_cell']
    · simp only [List.map_cons, List.map_nil, List.length_cons, List.length_nil, List.replicate, List.cons_append, List.nil_append, List.append_nil, sSeq, sIf, sRet, sNil, sSet, sDrop, m2, m1, mL, mCons, mNil, mC, mVar, mIf, List.getElem?_cons_zero, List.getElem?_cons_succ, List.set_cons_zero, List.set_cons_succ, R.bind_ok, R.toS_ok, Nat.reduceAdd, Nat.reduceSub, Nat.zero_add, En.eq_cell, En.asB_ok, En.eq_int, En.lt_ok, En.le_ok, En.sub_ok, En.add_ok, En.abs_ok, En.cell_0, En.cell_1, decide_true, decide_false, Bool.false_eq_true, if_true, if_false, Bool.not_true, Bool.not_false]) (by show 0 + l.length ≤ 100000; omega)
  refine seq_sat (N' := fun ρ t => ρ = [x0, x1, x2, some (.loc 0), some (.d (.tup (l.map cellD))), x5, some (.loc (more.length + 2)), some (.d (cellD g)), some (.d (.int (leastW d hv c l))), o9, o10, o11] ∧ t = ⟨WP0 hvs tbs kvs2 more ++ .lst (((dn ++ [g]).map cellD).map Val.d) :: ext2, b⟩) ?_ ?_
  · simp only [w_sSet, w_sRet, w_sDrop, w_sPar, w_sIf, w_sFor, w_sNil, w_m2, w_m1, w_mL, w_mCons, w_mNil, w_mC, mVar_sat, w_mIf, w_mMeth, w_mNot, w_mAnd, w_mOr, w_asB, sat_ok, List.map_cons, List.map_nil, List.cons_append, List.nil_append, List.getElem?_cons_zero, List.getElem?_cons_succ, List.set_cons_zero, List.set_cons_succ, List.length_cons, List.length_nil, Nat.reduceAdd, Nat.reduceSub, List.replicate, Nat.zero_add]
    rw [hlen, isLst_mid, if_pos rfl, append_mid hpl, sat_ok]
    exact ⟨trivial, by simp⟩
  rintro ρ t ⟨rfl, rfl⟩
  simp only [w_sSet, w_sRet, w_sDrop, w_sPar, w_sIf, w_sFor, w_sNil, w_m2, w_m1, w_mL, w_mCons, w_mNil, w_mC, mVar_sat, w_mIf, w_mMeth, w_mNot, w_mAnd, w_mOr, w_asB, sat_ok, List.map_cons, List.map_nil, List.cons_append, List.nil_append, List.getElem?_cons_zero, List.getElem?_cons_succ, List.set_cons_zero, List.set_cons_succ, List.length_cons, List.length_nil, Nat.reduceAdd, Nat.reduceSub, List.replicate, Nat.zero_add, mLc, cells_iter, wipeR, sat_bind]
  rw [e2, sat_ok, List.nil_append, fz_map cellD, sat_ok, tupL, sat_ok]
  exact ⟨g, _, _, _, kvs2, ext2, hpk, hg, rfl, rfl, hm2⟩
theorem whileW_sat (ok : WOk hvs tbs d hv cs gs) {more : List Cell} {V : Val → T → Prop} : ∀ (n : Nat) (l dn : List Pt) (c : Pt) (kvs : List (NestedKey × Val)) (ext : List Cell) (o8 o9 o10 o11 : Option Val), c ∈ cs → List.Sublist l gs → l.length < n → dn.length + l.length ≤ 100 → MemoW d hv cs gs kvs →
    (whileM condW bodyW n [x0, x1, x2, some (.loc 0), some (.d (.tup (l.map cellD))), x5, some (.loc (more.length + 2)), some (.d (cellD c)), o8, o9, o10, o11] ⟨WP0 hvs tbs kvs more ++ .lst ((dn.map cellD).map Val.d) :: ext, b⟩).sat
      (fun ρ t => ∃ o4 o7 o8 o9 o10 o11 kvs' ext', ρ = [x0, x1, x2, some (.loc 0), o4, x5, some (.loc (more.length + 2)), o7, o8, o9, o10, o11] ∧ t = ⟨WP0 hvs tbs kvs' more ++ .lst (((dn ++ walkW d hv c l).map cellD).map Val.d) :: ext', b⟩) V
  | 0, l, dn, c, kvs, ext, o8, o9, o10, o11, hc, hl, hn, hd, hm => absurd hn (Nat.not_lt_zero _)
  | n + 1, l, dn, c, kvs, ext, o8, o9, o10, o11, hc, hl, hn, hd, hm => by
    have htup0 : ∀ t : T, fTup [] t = .ok (.d (.tup [])) t := fun _ => rfl
    have hcd : ∀ t : T, condW [x0, x1, x2, some (.loc 0), some (.d (.tup (l.map cellD))), x5, some (.loc (more.length + 2)), some (.d (cellD c)), o8, o9, o10, o11] t = .ok (!l.isEmpty) t := fun t => by
      unfold condW
      simp only [List.map_cons, List.map_nil, List.length_cons, List.length_nil, List.replicate, List.cons_append, List.nil_append, List.append_nil, sSeq, sIf, sRet, sNil, sSet, sDrop, m2, m1, mL, mCons, mNil, mC, mVar, mIf, List.getElem?_cons_zero, List.getElem?_cons_succ, List.set_cons_zero, List.set_cons_succ, R.bind_ok, R.toS_ok, Nat.reduceAdd, Nat.reduceSub, Nat.zero_add, En.eq_cell, En.asB_ok, En.eq_int, En.lt_ok, En.le_ok, En.sub_ok, En.add_ok, En.abs_ok, En.cell_0, En.cell_1, decide_true, decide_false, Bool.false_eq_true, if_true, if_false, Bool.not_true, Bool.not_false, htup0, ne_T0]
    unfold whileM
    rw [hcd]
    by_cases hne : l = []
    · subst hne
      exact ⟨_, _, _, _, _, _, kvs, ext, rfl, by rw [show walkW d hv c [] = [] from rfl, List.append_nil]⟩
    · have hemp : l.isEmpty = false := by cases l with | nil => exact absurd rfl hne | cons _ _ => rfl
      have hln : l.Nodup := ok.nd.sublist hl
      simp only [hemp, Bool.not_false, R.toS_ok, if_true]
      have hb := bodyW_sat (x0 := x0) (x1 := x1) (x2 := x2) (x5 := x5) (b := b) (more := more) (ext := ext) (o8 := o8) (o9 := o9) (o10 := o10) (o11 := o11) (V := V) ok hc hl hne (dn := dn) (by omega) hm
      generalize hr : bodyW [x0, x1, x2, some (.loc 0), some (.d (.tup (l.map cellD))), x5, some (.loc (more.length + 2)), some (.d (cellD c)), o8, o9, o10, o11] ⟨WP0 hvs tbs kvs more ++ .lst ((dn.map cellD).map Val.d) :: ext, b⟩ = r at hb ⊢
      cases r with
      | nx ρ t =>
        obtain ⟨g, o8', o10', o11', kvs', ext', hpk, hg, rfl, rfl, hm'⟩ := hb
        simp only [turnS]
        have hrl := restW_len hln hg
        have hlp : 0 < l.length := List.length_pos_of_mem hg
        refine rsat_mono (whileW_sat ok n (restW l g) (dn ++ [g]) g kvs' ext' o8' o9 o10' o11' (ok.sub g (hl.subset hg)) (List.filter_sublist.trans hl) (by omega) (by rw [List.length_append, List.length_cons, List.length_nil]; omega) hm') (fun ρ t h => ?_) (fun _ _ h => h)
        obtain ⟨a4, a7, a8, a9, a10, a11, k2, e2, h1, h2⟩ := h
        refine ⟨a4, a7, a8, a9, a10, a11, k2, e2, h1, ?_⟩
        rw [h2, walkW_cons d hv hln hpk hg, List.append_assoc]
        rfl
      | rt v t => exact hb
      | bk _ _ => exact hb.elim
      | ct _ _ => exact hb.elim
      | exc _ _ => exact hb.elim
      | stuck => exact hb.elim
end
end K91
set_option Elab.async false
set_option linter.all false
set_option maxRecDepth 100000
set_option maxHeartbeats 4000000
namespace K91
open PySem PySem.Spec PyProof.Rows L2 En
theorem seq_nx {a b : MS} {ρ ρ1 : Rho} {t t1 : T} (h : a ρ t = .nx ρ1 t1) : sSeq a b ρ t = b ρ1 t1 := by unfold sSeq; rw [h]
noncomputable def waitD (rows : List Str) (w : Nat) (hv : Pt → Int) (a : Pt) (gs : List Pt) : D :=
  if allIn rows w a gs then .tup [.int (leastW (dI rows w) hv a (sortC gs)), .lst ((walkW (dI rows w) hv a (sortC gs)).map cellD)] else .non
theorem waited_sat {rows : List Str} {w : Nat} (hr : RowsOk rows w) {a : Pt} (ha : a ∈ cellsOf rows w) {hvs : List (Pt × Int)} {hv : Pt → Int} (hh : ∀ g ∈ hvs.map (·.1), g ∈ cellsOf rows w) (hlk : ∀ g ∈ hvs.map (·.1), lookK hvs g = some (hv g)) (hnd : (hvs.map (·.1)).Nodup) (hl : hvs.length ≤ 7) (b : Box) :
    (f_waited [.d (islD rows), .d (cellD a), .d (.dT (encFD hvs))] b).sat fun v t => v = .d (waitD rows w hv a (hvs.map (·.1))) ∧ t.b = b := by
  obtain ⟨fr, hfr⟩ := dists_fun hr b
  have hmk : fMakeG "Waits" f_Waits____init__ [.d (islD rows), .d (cellD a), .d (.dT (encFD hvs))] ⟨[], b⟩ = .ok (.loc 0) ⟨WP0 hvs (putAll fr (a :: hvs.map (·.1)) []) [] [], b⟩ := by
    unfold fMakeG
    simp only [List.length_nil, List.nil_append, init_W hr hfr ha hvs hh (by omega)]
  have htb : lookK (putAll fr (a :: hvs.map (·.1)) []) a = some (fr a) := by rw [putAll_look, if_pos (List.mem_cons_self ..)]
  have hfa := (hfr a ha).2
  have htup0 : ∀ t : T, fTup [] t = .ok (.d (.tup [])) t := fun _ => rfl
  have hf0 : ∀ t : T, fFz [] t = .ok (.d (.lst [])) t := fun _ => rfl
  have hf1 : ∀ t : T, fLen [] t = .ok [] t := fun _ => rfl
  refine run_sat ?_
  unfold m_waited
  refine seq_sat (N' := fun ρ t => ρ = [some (.d (islD rows)), some (.d (cellD a)), some (.d (.dT (encFD hvs))), none, none, none, none, none, none, none, none, none] ∧ t = ⟨[], b⟩) ?_ ?_
  · rw [w_sIf]
    simp only [w_sSet, w_sRet, w_sDrop, w_sPar, w_sIf, w_sFor, w_sNil, w_m2, w_m1, w_mL, w_mCons, w_mNil, w_mC, mVar_sat, w_mIf, w_mMeth, w_mNot, w_mAnd, w_mOr, w_asB, sat_ok, List.map_cons, List.map_nil, List.cons_append, List.nil_append, List.getElem?_cons_zero, List.getElem?_cons_succ, List.set_cons_zero, List.set_cons_succ, List.length_cons, List.length_nil, Nat.reduceAdd, Nat.reduceSub, List.replicate, Nat.zero_add, lenTd, d_MAX_GOALS, gt_ok]
    rw [decide_eq_false (by omega), if_neg (by decide), w_sNil]
    exact ⟨rfl, rfl⟩
  rintro ρ t ⟨rfl, rfl⟩
  generalize htbs : putAll fr (a :: hvs.map (·.1)) [] = tbs at hmk htb
  generalize hgs : sortC (hvs.map (·.1)) = gs
  refine seq_sat (N' := fun ρ t => ρ = [some (.d (islD rows)), some (.d (cellD a)), some (.d (.dT (encFD hvs))), some (.loc 0), some (.d (.tup (gs.map cellD))), none, none, none, none, none, none, none] ∧ t = ⟨WP0 hvs tbs [] [], b⟩) ?_ ?_
  · rw [w_sAsgT]
    simp only [w_sSet, w_sRet, w_sDrop, w_sPar, w_sIf, w_sFor, w_sNil, w_m2, w_m1, w_mL, w_mCons, w_mNil, w_mC, mVar_sat, w_mIf, w_mMeth, w_mNot, w_mAnd, w_mOr, w_asB, sat_ok, List.map_cons, List.map_nil, List.cons_append, List.nil_append, List.getElem?_cons_zero, List.getElem?_cons_succ, List.set_cons_zero, List.set_cons_succ, List.length_cons, List.length_nil, Nat.reduceAdd, Nat.reduceSub, List.replicate, Nat.zero_add, hmk, sortedFD, tupL]
    rw [if_pos ⟨trivial, by decide⟩, hgs]
    exact ⟨rfl, rfl⟩
  rintro ρ t ⟨rfl, rfl⟩
  have hglen : gs.length ≤ 7 := by rw [← hgs, sortC_len, List.length_map]; exact hl
  have hgm : ∀ g, g ∈ gs ↔ g ∈ hvs.map (·.1) := fun g => by rw [← hgs]; exact sortC_mem
  have e1 := fun (t : T) (ht : t = ⟨WP0 hvs tbs [] [], b⟩) => lcM_filter (f := gN 9) (tt := m1 asB (m2 fDNotIn (mVar 9) (m2 fDGet (m1 (fFld ["Waits"] "tables") (mVar 3)) (mVar 1)))) (te := mVar 9) (ρ := [some (.d (islD rows)), some (.d (cellD a)), some (.d (.dT (encFD hvs))), some (.loc 0), some (.d (.tup (gs.map cellD))), none, none, none, none, none, none, none]) (t := t) (fun p => Val.d (cellD p)) (fun g => !(dst (G rows w) a g).isSome) (fun p => .d (cellD p)) gs [] (fun p hp => by
    subst ht
    refine ⟨_, rfl, ?_, fun _ => ?_⟩
    · simp only [List.map_cons, List.map_nil, List.length_cons, List.length_nil, List.replicate, List.cons_append, List.nil_append, List.append_nil, sSeq, sIf, sRet, sNil, sSet, sDrop, m2, m1, mL, mCons, mNil, mC, mVar, mIf, List.getElem?_cons_zero, List.getElem?_cons_succ, List.set_cons_zero, List.set_cons_succ, R.bind_ok, R.toS_ok, Nat.reduceAdd, Nat.reduceSub, Nat.zero_add, En.eq_cell, En.asB_ok, En.eq_int, En.lt_ok, En.le_ok, En.sub_ok, En.add_ok, En.abs_ok, En.cell_0, En.cell_1, decide_true, decide_false, Bool.false_eq_true, if_true, if_false, Bool.not_true, Bool.not_false, fld_tables, lookTb htb, notInFD hfa]
    · simp only [List.map_cons, List.map_nil, List.length_cons, List.length_nil, List.replicate, List.cons_append, List.nil_append, List.append_nil, sSeq, sIf, sRet, sNil, sSet, sDrop, m2, m1, mL, mCons, mNil, mC, mVar, mIf, List.getElem?_cons_zero, List.getElem?_cons_succ, List.set_cons_zero, List.set_cons_succ, R.bind_ok, R.toS_ok, Nat.reduceAdd, Nat.reduceSub, Nat.zero_add, En.eq_cell, En.asB_ok, En.eq_int, En.lt_ok, En.le_ok, En.sub_ok, En.add_ok, En.abs_ok, En.cell_0, En.cell_1, decide_true, decide_false, Bool.false_eq_true, if_true, if_false, Bool.not_true, Bool.not_false]) (by show 0 + gs.length ≤ 100000; omega)
  have hcond : ∀ Q : Bool → T → Prop, ((m1 asB (m2 fNe (mL fFz (mLc [9] (gN 9) (m1 fIter (mVar 4)) (m1 asB (m2 fDNotIn (mVar 9) (m2 fDGet (m1 (fFld ["Waits"] "tables") (mVar 3)) (mVar 1)))) (mVar 9))) (mL fFz (mL fLen mNil)))) [some (.d (islD rows)), some (.d (cellD a)), some (.d (.dT (encFD hvs))), some (.loc 0), some (.d (.tup (gs.map cellD))), none, none, none, none, none, none, none] ⟨WP0 hvs tbs [] [], b⟩).sat Q = Q (!decide (allIn rows w a (hvs.map (·.1)))) ⟨WP0 hvs tbs [] [], b⟩ := fun Q => by
    simp only [w_sSet, w_sRet, w_sDrop, w_sPar, w_sIf, w_sFor, w_sNil, w_m2, w_m1, w_mL, w_mCons, w_mNil, w_mC, mVar_sat, w_mIf, w_mMeth, w_mNot, w_mAnd, w_mOr, w_asB, sat_ok, List.map_cons, List.map_nil, List.cons_append, List.nil_append, List.getElem?_cons_zero, List.getElem?_cons_succ, List.set_cons_zero, List.set_cons_succ, List.length_cons, List.length_nil, Nat.reduceAdd, Nat.reduceSub, List.replicate, Nat.zero_add, mLc, cells_iter, wipeR, sat_bind]
    rw [e1 _ rfl, sat_ok, List.nil_append, fz_map cellD, sat_ok]
    simp only [hf0, hf1, sat_ok, ne_cellsL0, w_asB]
    congr 1
    rw [Bool.eq_iff_iff]
    simp only [Bool.not_eq_true', List.isEmpty_eq_false_iff, decide_eq_false_iff_not, ne_eq, List.filter_eq_nil_iff]
    constructor
    · intro h z
      exact h fun g hg => by rw [z g ((hgm g).mp hg)]; simp
    · intro h z
      exact h fun g hg => by
        have := z g ((hgm g).mpr hg)
        exact Option.isSome_iff_ne_none.mpr (by simpa using this)
  by_cases hall : allIn rows w a (hvs.map (·.1))
  rotate_left
  · have hres : waitD rows w hv a (hvs.map (·.1)) = .non := if_neg hall
    rw [w_sSeq, w_sIf, hcond, decide_eq_false hall]
    simp only [Bool.not_false, if_true, w_sSet, w_sRet, w_sDrop, w_sPar, w_sIf, w_sFor, w_sNil, w_m2, w_m1, w_mL, w_mCons, w_mNil, w_mC, mVar_sat, w_mIf, w_mMeth, w_mNot, w_mAnd, w_mOr, w_asB, sat_ok, List.map_cons, List.map_nil, List.cons_append, List.nil_append, List.getElem?_cons_zero, List.getElem?_cons_succ, List.set_cons_zero, List.set_cons_succ, List.length_cons, List.length_nil, Nat.reduceAdd, Nat.reduceSub, List.replicate, Nat.zero_add]
    rw [hres]
    exact ⟨rfl, trivial⟩
  have hres : waitD rows w hv a (hvs.map (·.1)) = .tup [.int (leastW (dI rows w) hv a gs), .lst ((walkW (dI rows w) hv a gs).map cellD)] := by
    unfold waitD
    rw [if_pos hall, hgs]
  have ok : WOk hvs tbs (dI rows w) hv (a :: hvs.map (·.1)) gs := by
    rw [← htbs, ← hgs]
    exact wOk hr (fun c hc => (hfr c hc).2) ha hh hlk hnd hl hall
  refine seq_sat (N' := fun ρ t => ρ = [some (.d (islD rows)), some (.d (cellD a)), some (.d (.dT (encFD hvs))), some (.loc 0), some (.d (.tup (gs.map cellD))), none, none, none, none, none, none, none] ∧ t = ⟨WP0 hvs tbs [] [], b⟩) ?_ ?_
  · rw [w_sIf, hcond, decide_eq_true hall]
    simp only [Bool.not_true, Bool.false_eq_true, if_false, w_sNil]
    exact ⟨trivial, trivial⟩
  rintro ρ t ⟨rfl, rfl⟩
  refine seq_sat (N' := fun ρ t => ∃ kvs more, ρ = [some (.d (islD rows)), some (.d (cellD a)), some (.d (.dT (encFD hvs))), some (.loc 0), some (.d (.tup (gs.map cellD))), some (.d (.int (leastW (dI rows w) hv a gs))), some (.loc (more.length + 2)), some (.d (cellD a)), none, none, none, none] ∧ t = ⟨WP0 hvs tbs kvs more ++ .lst ((([] : List Pt).map cellD).map Val.d) :: [], b⟩ ∧ MemoW (dI rows w) hv (a :: hvs.map (·.1)) gs kvs) ?_ ?_
  · rw [w_sAsgT, w_mCons, w_methW no_least rfl]
    simp only [w_sSet, w_sRet, w_sDrop, w_sPar, w_sIf, w_sFor, w_sNil, w_m2, w_m1, w_mL, w_mCons, w_mNil, w_mC, mVar_sat, w_mIf, w_mMeth, w_mNot, w_mAnd, w_mOr, w_asB, sat_ok, List.map_cons, List.map_nil, List.cons_append, List.nil_append, List.getElem?_cons_zero, List.getElem?_cons_succ, List.set_cons_zero, List.set_cons_succ, List.length_cons, List.length_nil, Nat.reduceAdd, Nat.reduceSub, List.replicate, Nat.zero_add]
    refine sat_mono (least_sat ok 8 a gs [] [] b (List.mem_cons_self ..) (List.Sublist.refl _) (by omega) MemoW.nil) ?_
    rintro v t ⟨rfl, kvs', ext', rfl, hm'⟩
    have hnew : fNew [] (⟨WP0 hvs tbs kvs' ext', b⟩ : T) = .ok (.loc (ext'.length + 2)) ⟨WP0 hvs tbs kvs' ext' ++ [.lst []], b⟩ := rfl
    simp only [w_sSet, w_sRet, w_sDrop, w_sPar, w_sIf, w_sFor, w_sNil, w_m2, w_m1, w_mL, w_mCons, w_mNil, w_mC, mVar_sat, w_mIf, w_mMeth, w_mNot, w_mAnd, w_mOr, w_asB, sat_ok, List.map_cons, List.map_nil, List.cons_append, List.nil_append, List.getElem?_cons_zero, List.getElem?_cons_succ, List.set_cons_zero, List.set_cons_succ, List.length_cons, List.length_nil, Nat.reduceAdd, Nat.reduceSub, List.replicate, Nat.zero_add, hf1]
    rw [hnew, sat_ok, if_pos ⟨trivial, by decide⟩]
    exact ⟨kvs', ext', rfl, rfl, hm'⟩
  rintro ρ t ⟨kvs, more, rfl, rfl, hm⟩
  refine seq_sat (whileW_sat (x0 := some (.d (islD rows))) (x1 := some (.d (cellD a))) (x2 := some (.d (.dT (encFD hvs)))) (x5 := some (.d (.int (leastW (dI rows w) hv a gs)))) (b := b) ok 9 gs [] a kvs [] none none none none (List.mem_cons_self ..) (List.Sublist.refl _) (by omega) (by rw [List.length_nil]; omega) hm) ?_
  rintro ρ t ⟨o4, o7, o8, o9, o10, o11, kvs', ext', rfl, rfl⟩
  rw [show more.length + 2 = (WP0 hvs tbs kvs' more).length from rfl, w_sFz rfl dead_mid]
  simp only [w_sSet, w_sRet, w_sDrop, w_sPar, w_sIf, w_sFor, w_sNil, w_m2, w_m1, w_mL, w_mCons, w_mNil, w_mC, mVar_sat, w_mIf, w_mMeth, w_mNot, w_mAnd, w_mOr, w_asB, sat_ok, List.map_cons, List.map_nil, List.cons_append, List.nil_append, List.getElem?_cons_zero, List.getElem?_cons_succ, List.set_cons_zero, List.set_cons_succ, List.length_cons, List.length_nil, Nat.reduceAdd, Nat.reduceSub, List.replicate, Nat.zero_add, List.nil_append]
  rw [hres]
  exact ⟨_, _, rfl, rfl, rfl⟩
theorem waited_call {rows : List Str} {w : Nat} (hr : RowsOk rows w) {a : Pt} (ha : a ∈ cellsOf rows w) {hvs : List (Pt × Int)} {hv : Pt → Int} (hh : ∀ g ∈ hvs.map (·.1), g ∈ cellsOf rows w) (hlk : ∀ g ∈ hvs.map (·.1), lookK hvs g = some (hv g)) (hnd : (hvs.map (·.1)).Nodup) (hl : hvs.length ≤ 7) (t : T) :
    fCall f_waited [.d (islD rows), .d (cellD a), .d (.dT (encFD hvs))] t = .ok (.d (waitD rows w hv a (hvs.map (·.1)))) t := by
  obtain ⟨v, ⟨st, b⟩, e, rfl, hb⟩ := waited_sat hr ha hh hlk hnd hl t.b
  have hb : b = t.b := hb
  subst hb
  exact call_eq' rfl e
end K91
set_option Elab.async false
set_option linter.all false
set_option maxRecDepth 100000
set_option maxHeartbeats 4000000
namespace K91
open PySem PySem.Spec PyProof.Rows L2 En
theorem putAll_nodup {α : Type} (h : Pt → α) : ∀ (cs : List Pt) (acc : List (Pt × α)), cs.Nodup → (∀ c ∈ cs, c ∉ acc.map (·.1)) → putAll h cs acc = acc ++ cs.map fun c => (c, h c)
  | [], acc, _, _ => by simp [putAll]
  | c :: cs, acc, hn, ha => by
    obtain ⟨h1, h2⟩ := List.nodup_cons.mp hn
    have hc : lookK acc c = none := look_none.mpr (ha c (List.mem_cons_self ..))
    have e : putKV acc c (h c) = acc ++ [(c, h c)] := by
      unfold putKV
      rw [any_look, hc]
      rfl
    show putAll h cs (putKV acc c (h c)) = _
    rw [e, putAll_nodup h cs _ h2 fun x hx => ?_]
    · simp
    · rw [List.map_append, List.mem_append]
      rintro (z | z)
      · exact ha x (List.mem_cons_of_mem _ hx) z
      · have : x = c := by simpa using z
        subst this
        exact h1 hx
theorem putAll_nodup0 {α : Type} (h : Pt → α) {cs : List Pt} (hn : cs.Nodup) : putAll h cs [] = cs.map fun c => (c, h c) := by
  rw [putAll_nodup h cs [] hn (fun c _ z => by cases z), List.nil_append]
theorem keys_pairs {α : Type} (h : Pt → α) (cs : List Pt) : (cs.map fun c => (c, h c)).map (·.1) = cs := by
  rw [List.map_map]
  exact List.map_id cs
theorem look_pairs {α : Type} (h : Pt → α) {cs : List Pt} (hn : cs.Nodup) {c : Pt} (hc : c ∈ cs) : lookK (cs.map fun c => (c, h c)) c = some (h c) := by
  rw [← putAll_nodup0 h hn, putAll_look, if_pos hc]
theorem dig_call {rows : List Str} {w : Nat} (hr : RowsOk rows w) {a : Pt} (ha : a ∈ cellsOf rows w) {gs : List Pt} (hg : ∀ g ∈ gs, g ∈ cellsOf rows w) (hn : gs.Nodup) (hl : gs.length ≤ 7) (t : T) :
    fCall f_dig_walk [.d (islD rows), .d (cellD a), .d (.tup (gs.map cellD))] t = .ok (.d (waitD rows w (fun _ => 1) a gs)) t := by
  have hv1 := validate_call hr ha
  have hlen : (gs.map fun _ => ((0, 0) : Pt)).length ≤ 7 := by simpa using hl
  have hw := fun (t : T) => waited_call hr ha (hvs := gs.map fun c => (c, (1 : Int))) (hv := fun _ => 1) (by rw [keys_pairs]; exact hg) (by rw [keys_pairs]; exact fun g hg => look_pairs (fun _ => (1 : Int)) hn hg) (by rw [keys_pairs]; exact hn) (by rw [List.length_map]; exact hl) t
  obtain ⟨ρ', t', e, o3, rfl, rfl⟩ := forM_pre (f := gN 3) (b := (sDrop (mL (fCall f_validate_cell) (mCons (mVar 0) (mCons (mVar 3) mNil))))) (fun (c : Pt) => Val.d (cellD c)) (fun _ ρ tt => ∃ o3, ρ = [some (.d (islD rows)), some (.d (cellD a)), some (.d (.tup (gs.map cellD))), o3] ∧ tt = ⟨[], t.b⟩) gs (by
    rintro c pre post ρ tt epr ⟨o3, rfl, rfl⟩
    refine ⟨_, _, _, rfl, ?_, some (.d (cellD c)), rfl, rfl⟩
    simp only [List.map_cons, List.map_nil, List.length_cons, List.length_nil, List.replicate, List.cons_append, List.nil_append, List.append_nil, sSeq, sIf, sRet, sNil, sSet, sDrop, m2, m1, mL, mCons, mNil, mC, mVar, mIf, List.getElem?_cons_zero, List.getElem?_cons_succ, List.set_cons_zero, List.set_cons_succ, R.bind_ok, R.toS_ok, Nat.reduceAdd, Nat.reduceSub, Nat.zero_add, En.eq_cell, En.asB_ok, En.eq_int, En.lt_ok, En.le_ok, En.sub_ok, En.add_ok, En.abs_ok, En.cell_0, En.cell_1, decide_true, decide_false, Bool.false_eq_true, if_true, if_false, Bool.not_true, Bool.not_false, validate_call hr (hg c (by rw [epr]; simp))]) gs [] [some (.d (islD rows)), some (.d (cellD a)), some (.d (.tup (gs.map cellD))), none] ⟨[], t.b⟩ rfl ⟨none, rfl, rfl⟩
  have hdc := dcM_put D.int (fun _ => (1 : Int)) (i := 3) (ρ := [some (.d (islD rows)), some (.d (cellD a)), some (.d (.tup (gs.map cellD))), none]) (tv := mC (.int 1)) (t := ⟨[], t.b⟩) (fun v => rfl) gs [] (by simp only [List.length_nil]; omega) (fun c hc => rfl)
  have hnil : encV D.int [] = [] := rfl
  rw [hnil, putAll_nodup0 _ hn] at hdc
  have hfz : ∀ o3, (fDFz (mDc [3] (gN 3) (m1 fIter (mVar 2)) mYes (mVar 3) (mC (.int 1)))) [some (.d (islD rows)), some (.d (cellD a)), some (.d (.tup (gs.map cellD))), o3] ⟨[], t.b⟩ = .ok (.d (.dT (encFD (gs.map fun c => (c, (1 : Int)))))) ⟨[], t.b⟩ := fun o3 => by
    unfold fDFz mDc
    simp only [List.map_cons, List.map_nil, List.length_cons, List.length_nil, List.replicate, List.cons_append, List.nil_append, List.append_nil, sSeq, sIf, sRet, sNil, sSet, sDrop, m2, m1, mL, mCons, mNil, mC, mVar, mIf, List.getElem?_cons_zero, List.getElem?_cons_succ, List.set_cons_zero, List.set_cons_succ, R.bind_ok, R.toS_ok, Nat.reduceAdd, Nat.reduceSub, Nat.zero_add, En.eq_cell, En.asB_ok, En.eq_int, En.lt_ok, En.le_ok, En.sub_ok, En.add_ok, En.abs_ok, En.cell_0, En.cell_1, decide_true, decide_false, Bool.false_eq_true, if_true, if_false, Bool.not_true, Bool.not_false, cells_iter, wipeR]
    rw [hdc]
    simp only [R.bind_ok, encV_fz, encV_zip]
    rfl
  refine call_eq rfl ?_
  unfold f_dig_walk runF runG m_dig_walk
  simp only [List.map_cons, List.map_nil, List.length_cons, List.length_nil, List.replicate, List.cons_append, List.nil_append, List.append_nil, sSeq, sIf, sRet, sNil, sSet, sDrop, m2, m1, mL, mCons, mNil, mC, mVar, mIf, List.getElem?_cons_zero, List.getElem?_cons_succ, List.set_cons_zero, List.set_cons_succ, R.bind_ok, R.toS_ok, Nat.reduceAdd, Nat.reduceSub, Nat.zero_add, En.eq_cell, En.asB_ok, En.eq_int, En.lt_ok, En.le_ok, En.sub_ok, En.add_ok, En.abs_ok, En.cell_0, En.cell_1, decide_true, decide_false, Bool.false_eq_true, if_true, if_false, Bool.not_true, Bool.not_false, hv1, sFor, cells_iter, e, hfz, hw, keys_pairs]
theorem weigh_call {rows : List Str} {w : Nat} (hr : RowsOk rows w) {a : Pt} (ha : a ∈ cellsOf rows w) {hvs : List (Pt × Int)} {hv : Pt → Int} (hh : ∀ g ∈ hvs.map (·.1), g ∈ cellsOf rows w) (hlk : ∀ g ∈ hvs.map (·.1), lookK hvs g = some (hv g)) (hnd : (hvs.map (·.1)).Nodup) (hl : hvs.length ≤ 7) (hw1 : ∀ p ∈ hvs, 1 ≤ p.2 ∧ p.2 ≤ 1000000000) (t : T) :
    fCall f_weighed_walk [.d (islD rows), .d (cellD a), .d (.dT (encFD hvs))] t = .ok (.d (waitD rows w hv a (hvs.map (·.1)))) t := by
  have hv1 := validate_call hr ha
  have hwd := fun (t : T) => waited_call hr ha hh hlk hnd hl t
  have hki : ∀ t : T, fDKeysT (.d (.dT (encFD hvs))) t = .ok ((hvs.map (·.1)).map fun p => .d (cellD p)) t := fun t => by
    unfold fDKeysT
    simp only [encFD_eq, keys_enc]
  have hvi : ∀ t : T, fDValsT (.d (.dT (encFD hvs))) t = .ok ((hvs.map (·.2)).map fun (i : Int) => .d (.int i)) t := fun t => by
    unfold fDValsT
    simp only [encFD_eq, encD, List.map_map]
    rfl
  obtain ⟨ρ', t', e, o3, rfl, rfl⟩ := forM_pre (f := gN 3) (b := (sDrop (mL (fCall f_validate_cell) (mCons (mVar 0) (mCons (mVar 3) mNil))))) (fun (c : Pt) => Val.d (cellD c)) (fun _ ρ tt => ∃ o3, ρ = [some (.d (islD rows)), some (.d (cellD a)), some (.d (.dT (encFD hvs))), o3, none] ∧ tt = ⟨[], t.b⟩) (hvs.map (·.1)) (by
    rintro c pre post ρ tt epr ⟨o3, rfl, rfl⟩
    refine ⟨_, _, _, rfl, ?_, some (.d (cellD c)), rfl, rfl⟩
    simp only [List.map_cons, List.map_nil, List.length_cons, List.length_nil, List.replicate, List.cons_append, List.nil_append, List.append_nil, sSeq, sIf, sRet, sNil, sSet, sDrop, m2, m1, mL, mCons, mNil, mC, mVar, mIf, List.getElem?_cons_zero, List.getElem?_cons_succ, List.set_cons_zero, List.set_cons_succ, R.bind_ok, R.toS_ok, Nat.reduceAdd, Nat.reduceSub, Nat.zero_add, En.eq_cell, En.asB_ok, En.eq_int, En.lt_ok, En.le_ok, En.sub_ok, En.add_ok, En.abs_ok, En.cell_0, En.cell_1, decide_true, decide_false, Bool.false_eq_true, if_true, if_false, Bool.not_true, Bool.not_false, validate_call hr (hh c (by rw [epr]; simp))]) (hvs.map (·.1)) [] [some (.d (islD rows)), some (.d (cellD a)), some (.d (.dT (encFD hvs))), none, none] ⟨[], t.b⟩ rfl ⟨none, rfl, rfl⟩
  have e2 := fun o3 => lcM_filter (f := gN 4) (tt := mNot (m1 asB (mL (fCall f_is_number) (mCons (mVar 4) (mCons (mC (.int 1)) (mCons (mC d_MAX_WEIGHT) mNil)))))) (te := mVar 4) (ρ := [some (.d (islD rows)), some (.d (cellD a)), some (.d (.dT (encFD hvs))), o3, none]) (t := ⟨[], t.b⟩) (fun (i : Int) => Val.d (.int i)) (fun _ => false) (fun (i : Int) => .d (.int i)) (hvs.map (·.2)) [] (fun i hi => by
    obtain ⟨p, hp, rfl⟩ := List.mem_map.mp hi
    obtain ⟨h1, h2⟩ := hw1 p hp
    have hc : ∀ t : T, fCall f_is_number [.d (.int p.2), .d (.int 1), .d (.int 1000000000)] t = .ok (.d (.bl true)) t := fun t => call_eq rfl (by rw [is_number_eq, decide_eq_true h1, decide_eq_true h2]; rfl)
    refine ⟨_, rfl, ?_, fun z => by cases z⟩
    simp only [List.map_cons, List.map_nil, List.length_cons, List.length_nil, List.replicate, List.cons_append, List.nil_append, List.append_nil, sSeq, sIf, sRet, sNil, sSet, sDrop, m2, m1, mL, mCons, mNil, mC, mVar, mIf, List.getElem?_cons_zero, List.getElem?_cons_succ, List.set_cons_zero, List.set_cons_succ, R.bind_ok, R.toS_ok, Nat.reduceAdd, Nat.reduceSub, Nat.zero_add, En.eq_cell, En.asB_ok, En.eq_int, En.lt_ok, En.le_ok, En.sub_ok, En.add_ok, En.abs_ok, En.cell_0, En.cell_1, decide_true, decide_false, Bool.false_eq_true, if_true, if_false, Bool.not_true, Bool.not_false, mNot, d_MAX_WEIGHT, hc]) (by rw [List.length_map]; show 0 + _ ≤ 100000; omega)
  have hne : ∀ t : T, fNe (.d (.lst [])) (.d (.lst [])) t = .ok (.d (.bl false)) t := fun t => ne_cellsL [] t
  have hf0 : ∀ t : T, fFz [] t = .ok (.d (.lst [])) t := fun _ => rfl
  have hf1 : ∀ t : T, fLen [] t = .ok [] t := fun _ => rfl
  have hfe : ((hvs.map (·.2)).filter fun _ => false).map (fun (i : Int) => Val.d (.int i)) = [] := by rw [List.filter_eq_nil_iff.mpr (by simp)]; rfl
  refine call_eq rfl ?_
  unfold f_weighed_walk runF runG m_weighed_walk
  simp only [List.map_cons, List.map_nil, List.length_cons, List.length_nil, List.replicate, List.cons_append, List.nil_append, List.append_nil, sSeq, sIf, sRet, sNil, sSet, sDrop, m2, m1, mL, mCons, mNil, mC, mVar, mIf, List.getElem?_cons_zero, List.getElem?_cons_succ, List.set_cons_zero, List.set_cons_succ, R.bind_ok, R.toS_ok, Nat.reduceAdd, Nat.reduceSub, Nat.zero_add, En.eq_cell, En.asB_ok, En.eq_int, En.lt_ok, En.le_ok, En.sub_ok, En.add_ok, En.abs_ok, En.cell_0, En.cell_1, decide_true, decide_false, Bool.false_eq_true, if_true, if_false, Bool.not_true, Bool.not_false, hv1, sFor, hki, e, mLc, hvi, wipeR]
  rw [e2]
  simp only [List.map_cons, List.map_nil, List.length_cons, List.length_nil, List.replicate, List.cons_append, List.nil_append, List.append_nil, sSeq, sIf, sRet, sNil, sSet, sDrop, m2, m1, mL, mCons, mNil, mC, mVar, mIf, List.getElem?_cons_zero, List.getElem?_cons_succ, List.set_cons_zero, List.set_cons_succ, R.bind_ok, R.toS_ok, Nat.reduceAdd, Nat.reduceSub, Nat.zero_add, En.eq_cell, En.asB_ok, En.eq_int, En.lt_ok, En.le_ok, En.sub_ok, En.add_ok, En.abs_ok, En.cell_0, En.cell_1, decide_true, decide_false, Bool.false_eq_true, if_true, if_false, Bool.not_true, Bool.not_false, hfe, hf0, hf1, hne, hwd]
end K91
set_option Elab.async false
set_option linter.all false
set_option maxRecDepth 100000
set_option maxHeartbeats 1000000
set_option autoImplicit false
namespace En
open PySem PySem.Spec PyProof.Rows L2
theorem dataLt_asymm {x y : PyData} (h : PySem.W.dataLt x y = true) : PySem.W.dataLt y x = false := by
  cases e : PySem.W.dataLt y x with
  | false => rfl
  | true =>
    have := PyProof.Rows.lex_trans (O := PyProof.Rows.itemOrd) _ _ _ h e
    rw [PyProof.Rows.lex_irrefl] at this
    cases this
theorem minP_unique {α : Type} {z : α × PyData} : ∀ (xs : List (α × PyData)) (x : α × PyData), z ∈ x :: xs → (∀ y ∈ x :: xs, y = z ∨ PySem.W.dataLt z.2 y.2 = true) → minP x xs = z
  | [], x, hz, _ => by
    have : z = x := by simpa using hz
    rw [this]; rfl
  | y :: xs, x, hz, h => by
    have e : minP x (y :: xs) = minP (if PySem.W.dataLt y.2 x.2 then y else x) xs := rfl
    rw [e]
    rcases h x (List.mem_cons_self ..) with hx | hx
    · subst hx
      have hn : ¬ PySem.W.dataLt y.2 x.2 = true := by
        rcases h y (List.mem_cons_of_mem _ (List.mem_cons_self ..)) with hy | hy
        · rw [hy]
          intro q
          have := dataLt_asymm q
          rw [q] at this; cases this
        · rw [dataLt_asymm hy]; simp
      rw [if_neg hn]
      exact minP_unique xs x (List.mem_cons_self ..) fun u hu => by
        rcases List.mem_cons.mp hu with rfl | hu
        · exact .inl rfl
        · exact h u (List.mem_cons_of_mem _ (List.mem_cons_of_mem _ hu))
    · by_cases hy : y = z
      · rw [hy, if_pos hx]
        exact minP_unique xs z (List.mem_cons_self ..) fun u hu => by
          rcases List.mem_cons.mp hu with rfl | hu
          · exact .inl rfl
          · exact h u (List.mem_cons_of_mem _ (List.mem_cons_of_mem _ hu))
      · have hzx : z ≠ x := fun q => by
          rw [q] at hx
          have := dataLt_asymm hx
          rw [hx] at this; cases this
        have hm : z ∈ xs := by
          rcases List.mem_cons.mp hz with q | q
          · exact absurd q hzx
          · rcases List.mem_cons.mp q with q | q
            · exact absurd q.symm hy
            · exact q
        exact minP_unique xs _ (List.mem_cons_of_mem _ hm) fun u hu => by
          rcases List.mem_cons.mp hu with rfl | hu
          · split
            · exact h y (List.mem_cons_of_mem _ (List.mem_cons_self ..))
            · exact .inr hx
          · exact h u (List.mem_cons_of_mem _ (List.mem_cons_of_mem _ hu))
theorem alike_cells : ∀ A B : List (Int × Int), PySem.W.alikeAll (A.map cellP) (B.map cellP) = true
  | [], _ => by simp [PySem.W.alikeAll]
  | _ :: _, [] => by simp [PySem.W.alikeAll]
  | a :: A, b :: B => by
    simp only [List.map_cons, PySem.W.alikeAll, alike_cells A B, Bool.and_true]
    simp [cellP, PySem.W.alike, PySem.W.alikeAll]
theorem lt_cell {a b : Int × Int} (h : ltC a b) : PySem.W.dataLt (cellP a) (cellP b) = true := by
  have e := PySem.W.dataLe_ii (β := Int × Int) (fun p => p.1) (fun p => p.2)
  have e2 := congrFun (congrFun e b) a
  have e3 : PySem.W.dataLe false (fun b : Int × Int => PyData.tuple [.int b.1, .int b.2]) b a = !PySem.W.dataLt (cellP a) (cellP b) := rfl
  rw [e3] at e2
  have : decide (b.1 < a.1 ∨ (b.1 = a.1 ∧ b.2 ≤ a.2)) = false := by
    rw [decide_eq_false_iff_not]
    rcases h with h | h
    · omega
    · omega
  rw [this] at e2
  simpa using e2
theorem lex_cells : ∀ A B : List (Int × Int), lexC A B → PyProof.Rows.lexLt PyProof.Rows.itemOrd (PySem.W.keyToksAll (A.map cellP)) (PySem.W.keyToksAll (B.map cellP)) = true
  | [], _, h => by cases h
  | _ :: _, [], h => by cases h
  | a :: A, b :: B, h => by
    rw [List.map_cons, List.map_cons, PySem.W.dataLt_cons (by simp [cellP, PySem.W.alike, PySem.W.alikeAll]), eqv_cell]
    rcases h with h | ⟨rfl, h⟩
    · have hne : ¬ a = b := fun z => by
        subst z
        rcases h with h | h <;> omega
      rw [if_neg (by simp [hne])]
      exact lt_cell h
    · rw [if_pos (by simp)]
      exact lex_cells A B h
def ordP (s : Int) (o : List (Int × Int)) : PyData := .tuple [.int s, .list (o.map cellP)]
def ordD (s : Int) (o : List (Int × Int)) : D := .tup [.int s, .lst (o.map cellD)]
theorem dataLt_ints (i j : Int) (h : i < j) : PySem.W.dataLt (.int i) (.int j) = true := by
  have e := PySem.W.dataLe_int (β := Int) (fun i => i)
  have e2 := congrFun (congrFun e j) i
  have e3 : PySem.W.dataLe false (fun b : Int => PyData.int b) j i = !PySem.W.dataLt (.int i) (.int j) := rfl
  rw [e3, decide_eq_false (show ¬ j ≤ i by omega)] at e2
  simpa using e2
theorem ord_lt {s s' : Int} {o o' : List (Int × Int)} (h : s < s' ∨ (s = s' ∧ lexC o o')) : PySem.W.dataLt (ordP s o) (ordP s' o') = true := by
  unfold ordP
  rw [PySem.W.dataLt_tuple, PySem.W.dataLt_cons (by simp [PySem.W.alike])]
  rcases h with h | ⟨rfl, h⟩
  · rw [if_neg (by simp [PyData.eqv]; omega)]
    exact dataLt_ints _ _ h
  · rw [if_pos (by simp [PyData.eqv]), PySem.W.dataLt_cons (by simp only [PySem.W.alike]; exact alike_cells o o')]
    have hl : PySem.W.dataLt (.list (o.map cellP)) (.list (o'.map cellP)) = true := by
      rw [PySem.W.dataLt_list]
      exact lex_cells o o' h
    by_cases he : PyData.eqv (.list (o.map cellP)) (.list (o'.map cellP)) = true
    · exfalso
      have hal : PySem.W.alike (.list (o.map cellP)) (.list (o'.map cellP)) = true := by simp only [PySem.W.alike]; exact alike_cells o o'
      have := (PySem.W.toks_eqv _ _ hal).1 he
      unfold PySem.W.dataLt at hl
      rw [this, PyProof.Rows.lex_irrefl] at hl
      cases hl
    · rw [if_neg he]; exact hl
theorem withPy_ords {α : Type} (s : α → Int) (o : α → List (Int × Int)) : ∀ xs : List α, withPy (xs.map fun x => ordD (s x) (o x)) = some (xs.map fun x => (ordD (s x) (o x), ordP (s x) (o x)))
  | [] => rfl
  | x :: xs => by
    have e : toPy (ordD (s x) (o x)) = some (ordP (s x) (o x)) := by
      unfold ordD ordP
      simp only [toPy, toPys, toPys_cells]
    simp only [List.map_cons, withPy, e, withPy_ords s o xs]
theorem minD_ords {α : Type} (s : α → Int) (o : α → List (Int × Int)) {xs : List α} {z : α} (hz : z ∈ xs) (h : ∀ x ∈ xs, (s x = s z ∧ o x = o z) ∨ s z < s x ∨ (s z = s x ∧ lexC (o z) (o x))) (t : T) :
    fMinD [.d (.lst (xs.map fun x => ordD (s x) (o x)))] t = .ok (.d (ordD (s z) (o z))) t := by
  cases xs with
  | nil => cases hz
  | cons x xs =>
    have hok : okMin ((x :: xs).map fun x => (ordD (s x) (o x), ordP (s x) (o x))) = true := by
      unfold okMin alikeB
      simp only [List.map_map, Bool.and_eq_true, List.all_eq_true, List.mem_map]
      refine ⟨?_, ?_, ?_⟩
      · rintro _ ⟨a, _, rfl⟩ _ ⟨b, _, rfl⟩
        simp only [Function.comp_apply, ordP, PySem.W.alike, PySem.W.alikeAll, alike_cells, Bool.and_self]
      · rintro _ ⟨a, _, rfl⟩; rfl
      · rintro _ ⟨a, _, rfl⟩
        have hd := depth_map cellP 1 (o a) fun c _ => cellP_depth c
        refine decide_eq_true ?_
        simp only [ordP, PyData.depth, PyData.depthAll]
        omega
    have hm := minP_unique (z := (ordD (s z) (o z), ordP (s z) (o z))) (xs.map fun x => (ordD (s x) (o x), ordP (s x) (o x))) (ordD (s x) (o x), ordP (s x) (o x)) (by
      have : (ordD (s z) (o z), ordP (s z) (o z)) ∈ (x :: xs).map fun x => (ordD (s x) (o x), ordP (s x) (o x)) := List.mem_map.mpr ⟨z, hz, rfl⟩
      exact this) (fun y hy => by
      have hy : y ∈ (x :: xs).map fun x => (ordD (s x) (o x), ordP (s x) (o x)) := hy
      obtain ⟨u, hu, rfl⟩ := List.mem_map.mp hy
      rcases h u hu with ⟨h1, h2⟩ | h
      · exact .inl (by rw [h1, h2])
      · exact .inr (ord_lt h))
    show (match datas (((x :: xs).map fun x => ordD (s x) (o x)).map Val.d) with | some ds => _ | none => _) = _
    rw [datas_map]
    show (match withPy ((x :: xs).map fun x => ordD (s x) (o x)) with | some (b :: bs) => _ | _ => _) = _
    rw [withPy_ords s o (x :: xs)]
    show (if okMin ((x :: xs).map fun x => (ordD (s x) (o x), ordP (s x) (o x))) = true then R.ok (Val.d (minP _ _).1) t else .stuck) = _
    rw [if_pos hok, hm]
end En
set_option Elab.async false
set_option linter.all false
set_option maxRecDepth 100000
set_option maxHeartbeats 4000000
namespace K91
open PySem PySem.Spec PyProof.Rows L2 En
theorem cellsOf_nodup (rows : List Str) (w : Nat) : (cellsOf rows w).Nodup := by
  rw [cellsOf_flat]
  unfold List.Nodup
  rw [List.pairwise_flatMap]
  refine ⟨fun r _ => ?_, ?_⟩
  · unfold rowCells
    rw [List.pairwise_map]
    refine (List.nodup_range.sublist List.filter_sublist).imp fun {a b} h e => h ?_
    have := congrArg Prod.snd e
    exact Int.ofNat.inj this
  · refine List.nodup_range.imp fun {a b} h x hx y hy e => h ?_
    unfold rowCells at hx hy
    obtain ⟨i, _, rfl⟩ := List.mem_map.mp hx
    obtain ⟨j, _, rfl⟩ := List.mem_map.mp hy
    have := congrArg Prod.fst e
    exact Int.ofNat.inj this
theorem perm_full : ∀ {o gs : List Pt}, o.Nodup → (∀ x ∈ o, x ∈ gs) → o.length = gs.length → o.Perm gs
  | [], gs, _, _, h => by
    rw [List.length_eq_zero_iff.mp h.symm]
  | a :: o, gs, hn, hs, h => by
    obtain ⟨h1, h2⟩ := List.nodup_cons.mp hn
    have ha : a ∈ gs := hs a (List.mem_cons_self ..)
    have ih : o.Perm (gs.erase a) := perm_full h2 (fun x hx => (List.mem_erase_of_ne fun z => h1 (by rw [← z]; exact hx)).mpr (hs x (List.mem_cons_of_mem _ hx))) (by rw [List.length_erase_of_mem ha, ← h]; simp)
    exact (ih.cons a).trans (List.perm_cons_erase ha).symm
theorem mul_sm2 {j : Int} (h0 : 0 ≤ j) (h1 : j ≤ 1000000000) (i : Int) (t : T) : fMul (.d (.int i)) (.d (.int j)) t = .ok (.d (.int (i * j))) t := by
  refine En.mul_ok ?_
  have e1 : (-(2 ^ 64) : Int) < j := by omega
  have e2 : j < (2 ^ 64 : Int) := by omega
  unfold cMul
  rw [decide_eq_true e1, decide_eq_true e2]
  simp
end K91
set_option Elab.async false
set_option linter.all false
set_option maxRecDepth 100000
set_option maxHeartbeats 4000000
namespace K91
open PySem PySem.Spec PyProof.Rows L2 En
theorem pairsK_map {α : Type} (g : α → D) : ∀ ps : List (Pt × α), pairsK (ps.map fun p => .tup [cellD p.1, g p.2]) = some (ps.map fun p => (kC p.1, g p.2))
  | [] => rfl
  | p :: ps => by
    simp only [List.map_cons, pairsK, keyT_cell, pairsK_map g ps]
theorem mergeK_put {α : Type} (g : α → D) (h : Pt → α) : ∀ (cs : List Pt) (acc : List (Pt × α)), mergeK (encV g acc) (cs.map fun c => (kC c, Val.d (g (h c)))) = encV g (putAll h cs acc)
  | [], acc => rfl
  | c :: cs, acc => by
    show mergeK (putKV (encV g acc) (kC c) (.d (g (h c)))) _ = _
    rw [encV_put, mergeK_put g h cs]
    rfl
theorem dictL_put {α : Type} (g : α → D) (h : Pt → α) (cs : List Pt) (hl : cs.length ≤ 1000) (t : T) : fDictL [.d (.lst (cs.map fun c => .tup [cellD c, g (h c)]))] t = .ok (encV g (putAll h cs [])) t := by
  have e := pairsK_map g (cs.map fun c => (c, h c))
  rw [List.map_map, List.map_map] at e
  have e2 := mergeK_put g h cs []
  unfold fDictL
  simp only
  rw [show (cs.map fun c => D.tup [cellD c, g (h c)]) = cs.map ((fun p : Pt × α => D.tup [cellD p.1, g p.2]) ∘ fun c => (c, h c)) from rfl, e]
  simp only
  rw [if_pos (by rw [List.length_map]; show _ ≤ 100000; omega)]
  congr 1
  rw [List.map_map]
  exact e2
theorem mergeK_pairs {α : Type} (g : α → D) : ∀ (ps acc : List (Pt × α)), (acc ++ ps).map (·.1) |>.Nodup → mergeK (encV g acc) (ps.map fun p => (kC p.1, Val.d (g p.2))) = encV g (acc ++ ps)
  | [], acc, _ => by rw [List.append_nil]; rfl
  | p :: ps, acc, hn => by
    have hc : lookK acc p.1 = none := look_none.mpr fun z => by
      rw [List.map_append] at hn
      exact (List.nodup_append.mp hn).2.2 p.1 z p.1 (List.mem_cons_self ..) rfl
    have e : putKV acc p.1 p.2 = acc ++ [p] := by
      unfold putKV
      rw [any_look, hc]
      rfl
    show mergeK (putKV (encV g acc) (kC p.1) (.d (g p.2))) _ = _
    rw [encV_put, e, mergeK_pairs g ps (acc ++ [p]) (by simpa using hn)]
    simp
theorem dictL_pairs {α : Type} (g : α → D) (ps : List (Pt × α)) (hn : (ps.map (·.1)).Nodup) (hl : ps.length ≤ 1000) (t : T) : fDictL [.d (.lst (ps.map fun p => .tup [cellD p.1, g p.2]))] t = .ok (encV g ps) t := by
  have e2 := mergeK_pairs g ps [] (by simpa using hn)
  unfold fDictL
  simp only [pairsK_map]
  rw [if_pos (by rw [List.length_map]; show _ ≤ 100000; omega)]
  congr 1
  rw [List.map_map]
  exact e2
theorem dict_fz {α : Type} (g : α → D) {m : ME (List Val)} {ρ : Rho} {t t1 : T} {vs : List Val} {f : List (Pt × α)} (h1 : m ρ t = .ok vs t1) (h2 : fDictL vs t1 = .ok (encV g f) t1) : fDFz (mDictL m) ρ t = .ok (.d (.dT (encD g f))) t1 := by
  unfold fDFz mDictL
  simp only [h1, R.bind_ok, h2, encV_fz, encV_zip]
theorem fars_fun {rows : List Str} {w : Nat} (hr : RowsOk rows w) (b : Box) : ∃ fr : Pt → List (Pt × Int), ∀ c, c ∈ cellsOf rows w → (∀ st : List Cell, fCall f__law_far [.d (.tup (rows.map D.str)), .d (cellD c)] ⟨st, b⟩ = .ok (.d (.dT (encFD (fr c)))) ⟨st, b⟩) ∧ FarOk rows w c (fr c) := by
  have h : ∀ c, ∃ f : List (Pt × Int), c ∈ cellsOf rows w → (∀ st : List Cell, fCall f__law_far [.d (.tup (rows.map D.str)), .d (cellD c)] ⟨st, b⟩ = .ok (.d (.dT (encFD f))) ⟨st, b⟩) ∧ FarOk rows w c f := fun c => by
    by_cases hc : c ∈ cellsOf rows w
    · have hl := cellsOf_len hr
      obtain ⟨f, st, e, hd, h2, h3⟩ := law_far_eq hr (by omega) adjL_cells hc b
      exact ⟨f, fun _ => ⟨fun st' => call_eq' rfl e, dst_look (dists_gr (fun _ _ => Iff.rfl) (land_iff.mpr hc) hd), h2, h3⟩⟩
    · exact ⟨[], fun z => absurd z hc⟩
  obtain ⟨fr, hfr⟩ := Classical.axiomOfChoice h
  exact ⟨fr, hfr⟩
theorem alike_ord (s : Int) (o : List Pt) (ho : o.length ≤ 1000) (t : T) : fCall (f__law_alike 6) [.d (ordD s o), .d (ordD s o)] t = .ok (.d (.bl true)) t := by
  refine call_eq (by simp [argOk, ordD]) ?_
  refine alike_tup 5 _ (by show 2 ≤ 100000; decide) (fun d hd b => ?_) t.b
  simp only [List.mem_cons, List.not_mem_nil, or_false] at hd
  rcases hd with rfl | rfl
  · exact alike_int 4 s b
  · refine alike_lst 4 _ (by rw [List.length_map]; show _ ≤ 100000; omega) (fun d hd b => ?_) b
    obtain ⟨p, _, rfl⟩ := List.mem_map.mp hd
    refine alike_tup 3 [.int p.1, .int p.2] (by show 2 ≤ 100000; decide) (fun d hd b => ?_) b
    simp only [List.mem_cons, List.not_mem_nil, or_false] at hd
    rcases hd with rfl | rfl
    · exact alike_int 2 _ b
    · exact alike_int 2 _ b
theorem alike_wait {rows : List Str} {w : Nat} {hv : Pt → Int} {a : Pt} {gs : List Pt} (hn : gs.Nodup) (hl : gs.length ≤ 1000) (t : T) : fCall (f__law_alike 6) [.d (waitD rows w hv a gs), .d (waitD rows w hv a gs)] t = .ok (.d (.bl true)) t := by
  unfold waitD
  split
  · refine alike_ord _ _ ?_ t
    have hsn : (sortC gs).Nodup := (sortC_perm gs).nodup_iff.mpr hn
    rw [(walkW_ok (dI rows w) hv (sortC gs).length (sortC gs) a rfl hsn).1.length_eq, sortC_len]
    exact hl
  · exact call_eq rfl (alike_non 5 t.b)
end K91
set_option Elab.async false
set_option linter.all false
set_option maxRecDepth 100000
set_option maxHeartbeats 4000000
namespace K91
open PySem PySem.Spec PyProof.Rows L2 En
def insO (g : Pt) (o : List Pt) : List (List Pt) := (List.range (o.length + 1)).map fun k => (o.take k ++ [g]) ++ o.drop k
def insAll (gs : List Pt) : List (List Pt) := gs.foldl (fun os g => os.flatMap (insO g)) [[]]
theorem insAll_snoc (gs : List Pt) (g : Pt) : insAll (gs ++ [g]) = (insAll gs).flatMap (insO g) := by
  unfold insAll
  rw [List.foldl_append]
  rfl
theorem insO_mem {g : Pt} {o p : List Pt} : p ∈ insO g o ↔ ∃ l1 l2, o = l1 ++ l2 ∧ p = l1 ++ g :: l2 := by
  unfold insO
  rw [List.mem_map]
  constructor
  · rintro ⟨k, _, rfl⟩
    exact ⟨o.take k, o.drop k, (List.take_append_drop k o).symm, by simp⟩
  · rintro ⟨l1, l2, rfl, rfl⟩
    refine ⟨l1.length, List.mem_range.mpr (by rw [List.length_append]; omega), ?_⟩
    simp
theorem insAll_rev : ∀ (n : Nat) (gs : List Pt), gs.length = n → ∀ o, o ∈ insAll gs ↔ o.Perm gs
  | 0, gs, e, o => by
    rw [List.length_eq_zero_iff.mp e]
    unfold insAll
    simp only [List.foldl_nil, List.mem_singleton]
    exact ⟨fun h => by rw [h], fun h => h.eq_nil⟩
  | n + 1, gs, e, o => by
    have hne : gs ≠ [] := fun z => by rw [z] at e; cases e
    have eg := List.dropLast_concat_getLast hne
    obtain ⟨pre, hpre⟩ : ∃ p, p = gs.dropLast := ⟨_, rfl⟩
    obtain ⟨g, hg⟩ : ∃ g, g = gs.getLast hne := ⟨_, rfl⟩
    rw [← hpre, ← hg] at eg
    rw [← eg, insAll_snoc, List.mem_flatMap]
    have ih := insAll_rev n pre (by rw [hpre, List.length_dropLast, e]; rfl)
    have hsn : (pre ++ [g]).Perm (g :: pre) := List.perm_append_comm
    constructor
    · rintro ⟨p, hp, ho⟩
      obtain ⟨l1, l2, rfl, rfl⟩ := insO_mem.mp ho
      have := (ih _).mp hp
      exact List.perm_middle.trans ((this.cons g).trans hsn.symm)
    · intro h
      have hm : g ∈ o := h.mem_iff.mpr (by simp)
      obtain ⟨l1, l2, rfl⟩ := List.append_of_mem hm
      refine ⟨l1 ++ l2, (ih _).mpr ?_, insO_mem.mpr ⟨l1, l2, rfl, rfl⟩⟩
      exact (List.Perm.cons_inv ((List.perm_middle.symm.trans h).trans hsn))
theorem insAll_perm (gs o : List Pt) : o ∈ insAll gs ↔ o.Perm gs := insAll_rev gs.length gs rfl o
def fct : Nat → Nat
  | 0 => 1
  | n + 1 => (n + 1) * fct n
theorem insAll_len : ∀ (n : Nat) (gs : List Pt), gs.length = n → (insAll gs).length = fct n
  | 0, gs, e => by
    rw [List.length_eq_zero_iff.mp e]
    rfl
  | n + 1, gs, e => by
    have hne : gs ≠ [] := fun z => by rw [z] at e; cases e
    have eg := List.dropLast_concat_getLast hne
    obtain ⟨pre, hpre⟩ : ∃ p, p = gs.dropLast := ⟨_, rfl⟩
    rw [← hpre] at eg
    have hl : pre.length = n := by rw [hpre, List.length_dropLast, e]; rfl
    rw [← eg, insAll_snoc]
    have ih := insAll_len n pre hl
    have h : ∀ l : List (List Pt), (∀ o ∈ l, o.length = n) → (l.flatMap (insO (gs.getLast hne))).length = (n + 1) * l.length := fun l => by
      induction l with
      | nil => intro _; simp
      | cons o l ih =>
        intro hl
        rw [List.flatMap_cons, List.length_append, ih fun o ho => hl o (List.mem_cons_of_mem _ ho), List.length_cons]
        have : (insO (gs.getLast hne) o).length = n + 1 := by
          unfold insO
          rw [List.length_map, List.length_range, hl o (List.mem_cons_self ..)]
        rw [this, Nat.mul_add]
        omega
    rw [h _ fun o ho => by rw [((insAll_perm pre o).mp ho).length_eq, hl], ih]
    rfl
def ordsT (os : List (List Pt)) : D := .lst (os.map fun o => .tup (o.map cellD))
def tupP (l : List Pt) : PyData := .tuple (l.map cellP)
def sortO (os : List (List Pt)) : List (List Pt) := os.mergeSort (PySem.W.dataLe false tupP)
theorem withPy_tups : ∀ os : List (List Pt), withPy (os.map fun o => .tup (o.map cellD)) = some (os.map fun o => (D.tup (o.map cellD), tupP o))
  | [] => rfl
  | o :: os => by
    have e : toPy (.tup (o.map cellD)) = some (tupP o) := by
      unfold tupP
      simp only [toPy, toPys_cells]
    simp only [List.map_cons, withPy, e, withPy_tups os]
theorem sort_ords (os : List (List Pt)) (hne : ∀ o ∈ os, o ≠ []) (t : T) : fSorted [.d (ordsT os)] t = .ok (.d (ordsT (sortO os))) t := by
  have hok : okSort (os.map fun o => (D.tup (o.map cellD), tupP o)) = true := by
    unfold okSort alikeB sortB
    simp only [List.map_map, Bool.and_eq_true, Bool.or_eq_true, List.all_eq_true, List.mem_map]
    refine ⟨?_, .inl ?_, ?_⟩
    · rintro _ ⟨a, _, rfl⟩ _ ⟨b, _, rfl⟩
      simp only [Function.comp_apply, tupP, PySem.W.alike, En.alike_cells]
    · rintro _ ⟨a, ha, rfl⟩
      cases a with
      | nil => exact absurd rfl (hne [] ha)
      | cons c cs => rfl
    · rintro _ ⟨a, _, rfl⟩
      have hd := depth_map cellP 1 a fun c _ => cellP_depth c
      refine decide_eq_true ?_
      simp only [tupP, PyData.depth]
      omega
  have hsd : sortD (os.map fun o => (D.tup (o.map cellD), tupP o)) = (sortO os).map fun o => .tup (o.map cellD) := by
    unfold sortD sortO
    rw [← List.map_mergeSort (r := PySem.W.dataLe false tupP) (f := fun o : List Pt => (D.tup (o.map cellD), tupP o)) (fun _ _ _ _ => rfl), List.map_map]
    rfl
  show (match sortV ((os.map fun o => D.tup (o.map cellD)).map Val.d) with | some ds => R.ok (Val.d (.lst ds)) t | none => .stuck) = _
  unfold sortV
  rw [datas_map]
  simp only [withPy_tups, hok, if_true, hsd]
  rfl
theorem orders_call {gs : List Pt} (hg : gs.length ≤ 7) (hne : gs ≠ []) (t : T) : fCall f__law_orders [.d (.tup (gs.map cellD))] t = .ok (.d (ordsT (sortO (insAll gs)))) t := by
  have hf1 : ∀ t : T, fLen [] t = .ok [] t := fun _ => rfl
  have htp0 : ∀ t : T, fTup [] t = .ok (.d (.tup [])) t := fun _ => rfl
  have hf2 : ∀ t : T, fLen [.d (.tup [])] t = .ok [.d (.tup [])] t := fun _ => rfl
  have hf3 : ∀ t : T, fFz [.d (.tup [])] t = .ok (.d (ordsT [[]])) t := fun _ => rfl
  have hoi : ∀ (os : List (List Pt)) (t : T), fIter (.d (ordsT os)) t = .ok (os.map fun o => .d (.tup (o.map cellD))) t := fun os t => by
    show R.ok ((os.map fun o => D.tup (o.map cellD)).map Val.d) t = _
    rw [List.map_map]
    rfl
  have hfct : ∀ n, n ≤ 7 → fct n ≤ 5040 := fun n hn => by
    have : n = 0 ∨ n = 1 ∨ n = 2 ∨ n = 3 ∨ n = 4 ∨ n = 5 ∨ n = 6 ∨ n = 7 := by omega
    rcases this with rfl | rfl | rfl | rfl | rfl | rfl | rfl | rfl <;> decide
  have hsl1 : ∀ (o : List Pt) (k : Nat) (t : T), k ≤ o.length → fSl (.d (.tup (o.map cellD))) none (some (0 + (k : Int))) t = .ok (.d (.tup ((o.take k).map cellD))) t := fun o k t h => by
    show R.ok (Val.d (.tup (En.cut (o.map cellD) none (some (0 + (k : Int)))))) t = _
    unfold En.cut
    rw [Int.zero_add, HT.sIx_nat, HT.sIx_none, List.length_map, Nat.min_eq_left h]
    simp
  have hsl2 : ∀ (o : List Pt) (k : Nat) (t : T), k ≤ o.length → fSl (.d (.tup (o.map cellD))) (some (0 + (k : Int))) none t = .ok (.d (.tup ((o.drop k).map cellD))) t := fun o k t h => by
    show R.ok (Val.d (.tup (En.cut (o.map cellD) (some (0 + (k : Int))) none))) t = _
    unfold En.cut
    rw [Int.zero_add, HT.sIx_nat, HT.sIx_none, List.length_map, Nat.min_eq_left h, List.take_of_length_le (by rw [List.length_drop, List.length_map]; omega), List.map_drop]
  have hadT : ∀ (o p : List Pt) (t : T), o.length + p.length ≤ 1000 → fAdd (.d (.tup (o.map cellD))) (.d (.tup (p.map cellD))) t = .ok (.d (.tup ((o ++ p).map cellD))) t := fun o p t h => by
    rw [addT (by rw [List.length_map, List.length_map]; show _ ≤ 100000; omega), List.map_append]
  have htp1 : ∀ (c : Pt) (t : T), fTup [.d (cellD c)] t = .ok (.d (.tup ([c].map cellD))) t := fun _ _ => rfl
  have hlen : ∀ (o : List Pt) (t : T), fLenB [.d (.tup (o.map cellD))] t = .ok (.d (.int (o.length : Int))) t := fun o t => by rw [len_tup, List.length_map]
  have hemp : ∀ t : T, fFz [] t = .ok (.d (ordsT [])) t := fun _ => rfl
  have inner : ∀ (pre : List Pt) (g : Pt) (o4 o5 : Option Val), pre.length < 7 → ∃ o4' o5', forM (gN 4) (sSet 3 (m2 fAdd (mVar 3) (mL fFz (mLc [5] (gN 5) (mL fRange1 (mCons (m2 fAdd (mL fLenB (mCons (mVar 4) mNil)) (mC (.int 1))) mNil)) mYes (m2 fAdd (m2 fAdd (mSl (mVar 4) mNoPart (m1 asPart (mVar 5))) (mL fTup (mCons (mVar 2) mNil))) (mSl (mVar 4) (m1 asPart (mVar 5)) mNoPart)))))) ((insAll pre).map fun o => .d (.tup (o.map cellD))) [some (.d (.tup (gs.map cellD))), some (.d (ordsT (insAll pre))), some (.d (cellD g)), some (.d (ordsT [])), o4, o5] ⟨[], t.b⟩ = .nx [some (.d (.tup (gs.map cellD))), some (.d (ordsT (insAll pre))), some (.d (cellD g)), some (.d (ordsT (insAll (pre ++ [g])))), o4', o5'] ⟨[], t.b⟩ := fun pre g o4 o5 hp => by
    obtain ⟨ρ', t', e, o4', o5', rfl, rfl⟩ := forM_pre (f := gN 4) (b := (sSet 3 (m2 fAdd (mVar 3) (mL fFz (mLc [5] (gN 5) (mL fRange1 (mCons (m2 fAdd (mL fLenB (mCons (mVar 4) mNil)) (mC (.int 1))) mNil)) mYes (m2 fAdd (m2 fAdd (mSl (mVar 4) mNoPart (m1 asPart (mVar 5))) (mL fTup (mCons (mVar 2) mNil))) (mSl (mVar 4) (m1 asPart (mVar 5)) mNoPart))))))) (fun (o : List Pt) => Val.d (.tup (o.map cellD))) (fun os ρ tt => ∃ o4 o5, ρ = [some (.d (.tup (gs.map cellD))), some (.d (ordsT (insAll pre))), some (.d (cellD g)), some (.d (ordsT (os.flatMap (insO g)))), o4, o5] ∧ tt = ⟨[], t.b⟩) (insAll pre) (by
      rintro o os post ρ tt epr ⟨o4, o5, rfl, rfl⟩
      have ho : o ∈ insAll pre := by rw [epr]; simp
      have hol := ((insAll_perm pre o).mp ho).length_eq
      have hl2 := insAll_len (pre.length + 1) (pre ++ [g]) (by simp)
      have hf2 := hfct (pre.length + 1) (by omega)
      have hos : (os.flatMap (insO g)).length + (insO g o).length ≤ 5040 := by
        rw [insAll_snoc, epr, List.flatMap_append, List.length_append, List.flatMap_cons, List.length_append] at hl2
        omega
      have e2 := lcM_filter (f := gN 5) (tt := mYes) (te := (m2 fAdd (m2 fAdd (mSl (mVar 4) mNoPart (m1 asPart (mVar 5))) (mL fTup (mCons (mVar 2) mNil))) (mSl (mVar 4) (m1 asPart (mVar 5)) mNoPart))) (ρ := [some (.d (.tup (gs.map cellD))), some (.d (ordsT (insAll pre))), some (.d (cellD g)), some (.d (ordsT (os.flatMap (insO g)))), some (.d (.tup (o.map cellD))), none]) (t := ⟨[], t.b⟩) (fun (k : Nat) => Val.d (.int (0 + (k : Int)))) (fun _ => true) (fun k => .d (.tup (((o.take k ++ [g]) ++ o.drop k).map cellD))) (List.range (o.length + 1)) [] (fun k hk => by
        have hk : k ≤ o.length := by have := List.mem_range.mp hk; omega
        have hpa : ∀ (i : Int) (t : T), asPart (.d (.int i)) t = .ok (some i) t := fun _ _ => rfl
        have hnp : ∀ (ρ : Rho) (t : T), mNoPart ρ t = .ok none t := fun _ _ => rfl
        refine ⟨_, rfl, rfl, fun _ => ?_⟩
        have l1 : (o.take k).length ≤ 7 := by rw [List.length_take]; omega
        have l2 : (o.drop k).length ≤ 7 := by rw [List.length_drop]; omega
        have a1 := fun (t : T) => hadT (o.take k) [g] t (by rw [List.length_cons, List.length_nil]; omega)
        have a2 := fun (t : T) => hadT (o.take k ++ [g]) (o.drop k) t (by rw [List.length_append, List.length_cons, List.length_nil]; omega)
        have a0 : ∀ t : T, fTup [.d (cellD g)] t = .ok (.d (.tup [cellD g])) t := fun _ => rfl
        rw [show [g].map cellD = [cellD g] from rfl] at a1
        simp only [List.map_cons, List.map_nil, List.length_cons, List.length_nil, List.replicate, List.cons_append, List.nil_append, List.append_nil, sSeq, sIf, sRet, sNil, sSet, sDrop, m2, m1, mL, mCons, mNil, mC, mVar, mIf, List.getElem?_cons_zero, List.getElem?_cons_succ, List.set_cons_zero, List.set_cons_succ, R.bind_ok, R.toS_ok, Nat.reduceAdd, Nat.reduceSub, Nat.zero_add, En.eq_cell, En.asB_ok, En.eq_int, En.lt_ok, En.le_ok, En.sub_ok, En.add_ok, En.abs_ok, En.cell_0, En.cell_1, decide_true, decide_false, Bool.false_eq_true, if_true, if_false, Bool.not_true, Bool.not_false, mSl, hpa, hnp, hsl1 o k _ hk, hsl2 o k _ hk, a0, a1, a2]) (by rw [List.length_range]; show 0 + _ ≤ 100000; omega)
      refine ⟨_, _, _, rfl, ?_, some (.d (.tup (o.map cellD))), o5, rfl, rfl⟩
      have hrg : ∀ t : T, fRange1 [.d (.int ((o.length : Int) + 1))] t = .ok ((List.range (o.length + 1)).map fun (k : Nat) => Val.d (.int (0 + (k : Int)))) t := fun t => by
        have := range_ok (n := o.length + 1) (by show _ ≤ 100000; omega) t
        rw [intsV_map] at this
        exact this
      simp only [List.map_cons, List.map_nil, List.length_cons, List.length_nil, List.replicate, List.cons_append, List.nil_append, List.append_nil, sSeq, sIf, sRet, sNil, sSet, sDrop, m2, m1, mL, mCons, mNil, mC, mVar, mIf, List.getElem?_cons_zero, List.getElem?_cons_succ, List.set_cons_zero, List.set_cons_succ, R.bind_ok, R.toS_ok, Nat.reduceAdd, Nat.reduceSub, Nat.zero_add, En.eq_cell, En.asB_ok, En.eq_int, En.lt_ok, En.le_ok, En.sub_ok, En.add_ok, En.abs_ok, En.cell_0, En.cell_1, decide_true, decide_false, Bool.false_eq_true, if_true, if_false, Bool.not_true, Bool.not_false, mLc, hlen, hrg, wipeR]
      rw [e2]
      have hfz : ∀ t : T, fFz ([] ++ ((List.range (o.length + 1)).filter fun _ => true).map fun k => Val.d (.tup (((o.take k ++ [g]) ++ o.drop k).map cellD))) t = .ok (.d (ordsT (insO g o))) t := fun t => by
        rw [List.nil_append, show ((List.range (o.length + 1)).filter fun _ => true) = List.range (o.length + 1) from List.filter_eq_self.mpr fun _ _ => rfl, fz_map (fun (k : Nat) => D.tup (((o.take k ++ [g]) ++ o.drop k).map cellD))]
        unfold ordsT insO
        rw [List.map_map]
        rfl
      have hadd : ∀ t : T, fAdd (.d (ordsT (os.flatMap (insO g)))) (.d (ordsT (insO g o))) t = .ok (.d (ordsT ((os ++ [o]).flatMap (insO g)))) t := fun t => by
        unfold ordsT
        rw [add_lst (by rw [List.length_map, List.length_map]; show _ ≤ 100000; omega), List.flatMap_append, List.map_append]
        congr 4
        simp
      simp only [R.bind_ok, hfz, hadd, R.toS_ok, List.set_cons_zero, List.set_cons_succ]) (insAll pre) [] [some (.d (.tup (gs.map cellD))), some (.d (ordsT (insAll pre))), some (.d (cellD g)), some (.d (ordsT [])), o4, o5] ⟨[], t.b⟩ rfl ⟨o4, o5, rfl, rfl⟩
    rw [insAll_snoc]
    exact ⟨o4', o5', e⟩
  obtain ⟨ρ', t', e, o2, o3, o4, o5, rfl, rfl⟩ := forM_pre (f := gN 2) (b := (sSeq (sSet 3 (mL fFz (mL fLen mNil)))
     (sSeq (sFor (gN 4) (m1 fIter (mVar 1))
      (sSet 3 (m2 fAdd (mVar 3) (mL fFz (mLc [5] (gN 5) (mL fRange1 (mCons (m2 fAdd (mL fLenB (mCons (mVar 4) mNil)) (mC (.int 1))) mNil)) mYes (m2 fAdd (m2 fAdd (mSl (mVar 4) mNoPart (m1 asPart (mVar 5))) (mL fTup (mCons (mVar 2) mNil))) (mSl (mVar 4) (m1 asPart (mVar 5)) mNoPart)))))))
      (sSet 1 (mVar 3))))) (fun (c : Pt) => Val.d (cellD c)) (fun pre ρ tt => ∃ o2 o3 o4 o5, ρ = [some (.d (.tup (gs.map cellD))), some (.d (ordsT (insAll pre))), o2, o3, o4, o5] ∧ tt = ⟨[], t.b⟩) gs (by
    rintro c pre post ρ tt epr ⟨o2, o3, o4, o5, rfl, rfl⟩
    have hpl : pre.length < 7 := by rw [epr, List.length_append, List.length_cons] at hg; omega
    obtain ⟨o4', o5', ei⟩ := inner pre c o4 o5 hpl
    refine ⟨_, _, _, rfl, ?_, some (.d (cellD c)), some (.d (ordsT (insAll (pre ++ [c])))), o4', o5', rfl, rfl⟩
    simp only [List.map_cons, List.map_nil, List.length_cons, List.length_nil, List.replicate, List.cons_append, List.nil_append, List.append_nil, sSeq, sIf, sRet, sNil, sSet, sDrop, m2, m1, mL, mCons, mNil, mC, mVar, mIf, List.getElem?_cons_zero, List.getElem?_cons_succ, List.set_cons_zero, List.set_cons_succ, R.bind_ok, R.toS_ok, Nat.reduceAdd, Nat.reduceSub, Nat.zero_add, En.eq_cell, En.asB_ok, En.eq_int, En.lt_ok, En.le_ok, En.sub_ok, En.add_ok, En.abs_ok, En.cell_0, En.cell_1, decide_true, decide_false, Bool.false_eq_true, if_true, if_false, Bool.not_true, Bool.not_false, hf1, hemp, sFor, hoi]
    rw [ei]
    try rfl) gs [] [some (.d (.tup (gs.map cellD))), some (.d (ordsT [[]])), none, none, none, none] ⟨[], t.b⟩ rfl ⟨none, none, none, none, rfl, rfl⟩
  refine call_eq rfl ?_
  unfold f__law_orders runF runG m__law_orders
  simp only [List.map_cons, List.map_nil, List.length_cons, List.length_nil, List.replicate, List.cons_append, List.nil_append, List.append_nil, sSeq, sIf, sRet, sNil, sSet, sDrop, m2, m1, mL, mCons, mNil, mC, mVar, mIf, List.getElem?_cons_zero, List.getElem?_cons_succ, List.set_cons_zero, List.set_cons_succ, R.bind_ok, R.toS_ok, Nat.reduceAdd, Nat.reduceSub, Nat.zero_add, En.eq_cell, En.asB_ok, En.eq_int, En.lt_ok, En.le_ok, En.sub_ok, En.add_ok, En.abs_ok, En.cell_0, En.cell_1, decide_true, decide_false, Bool.false_eq_true, if_true, if_false, Bool.not_true, Bool.not_false, hf2, hf3, htp0, sFor, cells_iter, e]
  rw [sort_ords (insAll gs) (fun o ho z => by
    subst z
    have := ((insAll_perm gs []).mp ho).length_eq
    exact hne (List.length_eq_zero_iff.mp this.symm))]
  try rfl
end K91
set_option Elab.async false
set_option linter.all false
set_option maxRecDepth 100000
set_option maxHeartbeats 4000000
namespace K91
open PySem PySem.Spec PyProof.Rows L2 En
theorem total_call {tbs : List (Pt × List (Pt × Int))} {hvs : List (Pt × Int)} {d : Pt → Pt → Int} {hv : Pt → Int} {cs gs : List Pt} (htab : ∀ c ∈ cs, ∀ g ∈ gs, ∃ f, lookK tbs c = some f ∧ lookK f g = some (d c g)) (hhv : ∀ g ∈ gs, lookK hvs g = some (hv g) ∧ 0 ≤ hv g ∧ hv g ≤ 1000000000) (hsub : ∀ g ∈ gs, g ∈ cs) {a : Pt} (ha : a ∈ cs) {o : List Pt} (ho : ∀ x ∈ o, x ∈ gs) (t : T) :
    fCall f__law_total [.d (.dT (encTb tbs)), .d (cellD a), .d (.tup (o.map cellD)), .d (.dT (encFD hvs))] t = .ok (.d (.int (cost d hv a o))) t := by
  have key : ∀ (o : List Pt) (c : Pt) (p s : Int) (o7 : Option Val), c ∈ cs → (∀ x ∈ o, x ∈ gs) → ∀ X : Option Val, ∃ o4 o6 o7', forM (gN 7) (sSeq (sPar 4 6 (mCons (m2 fAdd (mVar 4) (m2 fDGet (m2 fDGet (mVar 0) (mVar 6)) (mVar 7))) (mCons (mVar 7) mNil)))
     (sSet 5 (m2 fAdd (mVar 5) (m2 fMul (mVar 4) (m2 fDGet (mVar 3) (mVar 7)))))) (o.map fun p => .d (cellD p)) [some (.d (.dT (encTb tbs))), some (.d (cellD a)), X, some (.d (.dT (encFD hvs))), some (.d (.int p)), some (.d (.int s)), some (.d (cellD c)), o7] ⟨[], t.b⟩ = .nx [some (.d (.dT (encTb tbs))), some (.d (cellD a)), X, some (.d (.dT (encFD hvs))), o4, some (.d (.int (runW d hv c p s o))), o6, o7'] ⟨[], t.b⟩ := fun o => by
    induction o with
    | nil => exact fun c p s o7 _ _ X => ⟨_, _, _, rfl⟩
    | cons g o ih =>
      intro c p s o7 hc hx X
      have hg : g ∈ gs := hx g (List.mem_cons_self ..)
      obtain ⟨f, h1, h2⟩ := htab c hc g hg
      obtain ⟨h3, h4, h5⟩ := hhv g hg
      obtain ⟨o4, o6, o7', e⟩ := ih g (p + d c g) (s + (p + d c g) * hv g) (some (.d (cellD g))) (hsub g hg) (fun x hx' => hx x (List.mem_cons_of_mem _ hx')) X
      refine ⟨o4, o6, o7', ?_⟩
      rw [List.map_cons]
      unfold En.forM
      have g7 : gN 7 (.d (cellD g)) [some (.d (.dT (encTb tbs))), some (.d (cellD a)), X, some (.d (.dT (encFD hvs))), some (.d (.int p)), some (.d (.int s)), some (.d (cellD c)), o7] = some [some (.d (.dT (encTb tbs))), some (.d (cellD a)), X, some (.d (.dT (encFD hvs))), some (.d (.int p)), some (.d (.int s)), some (.d (cellD c)), some (.d (cellD g))] := rfl
      rw [g7]
      simp only [List.map_cons, List.map_nil, List.length_cons, List.length_nil, List.replicate, List.cons_append, List.nil_append, List.append_nil, sSeq, sIf, sRet, sNil, sSet, sDrop, m2, m1, mL, mCons, mNil, mC, mVar, mIf, List.getElem?_cons_zero, List.getElem?_cons_succ, List.set_cons_zero, List.set_cons_succ, R.bind_ok, R.toS_ok, Nat.reduceAdd, Nat.reduceSub, Nat.zero_add, En.eq_cell, En.asB_ok, En.eq_int, En.lt_ok, En.le_ok, En.sub_ok, En.add_ok, En.abs_ok, En.cell_0, En.cell_1, decide_true, decide_false, Bool.false_eq_true, if_true, if_false, Bool.not_true, Bool.not_false, sPar, lookTb h1, lookInt h2, lookInt h3, mul_sm2 h4 h5, turnS]
      exact e
  obtain ⟨o4, o6, o7', e⟩ := key o a 0 0 none ha ho (some (.d (.tup (o.map cellD))))
  refine call_eq rfl ?_
  have hcost : runW d hv a 0 0 o = cost d hv a o := by rw [runW_eq]; omega
  rw [hcost] at e
  unfold f__law_total runF runG m__law_total sPar3
  simp only [List.map_cons, List.map_nil, List.length_cons, List.length_nil, List.replicate, List.cons_append, List.nil_append, List.append_nil, sSeq, sIf, sRet, sNil, sSet, sDrop, m2, m1, mL, mCons, mNil, mC, mVar, mIf, List.getElem?_cons_zero, List.getElem?_cons_succ, List.set_cons_zero, List.set_cons_succ, R.bind_ok, R.toS_ok, Nat.reduceAdd, Nat.reduceSub, Nat.zero_add, En.eq_cell, En.asB_ok, En.eq_int, En.lt_ok, En.le_ok, En.sub_ok, En.add_ok, En.abs_ok, En.cell_0, En.cell_1, decide_true, decide_false, Bool.false_eq_true, if_true, if_false, Bool.not_true, Bool.not_false, sFor, cells_iter, e]
def bestF (s : List Pt → Int) : List (List Pt) → Option (List Pt) → Option (List Pt)
  | [], b => b
  | x :: xs, none => bestF s xs (some x)
  | x :: xs, some y => bestF s xs (if s x < s y then some x else some y)
theorem bestF_after (s : List Pt → Int) {z : List Pt} : ∀ (l : List (List Pt)), (∀ x ∈ l, s z ≤ s x) → bestF s l (some z) = some z
  | [], _ => rfl
  | x :: l, h => by
    have hx := h x (List.mem_cons_self ..)
    rw [bestF, if_neg (by omega)]
    exact bestF_after s l fun y hy => h y (List.mem_cons_of_mem _ hy)
theorem bestF_eq (s : List Pt → Int) {z : List Pt} {l2 : List (List Pt)} (h2 : ∀ x ∈ l2, s z ≤ s x) : ∀ (l1 : List (List Pt)) (b : Option (List Pt)), (∀ x ∈ l1, s z < s x) → (∀ y, b = some y → s z < s y) → bestF s (l1 ++ z :: l2) b = some z
  | [], none, _, _ => by
    show bestF s l2 (some z) = _
    exact bestF_after s l2 h2
  | [], some y, _, hb => by
    show bestF s l2 (if s z < s y then some z else some y) = _
    rw [if_pos (hb y rfl)]
    exact bestF_after s l2 h2
  | x :: l1, none, h1, hb => by
    show bestF s (l1 ++ z :: l2) (some x) = _
    exact bestF_eq s h2 l1 _ (fun y hy => h1 y (List.mem_cons_of_mem _ hy)) fun y e => by
      cases e
      exact h1 x (List.mem_cons_self ..)
  | x :: l1, some y, h1, hb => by
    show bestF s (l1 ++ z :: l2) (if s x < s y then some x else some y) = _
    refine bestF_eq s h2 l1 _ (fun y hy => h1 y (List.mem_cons_of_mem _ hy)) fun u e => ?_
    split at e
    · cases e; exact h1 x (List.mem_cons_self ..)
    · cases e; exact hb y rfl
theorem sortO_sorted (os : List (List Pt)) : (sortO os).Pairwise fun a b => PySem.W.dataLt (tupP b) (tupP a) = false := by
  have h := List.pairwise_mergeSort (le := PySem.W.dataLe false tupP) (fun a b c h1 h2 => by
    have e : ∀ x y, PySem.W.dataLe false tupP x y = !PySem.W.dataLt (tupP y) (tupP x) := fun _ _ => rfl
    rw [e] at h1 h2 ⊢
    simp only [Bool.not_eq_true'] at h1 h2 ⊢
    cases hc : PySem.W.dataLt (tupP c) (tupP a) with
    | false => rfl
    | true =>
      rcases PyProof.Rows.lex_negTrans (O := PyProof.Rows.itemOrd) _ (PySem.W.keyToks (tupP b)) _ hc with q | q
      · exact absurd q (by rw [show PyProof.Rows.lexLt PyProof.Rows.itemOrd (PySem.W.keyToks (tupP c)) (PySem.W.keyToks (tupP b)) = false from h2]; simp)
      · exact absurd q (by rw [show PyProof.Rows.lexLt PyProof.Rows.itemOrd (PySem.W.keyToks (tupP b)) (PySem.W.keyToks (tupP a)) = false from h1]; simp)) (fun a b => by
    have e : ∀ x y, PySem.W.dataLe false tupP x y = !PySem.W.dataLt (tupP y) (tupP x) := fun _ _ => rfl
    rw [e, e]
    cases hb : PySem.W.dataLt (tupP b) (tupP a) with
    | false => rfl
    | true => rw [dataLt_asymm hb]; rfl) os
  refine h.imp fun {a b} h => ?_
  have e : PySem.W.dataLe false tupP a b = !PySem.W.dataLt (tupP b) (tupP a) := rfl
  rw [e] at h
  simpa using h
theorem best_walk {d : Pt → Pt → Int} {hv : Pt → Int} {a : Pt} {gs : List Pt} (hn : gs.Nodup) : bestF (cost d hv a) (sortO (insAll gs)) none = some (walkW d hv a (sortC gs)) := by
  have hsn : (sortC gs).Nodup := (sortC_perm gs).nodup_iff.mpr hn
  obtain ⟨h1, h2⟩ := walkW_ok d hv (sortC gs).length (sortC gs) a rfl hsn
  have hall : ∀ x ∈ sortO (insAll gs), x.Perm (sortC gs) := fun x hx => ((insAll_perm gs x).mp ((List.mergeSort_perm ..).mem_iff.mp hx)).trans (sortC_perm gs).symm
  have hz : walkW d hv a (sortC gs) ∈ sortO (insAll gs) := (List.mergeSort_perm ..).mem_iff.mpr ((insAll_perm gs _).mpr (h1.trans (sortC_perm gs)))
  obtain ⟨l1, l2, e, hnot⟩ := List.eq_append_cons_of_mem hz
  have hsort := sortO_sorted (insAll gs)
  rw [e] at hsort hall ⊢
  refine bestF_eq _ (fun x hx => ?_) l1 none (fun x hx => ?_) (fun y hy => by cases hy)
  · rw [h2]
    exact leastW_le d hv x (sortC gs) a (hall x (by simp [hx])) hsn
  · have hp := hall x (by simp [hx])
    have hle := leastW_le d hv x (sortC gs) a hp hsn
    rw [h2]
    by_cases he : cost d hv a x = leastW d hv a (sortC gs)
    · exfalso
      rcases walkW_min d hv (sortC gs).length (sortC gs) x a rfl hsn (sortC_sorted gs) hp he with q | q
      · exact hnot (q ▸ hx)
      · have hlt : PySem.W.dataLt (tupP (walkW d hv a (sortC gs))) (tupP x) = true := by
          unfold tupP
          rw [PySem.W.dataLt_tuple]
          exact lex_cells _ _ q
        have := (List.pairwise_append.mp hsort).2.2 x hx _ (List.mem_cons_self ..)
        rw [hlt] at this
        cases this
    · omega
theorem full_conn {rows : List Str} {w : Nat} (hland : ∀ r c : Nat, r < rows.length → c < w → ((r : Int), (c : Int)) ∈ cellsOf rows w) : ∀ (n r c : Nat), r + c = n → r < rows.length → c < w → Conn (G rows w) ((0 : Int), (0 : Int)) ((r : Int), (c : Int))
  | 0, r, c, e, hr, hc => by
    have h1 : r = 0 := by omega
    have h2 : c = 0 := by omega
    subst h1 h2
    exact Conn.refl _
  | n + 1, r, c, e, hr, hc => by
    cases r with
    | zero =>
      have hc0 : 0 < c := by omega
      have ih := full_conn hland n 0 (c - 1) (by omega) hr (by omega)
      refine ih.step (gr_mem.mpr ⟨land_iff.mpr (hland 0 (c - 1) hr (by omega)), ?_, land_iff.mpr (hland 0 c hr hc)⟩)
      have : ((0 : Nat) : Int) = 0 := rfl
      simp only [around, List.mem_cons, Prod.mk.injEq, List.not_mem_nil, or_false]
      omega
    | succ r =>
      have ih := full_conn hland n r c (by omega) (by omega) hc
      refine ih.step (gr_mem.mpr ⟨land_iff.mpr (hland r c (by omega) hc), ?_, land_iff.mpr (hland (r + 1) c hr hc)⟩)
      simp only [around, List.mem_cons, Prod.mk.injEq, List.not_mem_nil, or_false]
      omega
theorem full_all {rows : List Str} {w : Nat} (hland : ∀ r c : Nat, r < rows.length → c < w → ((r : Int), (c : Int)) ∈ cellsOf rows w) {a c : Pt} (ha : a ∈ cellsOf rows w) (hc : c ∈ cellsOf rows w) : (dst (G rows w) a c).isSome = true := by
  obtain ⟨r1, c1, h1, h2, _, rfl⟩ := cellsOf_mem.mp ha
  obtain ⟨r2, c2, h3, h4, _, rfl⟩ := cellsOf_mem.mp hc
  exact dst_conn.mpr (((full_conn hland _ r1 c1 rfl h1 h2).symm gr_symm).trans (full_conn hland _ r2 c2 rfl h3 h4))
end K91
set_option Elab.async false
set_option linter.all false
set_option maxRecDepth 100000
set_option maxHeartbeats 4000000
namespace K91
open PySem PySem.Spec PyProof.Rows L2 En
noncomputable section
def s1 : MS := (sSet 1 (mL (fBegun bg_law_mix) (mCons (mVar 0) (mCons (mC (.int 91)) mNil))))
def s2 : MS := (sPar 2 3 (mCons (m2 fAdd (mC (.int 3)) (mL (fDraw drNext) (mCons (mVar 1) (mCons (mC (.int 2)) mNil)))) (mCons (m2 fAdd (mC (.int 3)) (mL (fDraw drNext) (mCons (mVar 1) (mCons (mC (.int 2)) mNil)))) mNil)))
def s3 : MS := (sSet 4 (mL fNew (mL fLen mNil)))
def s4 : MS := (sFor (gN 5) (mL fRange1 (mCons (mVar 2) mNil)) (sDrop (mMeth isLstB fAppend (mVar 4) (mCons (mMeth isStrB fJoin (mC (.str "")) (mCons (mL fFz (mLc [19] (gN 19) (mL fRange1 (mCons (mVar 3) mNil)) mYes (m2 fIx (mL fFz (mL fLen (mCons (mC (.str ".")) (mCons (mC (.str "A")) mNil)))) (mL (fDraw drNext) (mCons (mVar 1) (mCons (mC (.int 2)) mNil)))))) mNil)) mNil))))
def s5 : MS := (sSet 4 (mL fTuple (mCons (mVar 4) mNil)))
def s6 : MS := (sPar 6 7 (mCons (mL (fMake "Island" f_Island____init__) (mCons (mVar 4) mNil)) (mCons (mL (fCall f__law_cells) (mCons (mVar 4) mNil)) mNil)))
def s7 : MS := (sPar3 8 9 10 (mCons (m2 fIx (mVar 7) (mL (fDraw drNext) (mCons (mVar 1) (mCons (mL fLenB (mCons (mVar 7) mNil)) mNil)))) (mCons (mL fNew (mL fListL (mCons (mVar 7) mNil))) (mCons (mL fNew (mL fLen mNil)) mNil))))
def s8 : MS := (whileM (m1 asB (m2 fLt (mL fLenB (mCons (mVar 10) mNil)) (mC (.int 6)))) (sDrop (mMeth isLstB fAppend (mVar 10) (mCons (mMeth isLstB fPopAt (mVar 9) (mCons (mL (fDraw drNext) (mCons (mVar 1) (mCons (mL fLenB (mCons (mVar 9) mNil)) mNil))) mNil)) mNil))) 7)
def s9 : MS := (sSet 10 (mL fTuple (mCons (mL fSorted (mCons (mVar 10) mNil)) mNil)))
def s10 : MS := (sSet 11 (fDFz (mDictL (mCons (mL fFz (mLc [20] (gN 20) (m1 fIter (m2 fAdd (mVar 10) (mL fTup (mCons (mVar 8) mNil)))) mYes (mL fTup (mCons (mVar 20) (mCons (mL (fCall f__law_far) (mCons (mVar 4) (mCons (mVar 20) mNil))) mNil))))) mNil))))
def s11 : MS := (sSet 12 (fDFz (mDictL (mCons (mL fFz (mLc [20] (gN 20) (m1 fIter (mVar 10)) mYes (mL fTup (mCons (mVar 20) (mCons (mC (.int 1)) mNil))))) mNil))))
def s12 : MS := (sSet 13 (fDFz (mDictL (mCons (mL fFz (mLc [20] (gN 20) (m1 fIter (mVar 10)) mYes (mL fTup (mCons (mVar 20) (mCons (m2 fAdd (mC (.int 1)) (mL (fDraw drNext) (mCons (mVar 1) (mCons (m2 fIx (mL fFz (mL fLen (mCons (mC (.int 2)) (mCons (m2 fPow (mC (.int 10)) (mC (.int 9))) mNil)))) (mL (fDraw drNext) (mCons (mVar 1) (mCons (mC (.int 2)) mNil)))) mNil)))) mNil))))) mNil))))
def s13 : MS := (sAsgT (gsCons (gN 14) (gsCons (gN 15) gsNil)) 2 (mCons (mC .non) (mCons (mC .non) mNil)))
def s14 : MS := (sFor (gN 16) (m1 fIter (mL (fCall f__law_orders) (mCons (mVar 10) mNil))) (sSeq (sPar 17 18 (mCons (mL (fCall f__law_total) (mCons (mVar 11) (mCons (mVar 8) (mCons (mVar 16) (mCons (mVar 12) mNil))))) (mCons (mL (fCall f__law_total) (mCons (mVar 11) (mCons (mVar 8) (mCons (mVar 16) (mCons (mVar 13) mNil))))) mNil))) (sSeq (sSet 14 (mIf (mOr (m1 asB (m2 fIsN (mVar 14) (mC .non))) (m1 asB (m2 fLt (mVar 17) (m2 fIx (mVar 14) (mC (.int 0)))))) (mL fTup (mCons (mVar 17) (mCons (mVar 16) mNil))) (mVar 14))) (sSet 15 (mIf (mOr (m1 asB (m2 fIsN (mVar 15) (mC .non))) (m1 asB (m2 fLt (mVar 18) (m2 fIx (mVar 15) (mC (.int 0)))))) (mL fTup (mCons (mVar 18) (mCons (mVar 16) mNil))) (mVar 15))))))
def s15 : MS := (sIf (mNot (m1 asB (mL (fCall (f__law_alike 6)) (mCons (mL (fCall f_dig_walk) (mCons (mVar 6) (mCons (mVar 8) (mCons (mVar 10) mNil)))) (mCons (mL fTup (mCons (m2 fIx (mVar 14) (mC (.int 0))) (mCons (mL fFz (mL fListL (mCons (m2 fIx (mVar 14) (mC (.int 1))) mNil))) mNil))) mNil))))) (sRet (mC (.bl false))) sNil)
def s16 : MS := (sRet (mL (fCall (f__law_alike 6)) (mCons (mL (fCall f_weighed_walk) (mCons (mVar 6) (mCons (mVar 8) (mCons (mVar 13) mNil)))) (mCons (mL fTup (mCons (m2 fIx (mVar 15) (mC (.int 0))) (mCons (mL fFz (mL fListL (mCons (m2 fIx (mVar 15) (mC (.int 1))) mNil))) mNil))) mNil))))
theorem law_def : m_law = (sSeq s1 (sSeq s2 (sSeq s3 (sSeq s4 (sFz 4 (sSeq s5 (sSeq s6 (sSeq s7 (sSeq s8 (sFz 10 (sSeq s9 (sSeq s10 (sSeq s11 (sSeq s12 (sSeq s13 (sSeq s14 (sSeq s15 s16))))))))))))))))) := rfl
def body4 : MS := (sDrop (mMeth isLstB fAppend (mVar 4) (mCons (mMeth isStrB fJoin (mC (.str "")) (mCons (mL fFz (mLc [19] (gN 19) (mL fRange1 (mCons (mVar 3) mNil)) mYes (m2 fIx (mL fFz (mL fLen (mCons (mC (.str ".")) (mCons (mC (.str "A")) mNil)))) (mL (fDraw drNext) (mCons (mVar 1) (mCons (mC (.int 2)) mNil)))))) mNil)) mNil)))
def body8 : MS := (sDrop (mMeth isLstB fAppend (mVar 10) (mCons (mMeth isLstB fPopAt (mVar 9) (mCons (mL (fDraw drNext) (mCons (mVar 1) (mCons (mL fLenB (mCons (mVar 9) mNil)) mNil))) mNil)) mNil)))
def cond8 : ME Bool := (m1 asB (m2 fLt (mL fLenB (mCons (mVar 10) mNil)) (mC (.int 6))))
def body14 : MS := (sSeq (sPar 17 18 (mCons (mL (fCall f__law_total) (mCons (mVar 11) (mCons (mVar 8) (mCons (mVar 16) (mCons (mVar 12) mNil))))) (mCons (mL (fCall f__law_total) (mCons (mVar 11) (mCons (mVar 8) (mCons (mVar 16) (mCons (mVar 13) mNil))))) mNil))) (sSeq (sSet 14 (mIf (mOr (m1 asB (m2 fIsN (mVar 14) (mC .non))) (m1 asB (m2 fLt (mVar 17) (m2 fIx (mVar 14) (mC (.int 0)))))) (mL fTup (mCons (mVar 17) (mCons (mVar 16) mNil))) (mVar 14))) (sSet 15 (mIf (mOr (m1 asB (m2 fIsN (mVar 15) (mC .non))) (m1 asB (m2 fLt (mVar 18) (m2 fIx (mVar 15) (mC (.int 0)))))) (mL fTup (mCons (mVar 18) (mCons (mVar 16) mNil))) (mVar 15)))))
end
theorem rowsL_sat {b : Box} (g : GoodB b) {hi w : Nat} (h1 : 1 ≤ hi) (h2 : hi ≤ 12) (w1 : 1 ≤ w) (w2 : w ≤ 12) {x0 x2 x6 x7 x8 x9 x10 x11 x12 x13 x14 x15 x16 x17 x18 x20 : Option Val} {V : Val → T → Prop} :
    (s4 [x0, some .box, some (.d (.int (hi : Int))), some (.d (.int (w : Int))), some (.loc 0), none, x6, x7, x8, x9, x10, x11, x12, x13, x14, x15, x16, x17, x18, none, x20] ⟨[.lst []], b⟩).sat (fun ρ t => ∃ (rows : List Str) (b : Box) (o5 : Option Val), ρ = [x0, some .box, some (.d (.int (hi : Int))), some (.d (.int (w : Int))), some (.loc 0), o5, x6, x7, x8, x9, x10, x11, x12, x13, x14, x15, x16, x17, x18, none, x20] ∧ t = ⟨[.lst ((rows.map D.str).map Val.d)], b⟩ ∧ GoodB b ∧ (∀ x ∈ rows, RowT w x) ∧ rows.length = hi) V := by
  unfold s4
  simp only [w_sFor, w_mL, w_mCons, w_mNil, mVar_sat, List.getElem?_cons_zero, List.getElem?_cons_succ]
  rw [range_ok (show hi ≤ lim from Nat.le_trans h2 (by decide)), sat_ok]
  refine forM_sat (fun rest ρ t => ∃ (rows : List Str) (b : Box) (o : Option Val), ρ = [x0, some .box, some (.d (.int (hi : Int))), some (.d (.int (w : Int))), some (.loc 0), o, x6, x7, x8, x9, x10, x11, x12, x13, x14, x15, x16, x17, x18, none, x20] ∧ t = ⟨[.lst ((rows.map D.str).map Val.d)], b⟩ ∧ GoodB b ∧ (∀ x ∈ rows, RowT w x) ∧ rows.length + rest.length = hi) (intsV 0 hi) _ _ ⟨[], b, none, rfl, rfl, g, fun _ h => (by cases h), by rw [intsV_map]; simp⟩ ?_ ?_
  · rintro v vs ρ t ⟨rows, b, o, rfl, rfl, gb, hrow, hlen⟩
    refine ⟨_, rfl, ?_⟩
    rw [w_sDrop, w_mMeth, mVar_sat]
    show (if isLstB (.loc 0) _ = true then _ else False)
    rw [if_pos (show isLstB (.loc 0) ⟨[.lst ((rows.map D.str).map Val.d)], b⟩ = true from rfl), w_mCons]
    refine sat_mono (row_text (w := w) rfl rfl (by omega) gb) ?_
    rintro v ⟨st2, b2⟩ ⟨x, rfl, hx, hst, g2⟩
    cases hst
    rw [w_mNil]
    have hl : ((rows.map D.str).map Val.d).length < lim := by
      rw [List.length_map, List.length_map]
      rw [List.length_cons] at hlen
      show _ < 100000
      omega
    refine ⟨.d .non, ⟨[.lst ((rows.map D.str).map Val.d ++ [.d (.str x)])], b2⟩, ?_, rows ++ [x], b2, some v, rfl, ?_, g2, ?_, ?_⟩
    · show (if ((rows.map D.str).map Val.d).length < lim then _ else _) = _
      rw [if_pos hl]
      rfl
    · simp
    · intro y hy
      rcases List.mem_append.mp hy with hy | hy
      · exact hrow y hy
      · rw [List.mem_singleton.mp hy]; exact hx
    · rw [List.length_cons] at hlen
      rw [List.length_append, List.length_cons, List.length_nil]
      omega
  · rintro ρ t ⟨rows, b, o, rfl, rfl, gb, hrow, hlen⟩
    exact ⟨rows, b, o, rfl, rfl, gb, hrow, by simpa using hlen⟩
theorem rows_full {rows : List Str} {w : Nat} (h1 : 1 ≤ rows.length) (h2 : rows.length ≤ 12) (w1 : 1 ≤ w) (w2 : w ≤ 12) (h : ∀ x ∈ rows, RowT w x) : RowsOk rows w ∧ ∀ r c : Nat, r < rows.length → c < w → ((r : Int), (c : Int)) ∈ cellsOf rows w := by
  refine ⟨⟨fun z => ?_, h2, w1, w2, fun x hx => (h x hx).1, fun x hx c hc => ?_⟩, fun r c hr hc => ?_⟩
  · rw [z] at h1
    cases h1
  · have := (h x hx).2 c hc
    simp only [List.mem_cons, List.not_mem_nil, or_false] at this ⊢
    rcases this with rfl | rfl <;> simp
  · refine cellsOf_mem.mpr ⟨r, c, hr, hc, ?_, rfl⟩
    have hx : rows[r] ∈ rows := List.getElem_mem hr
    have hl : (rows[r]).cps.toList.length = w := (h _ hx).1
    have hs := (h _ hx).2 ((rows[r]).cps.toList[c]'(by rw [hl]; exact hc)) (List.getElem_mem _)
    have e : signAt rows r c = (rows[r]).cps.toList[c]'(by rw [hl]; exact hc) := by
      unfold signAt
      have e0 : rows.getD r ⟨#[]⟩ = rows[r] := by rw [List.getD_eq_getElem?_getD, List.getElem?_eq_getElem hr]; rfl
      rw [e0, List.getD_eq_getElem?_getD, List.getElem?_eq_getElem (by rw [hl]; exact hc)]
      rfl
    rw [e]
    simp only [List.mem_cons, List.not_mem_nil, or_false] at hs
    omega
theorem six_cells {rows : List Str} {w : Nat} (h1 : 3 ≤ rows.length) (w1 : 3 ≤ w) (h : ∀ r c : Nat, r < rows.length → c < w → ((r : Int), (c : Int)) ∈ cellsOf rows w) : 6 ≤ (cellsOf rows w).length := by
  have := nodup_le (l := ([((0 : Int), (0 : Int)), (0, 1), (0, 2), (1, 0), (1, 1), (1, 2)] : List Pt)) (l' := cellsOf rows w) (by decide) (fun x hx => by
    simp only [List.mem_cons, List.not_mem_nil, or_false] at hx
    rcases hx with rfl | rfl | rfl | rfl | rfl | rfl
    · exact h 0 0 (by omega) (by omega)
    · exact h 0 1 (by omega) (by omega)
    · exact h 0 2 (by omega) (by omega)
    · exact h 1 0 (by omega) (by omega)
    · exact h 1 1 (by omega) (by omega)
    · exact h 1 2 (by omega) (by omega))
  exact this
theorem goals_sat {x0 x2 x3 x4 x5 x6 x7 x8 x11 x12 x13 x14 x15 x16 x17 x18 x19 x20 : Option Val} {cs : List Pt} (hcl : 6 ≤ cs.length) (hc2 : cs.length ≤ 1000) {V : Val → T → Prop} : ∀ (n : Nat) (left found : List Pt) (b : Box), GoodB b → 6 < found.length + n → found.length ≤ 6 → (found ++ left).Perm cs →
    (whileM cond8 body8 n [x0, some .box, x2, x3, x4, x5, x6, x7, x8, some (.loc 1), some (.loc 2), x11, x12, x13, x14, x15, x16, x17, x18, x19, x20] ⟨[.dead, .lst ((left.map cellD).map Val.d), .lst ((found.map cellD).map Val.d)], b⟩).sat
      (fun ρ t => ∃ (left found : List Pt) (b : Box), ρ = [x0, some .box, x2, x3, x4, x5, x6, x7, x8, some (.loc 1), some (.loc 2), x11, x12, x13, x14, x15, x16, x17, x18, x19, x20] ∧ t = ⟨[.dead, .lst ((left.map cellD).map Val.d), .lst ((found.map cellD).map Val.d)], b⟩ ∧ GoodB b ∧ found.length = 6 ∧ (found ++ left).Perm cs) V
  | 0, left, found, b, g, h1, h2, hp => by omega
  | n + 1, left, found, b, g, h1, h2, hp => by
    have hlb : ∀ b : Box, fLenB [.loc 2] ⟨[.dead, .lst ((left.map cellD).map Val.d), .lst ((found.map cellD).map Val.d)], b⟩ = .ok (.d (.int (found.length : Int))) ⟨[.dead, .lst ((left.map cellD).map Val.d), .lst ((found.map cellD).map Val.d)], b⟩ := fun b => by
      show retI ((found.map cellD).map Val.d).length _ = _
      rw [List.length_map, List.length_map]
      rfl
    have hlb1 : ∀ b : Box, fLenB [.loc 1] ⟨[.dead, .lst ((left.map cellD).map Val.d), .lst ((found.map cellD).map Val.d)], b⟩ = .ok (.d (.int (left.length : Int))) ⟨[.dead, .lst ((left.map cellD).map Val.d), .lst ((found.map cellD).map Val.d)], b⟩ := fun b => by
      show retI ((left.map cellD).map Val.d).length _ = _
      rw [List.length_map, List.length_map]
      rfl
    have hcd : cond8 [x0, some .box, x2, x3, x4, x5, x6, x7, x8, some (.loc 1), some (.loc 2), x11, x12, x13, x14, x15, x16, x17, x18, x19, x20] ⟨[.dead, .lst ((left.map cellD).map Val.d), .lst ((found.map cellD).map Val.d)], b⟩ = .ok (decide ((found.length : Int) < 6)) ⟨[.dead, .lst ((left.map cellD).map Val.d), .lst ((found.map cellD).map Val.d)], b⟩ := by
      unfold cond8
      simp only [List.map_cons, List.map_nil, List.length_cons, List.length_nil, List.replicate, List.cons_append, List.nil_append, List.append_nil, sSeq, sIf, sRet, sNil, sSet, sDrop, m2, m1, mL, mCons, mNil, mC, mVar, mIf, List.getElem?_cons_zero, List.getElem?_cons_succ, List.set_cons_zero, List.set_cons_succ, R.bind_ok, R.toS_ok, Nat.reduceAdd, Nat.reduceSub, Nat.zero_add, En.eq_cell, En.asB_ok, En.eq_int, En.lt_ok, En.le_ok, En.sub_ok, En.add_ok, En.abs_ok, En.cell_0, En.cell_1, decide_true, decide_false, Bool.false_eq_true, if_true, if_false, Bool.not_true, Bool.not_false, hlb]
    unfold whileM
    rw [hcd]
    by_cases h6 : found.length = 6
    · have hd : decide ((found.length : Int) < 6) = false := decide_eq_false (by omega)
      rw [hd]
      exact ⟨left, found, b, rfl, rfl, g, h6, hp⟩
    · have hd : decide ((found.length : Int) < 6) = true := decide_eq_true (by omega)
      rw [hd]
      simp only [R.toS_ok, if_true]
      have hll : found.length + left.length = cs.length := by rw [← List.length_append]; exact hp.length_eq
      have hbody : (body8 [x0, some .box, x2, x3, x4, x5, x6, x7, x8, some (.loc 1), some (.loc 2), x11, x12, x13, x14, x15, x16, x17, x18, x19, x20] ⟨[.dead, .lst ((left.map cellD).map Val.d), .lst ((found.map cellD).map Val.d)], b⟩).sat (fun ρ t => ∃ (left' : List Pt) (c : Pt) (b' : Box), ρ = [x0, some .box, x2, x3, x4, x5, x6, x7, x8, some (.loc 1), some (.loc 2), x11, x12, x13, x14, x15, x16, x17, x18, x19, x20] ∧ t = ⟨[.dead, .lst ((left'.map cellD).map Val.d), .lst (((found ++ [c]).map cellD).map Val.d)], b'⟩ ∧ GoodB b' ∧ ((found ++ [c]) ++ left').Perm cs) V := by
        unfold body8
        rw [w_sDrop, w_mMeth, mVar_sat]
        show (if isLstB (.loc 2) _ = true then _ else False)
        rw [if_pos (show isLstB (.loc 2) ⟨[.dead, .lst ((left.map cellD).map Val.d), .lst ((found.map cellD).map Val.d)], b⟩ = true from rfl), w_mCons, w_mMeth, mVar_sat]
        show (if isLstB (.loc 1) _ = true then _ else False)
        rw [if_pos (show isLstB (.loc 1) ⟨[.dead, .lst ((left.map cellD).map Val.d), .lst ((found.map cellD).map Val.d)], b⟩ = true from rfl), w_mCons, w_mL, w_mCons, mVar_sat]
        show R.sat _ _
        rw [w_mCons, w_mL, w_mCons, mVar_sat]
        show R.sat _ _
        rw [w_mNil, hlb1, sat_ok, w_mNil]
        refine draw_sat g (by omega) (by omega) fun k b2 hk0 hk1 g2 => ?_
        rw [w_mNil]
        obtain ⟨q, rfl⟩ : ∃ q : Nat, k = (q : Int) := ⟨k.toNat, by omega⟩
        have hq : q < left.length := by omega
        refine ⟨.d (cellD left[q]), ⟨[.dead, .lst (((left.eraseIdx q).map cellD).map Val.d), .lst ((found.map cellD).map Val.d)], b2⟩, ?_, ?_⟩
        · show (if big (q : Int) = true then _ else _) = _
          rw [if_pos (big_small (by omega) (by omega))]
          have hsi : seqIndex? (q : Int) ((left.map cellD).map Val.d).length = some q := by
            rw [List.length_map, List.length_map]
            unfold seqIndex?
            simp
            omega
          have hat : ((left.map cellD).map Val.d)[q]? = some (.d (cellD left[q])) := by
            rw [List.getElem?_map, List.getElem?_map, List.getElem?_eq_getElem hq]
            rfl
          simp only [hsi, hat]
          unfold putL
          simp only [List.set_cons_zero, List.set_cons_succ, eraseIdx_map']
        · show R.sat _ _
          rw [w_mNil]
          refine ⟨.d .non, ⟨[.dead, .lst (((left.eraseIdx q).map cellD).map Val.d), .lst (((found ++ [left[q]]).map cellD).map Val.d)], b2⟩, ?_, left.eraseIdx q, left[q], b2, rfl, rfl, g2, ?_⟩
          · show (if ((found.map cellD).map Val.d).length < lim then _ else _) = _
            rw [if_pos (by rw [List.length_map, List.length_map]; show _ < 100000; omega)]
            simp [putL]
          · refine List.Perm.trans ?_ hp
            rw [List.append_assoc]
            exact List.Perm.append_left found (erase_perm left q hq)
      generalize hr : body8 [x0, some .box, x2, x3, x4, x5, x6, x7, x8, some (.loc 1), some (.loc 2), x11, x12, x13, x14, x15, x16, x17, x18, x19, x20] ⟨[.dead, .lst ((left.map cellD).map Val.d), .lst ((found.map cellD).map Val.d)], b⟩ = r at hbody ⊢
      cases r with
      | nx ρ t =>
        obtain ⟨left', c, b', rfl, rfl, g', hp'⟩ := hbody
        simp only [turnS]
        exact goals_sat hcl hc2 n left' (found ++ [c]) b' g' (by rw [List.length_append, List.length_cons, List.length_nil]; omega) (by rw [List.length_append, List.length_cons, List.length_nil]; omega) hp'
      | rt v t => exact hbody
      | bk _ _ => exact hbody.elim
      | ct _ _ => exact hbody.elim
      | exc _ _ => exact hbody.elim
      | stuck => exact hbody.elim
end K91
set_option Elab.async false
set_option linter.all false
set_option maxRecDepth 100000
set_option maxHeartbeats 4000000
namespace K91
open PySem PySem.Spec PyProof.Rows L2 En
def bD (s : List Pt → Int) : Option (List Pt) → D
  | none => .non
  | some o => .tup [.int (s o), .tup (o.map cellD)]
def stepB (s : List Pt → Int) (b : Option (List Pt)) (x : List Pt) : Option (List Pt) := match b with
  | none => some x
  | some y => if s x < s y then some x else some y
theorem bestF_cons (s : List Pt → Int) (x : List Pt) (xs : List (List Pt)) (b : Option (List Pt)) : bestF s (x :: xs) b = bestF s xs (stepB s b x) := by
  cases b <;> rfl
theorem mif_best {S : List Pt → Int} {b : Option (List Pt)} {o : List Pt} {ρ : Rho} {t : T} {i j : Nat} (h1 : ρ[i]? = some (some (.d (bD S b)))) (h2 : ρ[j]? = some (some (.d (.int (S o))))) (h3 : ρ[16]? = some (some (.d (.tup (o.map cellD))))) :
    mIf (mOr (m1 asB (m2 fIsN (mVar i) (mC .non))) (m1 asB (m2 fLt (mVar j) (m2 fIx (mVar i) (mC (.int 0)))))) (mL fTup (mCons (mVar j) (mCons (mVar 16) mNil))) (mVar i) ρ t = .ok (.d (bD S (stepB S b o))) t := by
  have ht : ∀ t : T, fTup [.d (.int (S o)), .d (.tup (o.map cellD))] t = .ok (.d (bD S (some o))) t := fun _ => rfl
  cases b with
  | none =>
    have hn : ∀ t : T, fIsN (.d (bD S none)) (.d .non) t = .ok (.d (.bl true)) t := fun _ => rfl
    simp only [mIf, mOr, m1, m2, mL, mCons, mNil, mC, mVar_eq h1, mVar_eq h2, mVar_eq h3, R.bind_ok, hn, asB_ok, if_true, ht, stepB]
  | some y =>
    have hn : ∀ t : T, fIsN (.d (bD S (some y))) (.d .non) t = .ok (.d (.bl false)) t := fun _ => rfl
    have hx : ∀ t : T, fIx (.d (bD S (some y))) (.d (.int 0)) t = .ok (.d (.int (S y))) t := fun _ => rfl
    by_cases hc : S o < S y
    · simp only [mIf, mOr, m1, m2, mL, mCons, mNil, mC, mVar_eq h1, mVar_eq h2, mVar_eq h3, R.bind_ok, hn, hx, asB_ok, if_true, Bool.false_eq_true, if_false, lt_ok, decide_eq_true hc, ht, stepB, if_pos hc]
    · simp only [mIf, mOr, m1, m2, mL, mCons, mNil, mC, mVar_eq h1, mVar_eq h2, mVar_eq h3, R.bind_ok, hn, hx, asB_ok, if_true, Bool.false_eq_true, if_false, lt_ok, decide_eq_false hc, ht, stepB, if_neg hc]
section
variable {x0 x1 x2 x3 x4 x5 x6 x7 x9 x10 x19 x20 : Option Val} {vt va vp vw : Val}
theorem best_loop {S1 S2 : List Pt → Int} {ok : List Pt → Prop} (h1 : ∀ o, ok o → ∀ t : T, fCall f__law_total [vt, va, .d (.tup (o.map cellD)), vp] t = .ok (.d (.int (S1 o))) t)
    (h2 : ∀ o, ok o → ∀ t : T, fCall f__law_total [vt, va, .d (.tup (o.map cellD)), vw] t = .ok (.d (.int (S2 o))) t) (t : T) : ∀ (os : List (List Pt)) (b1 b2 : Option (List Pt)) (o16 o17 o18 : Option Val), (∀ o ∈ os, ok o) →
    ∃ o16' o17' o18', forM (gN 16) body14 (os.map fun o => Val.d (.tup (o.map cellD))) [x0, x1, x2, x3, x4, x5, x6, x7, some va, x9, x10, some vt, some vp, some vw, some (.d (bD S1 b1)), some (.d (bD S2 b2)), o16, o17, o18, x19, x20] t = .nx [x0, x1, x2, x3, x4, x5, x6, x7, some va, x9, x10, some vt, some vp, some vw, some (.d (bD S1 (bestF S1 os b1))), some (.d (bD S2 (bestF S2 os b2))), o16', o17', o18', x19, x20] t
  | [], b1, b2, o16, o17, o18, _ => ⟨o16, o17, o18, by cases b1 <;> cases b2 <;> rfl⟩
  | o :: os, b1, b2, o16, o17, o18, hok => by
    have ho := hok o (List.mem_cons_self ..)
    obtain ⟨a, b, c, e⟩ := best_loop h1 h2 t os (stepB S1 b1 o) (stepB S2 b2 o) (some (.d (.tup (o.map cellD)))) (some (.d (.int (S1 o)))) (some (.d (.int (S2 o)))) fun y hy => hok y (List.mem_cons_of_mem _ hy)
    refine ⟨a, b, c, ?_⟩
    rw [List.map_cons]
    unfold En.forM
    have g : gN 16 (.d (.tup (o.map cellD))) [x0, x1, x2, x3, x4, x5, x6, x7, some va, x9, x10, some vt, some vp, some vw, some (.d (bD S1 b1)), some (.d (bD S2 b2)), o16, o17, o18, x19, x20] = some [x0, x1, x2, x3, x4, x5, x6, x7, some va, x9, x10, some vt, some vp, some vw, some (.d (bD S1 b1)), some (.d (bD S2 b2)), some (.d (.tup (o.map cellD))), o17, o18, x19, x20] := rfl
    rw [g]
    have e1 : body14 [x0, x1, x2, x3, x4, x5, x6, x7, some va, x9, x10, some vt, some vp, some vw, some (.d (bD S1 b1)), some (.d (bD S2 b2)), some (.d (.tup (o.map cellD))), o17, o18, x19, x20] t = .nx [x0, x1, x2, x3, x4, x5, x6, x7, some va, x9, x10, some vt, some vp, some vw, some (.d (bD S1 (stepB S1 b1 o))), some (.d (bD S2 (stepB S2 b2 o))), some (.d (.tup (o.map cellD))), some (.d (.int (S1 o))), some (.d (.int (S2 o))), x19, x20] t := by
      unfold body14
      have q1 := mif_best (S := S1) (b := b1) (o := o) (i := 14) (j := 17) (t := t) (ρ := [x0, x1, x2, x3, x4, x5, x6, x7, some va, x9, x10, some vt, some vp, some vw, some (.d (bD S1 b1)), some (.d (bD S2 b2)), some (.d (.tup (o.map cellD))), some (.d (.int (S1 o))), some (.d (.int (S2 o))), x19, x20]) rfl rfl rfl
      have q2 := mif_best (S := S2) (b := b2) (o := o) (i := 15) (j := 18) (t := t) (ρ := [x0, x1, x2, x3, x4, x5, x6, x7, some va, x9, x10, some vt, some vp, some vw, some (.d (bD S1 (stepB S1 b1 o))), some (.d (bD S2 b2)), some (.d (.tup (o.map cellD))), some (.d (.int (S1 o))), some (.d (.int (S2 o))), x19, x20]) rfl rfl rfl
      simp only [sSeq, sPar, sSet, mL, mCons, mNil, mVar, List.getElem?_cons_zero, List.getElem?_cons_succ, R.bind_ok, R.toS_ok, h1 o ho, h2 o ho, List.set_cons_zero, List.set_cons_succ]
      rw [q1]
      simp only [R.toS_ok, List.set_cons_zero, List.set_cons_succ]
      rw [q2]
      simp only [R.toS_ok, List.set_cons_zero, List.set_cons_succ]
    simp only [e1, turnS]
    rw [bestF_cons, bestF_cons]
    exact e
end
theorem weights2_sat {ρ : Rho} {st : List Cell} {b : Box} (g : GoodB b) {gs : List Pt} (hl : gs.length ≤ 1000) (hρ : ∀ v, (ρ.set 20 (some v))[20]? = some (some v)) (hb : ∀ v, (ρ.set 20 (some v))[1]? = some (some .box)) :
    (lcM (gN 20) mYes (mL fTup (mCons (mVar 20) (mCons (m2 fAdd (mC (.int 1)) (mL (fDraw drNext) (mCons (mVar 1) (mCons (m2 fIx (mL fFz (mL fLen (mCons (mC (.int 2)) (mCons (m2 fPow (mC (.int 10)) (mC (.int 9))) mNil)))) (mL (fDraw drNext) (mCons (mVar 1) (mCons (mC (.int 2)) mNil)))) mNil)))) mNil))) ρ (gs.map fun p => Val.d (cellD p)) [] ⟨st, b⟩).sat fun vs t => ∃ hvs : List (Pt × Int), vs = hvs.map (fun p => Val.d (.tup [cellD p.1, .int p.2])) ∧ hvs.map (·.1) = gs ∧ (∀ p ∈ hvs, 1 ≤ p.2 ∧ p.2 ≤ 1000000000) ∧ t.st = st ∧ GoodB t.b := by
  refine lcM_sat (fun rest acc t => ∃ (hvs : List (Pt × Int)) (left : List Pt), rest = left.map (fun p => Val.d (cellD p)) ∧ acc = hvs.map (fun p => Val.d (.tup [cellD p.1, .int p.2])) ∧ hvs.map (·.1) ++ left = gs ∧ (∀ p ∈ hvs, 1 ≤ p.2 ∧ p.2 ≤ 1000000000) ∧ t.st = st ∧ GoodB t.b) _ _ _ ⟨[], gs, rfl, rfl, rfl, fun p hp => (by cases hp), rfl, g⟩ ?_ ?_
  · rintro v vs acc ⟨st', b'⟩ ⟨hvs, left, h1, rfl, h3, h4, rfl, g'⟩
    have g' : GoodB b' := g'
    cases left with
    | nil => cases h1
    | cons c left =>
      rw [List.map_cons] at h1
      injection h1 with e1 e2
      subst e1 e2
      refine ⟨_, rfl, ?_⟩
      show R.sat (R.ok true _) _
      rw [sat_ok, if_pos rfl, w_mL, w_mCons, mVar_sat, hρ]
      show R.sat _ _
      have hp : ∀ t : T, fPow (.d (.int 10)) (.d (.int 9)) t = .ok (.d (.int 1000000000)) t := fun _ => rfl
      have hl2 : ∀ t : T, fLen [.d (.int 2), .d (.int 1000000000)] t = .ok [.d (.int 2), .d (.int 1000000000)] t := fun _ => rfl
      have hfz : ∀ t : T, fFz [.d (.int 2), .d (.int 1000000000)] t = .ok (.d (.lst [.int 2, .int 1000000000])) t := fun _ => rfl
      rw [w_mCons, w_m2, w_mC, w_mL, w_mCons, mVar_sat, hb]
      show R.sat _ _
      rw [w_mCons, w_m2, w_mL, w_mL, w_mCons, w_mC, w_mCons, w_m2, w_mC, w_mC, hp, sat_ok, w_mNil, hl2, sat_ok, hfz, sat_ok, w_mL, w_mCons, mVar_sat, hb]
      show R.sat _ _
      rw [w_mCons, w_mC, w_mNil]
      refine draw_sat g' (by decide) (by decide) fun k0 b1 hk00 hk01 g1 => ?_
      obtain ⟨m, hm, hm1, hm2⟩ : ∃ m : Int, (∀ t : T, fIx (.d (.lst [.int 2, .int 1000000000])) (.d (.int k0)) t = .ok (.d (.int m)) t) ∧ 0 < m ∧ m ≤ 1000000000 := by
        have : k0 = 0 ∨ k0 = 1 := by omega
        rcases this with rfl | rfl
        · exact ⟨2, fun _ => rfl, by decide, by decide⟩
        · exact ⟨1000000000, fun _ => rfl, by decide, by decide⟩
      rw [hm, sat_ok, w_mNil]
      refine draw_sat g1 hm1 (by omega) fun k b2 hk0 hk1 g2 => ?_
      rw [En.add_ok, sat_ok, w_mNil]
      have hlen : hvs.length + (left.length + 1) = gs.length := by
        rw [← h3, List.length_append, List.length_map, List.length_cons]
      refine ⟨.d (.tup [cellD c, .int (1 + k)]), _, rfl, by rw [List.length_map]; show _ < 100000; omega, hvs ++ [(c, 1 + k)], left, rfl, by simp, by simpa using h3, fun p hp => ?_, rfl, g2⟩
      rcases List.mem_append.mp hp with hp | hp
      · exact h4 p hp
      · have : p = (c, 1 + k) := by simpa using hp
        subst this
        show 1 ≤ 1 + k ∧ 1 + k ≤ 1000000000
        omega
  · rintro acc t ⟨hvs, left, h1, rfl, h3, h4, h5, h6⟩
    have : left = [] := by
      cases left with
      | nil => rfl
      | cons _ _ => cases h1
    subst this
    exact ⟨hvs, rfl, by simpa using h3, h4, h5, h6⟩
theorem w_dict {m : ME (List Val)} {ρ : Rho} {t : T} {Q : Val → T → Prop} : (fDFz (mDictL m) ρ t).sat Q = (m ρ t).sat fun vs t => (fDictL vs t).sat fun kvs t => (match datas (kvs.map (·.2)) with | some ds => R.ok (Val.d (.dT ((kvs.map (·.1)).zip ds))) t | none => .stuck : R Val).sat Q := by
  unfold fDFz mDictL
  rw [sat_bind, sat_bind]
  try rfl
end K91
set_option Elab.async false
set_option linter.all false
set_option maxRecDepth 100000
set_option maxHeartbeats 4000000
namespace K91
open PySem PySem.Spec PyProof.Rows L2 En
theorem sFz_eq {i : Nat} {m : MS} {ρ : Rho} {t t1 : T} {v a : Val} (h1 : ρ[i]? = some (some v)) (h2 : fFreeze v t = .ok a t1) : sFz i m ρ t = m (ρ.set i (some a)) t1 := by
  unfold sFz
  rw [h1]
  show (match fFreeze v t with | .ok a t1 => m (ρ.set i (some a)) t1 | _ => RS.stuck) = _
  rw [h2]
theorem end_eq {rows : List Str} {w : Nat} {a : Pt} {gs : List Pt} {fr : Pt → List (Pt × Int)} {x0 x1 x2 x3 x4 x5 x7 x9 o16 o17 o18 x19 x20 : Option Val} {st : List Cell} {b : Box} (hr : RowsOk rows w) (hland : ∀ r c : Nat, r < rows.length → c < w → ((r : Int), (c : Int)) ∈ cellsOf rows w) (ha : a ∈ cellsOf rows w) (hg : ∀ g ∈ gs, g ∈ cellsOf rows w) (hn : gs.Nodup) (hl : gs.length = 6) (hfr : ∀ c, c ∈ cellsOf rows w → FarOk rows w c (fr c)) (hvs : List (Pt × Int)) (hk : hvs.map (·.1) = gs) (h1 : ∀ p ∈ hvs, 1 ≤ p.2 ∧ p.2 ≤ 1000000000) :
    (sSeq s13 (sSeq s14 (sSeq s15 s16))) [x0, x1, x2, x3, x4, x5, some (.d (islD rows)), x7, some (.d (cellD a)), x9, some (.d (.tup (gs.map cellD))), some (.d (.dT (encTb (putAll fr (gs ++ [a]) [])))), some (.d (.dT (encFD (gs.map fun c => (c, (1 : Int)))))), some (.d (.dT (encFD hvs))), none, none, o16, o17, o18, x19, x20] ⟨st, b⟩ = .rt (.d (.bl true)) ⟨st, b⟩ := by
  obtain ⟨hv, hhv⟩ : ∃ hv : Pt → Int, hv = fun c => (lookK hvs c).getD 1 := ⟨_, rfl⟩
  have hnd : (hvs.map (·.1)).Nodup := by rw [hk]; exact hn
  have hlk : ∀ g ∈ gs, lookK hvs g = some (hv g) := fun g hgg => by
    rw [← hk] at hgg
    obtain ⟨p, hp, rfl⟩ := List.mem_map.mp hgg
    have := mem_look hnd (k := p.1) (v := p.2) hp
    rw [hhv]
    simp only [this, Option.getD_some]
  have hbd : ∀ g ∈ gs, 1 ≤ hv g ∧ hv g ≤ 1000000000 := fun g hgg => by
    have e := hlk g hgg
    rw [← hk] at hgg
    obtain ⟨p, hp, rfl⟩ := List.mem_map.mp hgg
    rw [mem_look hnd (k := p.1) (v := p.2) hp] at e
    rw [← Option.some.inj e]
    exact h1 p hp
  have hlen : hvs.length = gs.length := by rw [← hk, List.length_map]
  have hweigh := fun (t : T) => weigh_call hr ha (hvs := hvs) (hv := hv) (by rw [hk]; exact hg) (by rw [hk]; exact hlk) hnd (by omega) h1 t
  rw [hk] at hweigh
  have hdig := fun (t : T) => dig_call hr ha hg hn (by omega) t
  have hall : allIn rows w a gs := fun g hgg => full_all hland ha (hg g hgg)
  have hcs : ∀ c ∈ gs ++ [a], c ∈ cellsOf rows w := fun c hc => by
    rcases List.mem_append.mp hc with hc | hc
    · exact hg c hc
    · have : c = a := by simpa using hc
      subst this
      exact ha
  have htab : ∀ c ∈ gs ++ [a], ∀ g ∈ gs, ∃ f, lookK (putAll fr (gs ++ [a]) []) c = some f ∧ lookK f g = some (dI rows w c g) := fun c hc g hgg => by
    refine ⟨fr c, by rw [putAll_look, if_pos hc], ?_⟩
    obtain ⟨k, hk⟩ := Option.isSome_iff_exists.mp (full_all hland (hcs c hc) (hg g hgg))
    rw [(hfr c (hcs c hc)).look, hk]
    unfold dI
    rw [hk]
    rfl
  have t1 := fun (o : List Pt) (ho : ∀ x ∈ o, x ∈ gs) (t : T) => total_call (tbs := putAll fr (gs ++ [a]) []) (hvs := gs.map fun c => (c, (1 : Int))) (d := dI rows w) (hv := fun _ => 1) (cs := gs ++ [a]) (gs := gs) htab (fun g hgg => ⟨look_pairs (fun _ => (1 : Int)) hn hgg, by decide, by decide⟩) (fun g hgg => List.mem_append_left _ hgg) (a := a) (by simp) ho t
  have t2 := fun (o : List Pt) (ho : ∀ x ∈ o, x ∈ gs) (t : T) => total_call (tbs := putAll fr (gs ++ [a]) []) (hvs := hvs) (d := dI rows w) (hv := hv) (cs := gs ++ [a]) (gs := gs) htab (fun g hgg => ⟨hlk g hgg, by have := (hbd g hgg).1; omega, (hbd g hgg).2⟩) (fun g hgg => List.mem_append_left _ hgg) (a := a) (by simp) ho t
  have hne : gs ≠ [] := fun z => by rw [z] at hl; cases hl
  have hord := fun (t : T) => orders_call (gs := gs) (by omega) hne t
  obtain ⟨o16', o17', o18', e⟩ := best_loop (x0 := x0) (x1 := x1) (x2 := x2) (x3 := x3) (x4 := x4) (x5 := x5) (x6 := some (.d (islD rows))) (x7 := x7) (x9 := x9) (x10 := some (.d (.tup (gs.map cellD)))) (x19 := x19) (x20 := x20) t1 t2 ⟨st, b⟩ (sortO (insAll gs)) none none o16 o17 o18 (fun o ho x hx => ((insAll_perm gs o).mp ((List.mergeSort_perm ..).mem_iff.mp ho)).mem_iff.mp hx)
  rw [best_walk hn, best_walk hn] at e
  have hsn : (sortC gs).Nodup := (sortC_perm gs).nodup_iff.mpr hn
  have c1 := (walkW_ok (dI rows w) (fun _ => 1) (sortC gs).length (sortC gs) a rfl hsn).2
  have c2 := (walkW_ok (dI rows w) hv (sortC gs).length (sortC gs) a rfl hsn).2
  have q1 : waitD rows w (fun _ => 1) a gs = ordD (leastW (dI rows w) (fun _ => 1) a (sortC gs)) (walkW (dI rows w) (fun _ => 1) a (sortC gs)) := if_pos hall
  have q2 : waitD rows w hv a gs = ordD (leastW (dI rows w) hv a (sortC gs)) (walkW (dI rows w) hv a (sortC gs)) := if_pos hall
  have hoi : ∀ (os : List (List Pt)) (t : T), fIter (.d (ordsT os)) t = .ok (os.map fun o => .d (.tup (o.map cellD))) t := fun os t => by
    show R.ok ((os.map fun o => D.tup (o.map cellD)).map Val.d) t = _
    rw [List.map_map]
    rfl
  have p13 : s13 [x0, x1, x2, x3, x4, x5, some (.d (islD rows)), x7, some (.d (cellD a)), x9, some (.d (.tup (gs.map cellD))), some (.d (.dT (encTb (putAll fr (gs ++ [a]) [])))), some (.d (.dT (encFD (gs.map fun c => (c, (1 : Int)))))), some (.d (.dT (encFD hvs))), none, none, o16, o17, o18, x19, x20] ⟨st, b⟩ = .nx [x0, x1, x2, x3, x4, x5, some (.d (islD rows)), x7, some (.d (cellD a)), x9, some (.d (.tup (gs.map cellD))), some (.d (.dT (encTb (putAll fr (gs ++ [a]) [])))), some (.d (.dT (encFD (gs.map fun c => (c, (1 : Int)))))), some (.d (.dT (encFD hvs))), some (.d .non), some (.d .non), o16, o17, o18, x19, x20] ⟨st, b⟩ := rfl
  have p14 : s14 [x0, x1, x2, x3, x4, x5, some (.d (islD rows)), x7, some (.d (cellD a)), x9, some (.d (.tup (gs.map cellD))), some (.d (.dT (encTb (putAll fr (gs ++ [a]) [])))), some (.d (.dT (encFD (gs.map fun c => (c, (1 : Int)))))), some (.d (.dT (encFD hvs))), some (.d .non), some (.d .non), o16, o17, o18, x19, x20] ⟨st, b⟩ = .nx [x0, x1, x2, x3, x4, x5, some (.d (islD rows)), x7, some (.d (cellD a)), x9, some (.d (.tup (gs.map cellD))), some (.d (.dT (encTb (putAll fr (gs ++ [a]) [])))), some (.d (.dT (encFD (gs.map fun c => (c, (1 : Int)))))), some (.d (.dT (encFD hvs))), some (.d (bD (fun o => cost (dI rows w) (fun _ => 1) a o) (some (walkW (dI rows w) (fun _ => 1) a (sortC gs))))), some (.d (bD (fun o => cost (dI rows w) hv a o) (some (walkW (dI rows w) hv a (sortC gs))))), o16', o17', o18', x19, x20] ⟨st, b⟩ := by
    unfold s14
    simp only [sFor, m1, mL, mCons, mNil, mVar, List.getElem?_cons_zero, List.getElem?_cons_succ, R.bind_ok, R.toS_ok, hord, hoi]
    exact e
  have hwl : ∀ hv : Pt → Int, (walkW (dI rows w) hv a (sortC gs)).length ≤ 1000 := fun hv => by
    rw [(walkW_ok (dI rows w) hv (sortC gs).length (sortC gs) a rfl hsn).1.length_eq, sortC_len]
    omega
  have hi0 : ∀ (s : List Pt → Int) (o : List Pt) (t : T), fIx (.d (bD s (some o))) (.d (.int 0)) t = .ok (.d (.int (s o))) t := fun _ _ _ => rfl
  have hi1 : ∀ (s : List Pt → Int) (o : List Pt) (t : T), fIx (.d (bD s (some o))) (.d (.int 1)) t = .ok (.d (.tup (o.map cellD))) t := fun _ _ _ => rfl
  have hli : ∀ (o : List Pt) (t : T), fListL [.d (.tup (o.map cellD))] t = .ok ((o.map cellD).map Val.d) t := fun _ _ => rfl
  have hfz : ∀ (o : List Pt) (t : T), fFz ((o.map cellD).map Val.d) t = .ok (.d (.lst (o.map cellD))) t := fun o t => by
    rw [List.map_map]
    exact fz_map cellD o t
  have htp : ∀ (s : Int) (o : List Pt) (t : T), fTup [.d (.int s), .d (.lst (o.map cellD))] t = .ok (.d (ordD s o)) t := fun _ _ _ => rfl
  rw [seq_nx p13, seq_nx p14]
  have p15 : s15 [x0, x1, x2, x3, x4, x5, some (.d (islD rows)), x7, some (.d (cellD a)), x9, some (.d (.tup (gs.map cellD))), some (.d (.dT (encTb (putAll fr (gs ++ [a]) [])))), some (.d (.dT (encFD (gs.map fun c => (c, (1 : Int)))))), some (.d (.dT (encFD hvs))), some (.d (bD (fun o => cost (dI rows w) (fun _ => 1) a o) (some (walkW (dI rows w) (fun _ => 1) a (sortC gs))))), some (.d (bD (fun o => cost (dI rows w) hv a o) (some (walkW (dI rows w) hv a (sortC gs))))), o16', o17', o18', x19, x20] ⟨st, b⟩ = .nx [x0, x1, x2, x3, x4, x5, some (.d (islD rows)), x7, some (.d (cellD a)), x9, some (.d (.tup (gs.map cellD))), some (.d (.dT (encTb (putAll fr (gs ++ [a]) [])))), some (.d (.dT (encFD (gs.map fun c => (c, (1 : Int)))))), some (.d (.dT (encFD hvs))), some (.d (bD (fun o => cost (dI rows w) (fun _ => 1) a o) (some (walkW (dI rows w) (fun _ => 1) a (sortC gs))))), some (.d (bD (fun o => cost (dI rows w) hv a o) (some (walkW (dI rows w) hv a (sortC gs))))), o16', o17', o18', x19, x20] ⟨st, b⟩ := by
    unfold s15
    simp only [sIf, sNil, mNot, m1, m2, mL, mCons, mNil, mC, mVar, List.getElem?_cons_zero, List.getElem?_cons_succ, R.bind_ok, R.toS_ok, hdig, q1, hi0, hi1, hli, hfz, htp, c1, alike_ord _ _ (hwl _), asB_ok, Bool.not_true, Bool.false_eq_true, if_false]
  rw [seq_nx p15]
  unfold s16
  simp only [sRet, m1, m2, mL, mCons, mNil, mC, mVar, List.getElem?_cons_zero, List.getElem?_cons_succ, R.bind_ok, R.toS_ok, hweigh, q2, hi0, hi1, hli, hfz, htp, c2, alike_ord _ _ (hwl _)]
theorem law_sat (ns : List Int) (hn : ns.length ≤ 63) : (f_law [.d (.scr ns)] box0).sat fun v _ => v = .d (.bl true) := by
  refine run_sat ?_
  rw [law_def]
  refine seq_sat (N' := fun ρ t => ∃ b, ρ = [some (.d (.scr ns)), some .box, none, none, none, none, none, none, none, none, none, none, none, none, none, none, none, none, none, none, none] ∧ t = ⟨[], b⟩ ∧ GoodB b) ?_ ?_
  · unfold s1
    simp only [w_sSet, w_sRet, w_sDrop, w_sPar, w_sIf, w_sFor, w_sNil, w_m2, w_m1, w_mL, w_mCons, w_mNil, w_mC, mVar_sat, w_mIf, w_mMeth, w_mNot, w_mAnd, w_mOr, w_asB, sat_ok, List.map_cons, List.map_nil, List.cons_append, List.nil_append, List.getElem?_cons_zero, List.getElem?_cons_succ, List.set_cons_zero, List.set_cons_succ, List.length_cons, List.length_nil, Nat.reduceAdd, Nat.reduceSub, List.replicate, Nat.zero_add]
    refine ⟨.box, ⟨[], ⟨true, false, mixSt ns 91, ns, 0⟩⟩, ?_, _, rfl, rfl, ⟨rfl, rfl, Nat.le_trans hn (by decide)⟩⟩
    unfold fBegun bg_law_mix
    simp only [if_pos (show ns.length ≤ 1000 by omega)]
    rfl
  rintro ρ t ⟨b, rfl, rfl, g⟩
  refine seq_sat (N' := fun ρ t => ∃ (hi w : Nat) (b : Box), 3 ≤ hi ∧ hi ≤ 12 ∧ 3 ≤ w ∧ w ≤ 12 ∧ ρ = [some (.d (.scr ns)), some .box, some (.d (.int (hi : Int))), some (.d (.int (w : Int))), none, none, none, none, none, none, none, none, none, none, none, none, none, none, none, none, none] ∧ t = ⟨[], b⟩ ∧ GoodB b) ?_ ?_
  · unfold s2
    simp only [w_sSet, w_sRet, w_sDrop, w_sPar, w_sIf, w_sFor, w_sNil, w_m2, w_m1, w_mL, w_mCons, w_mNil, w_mC, mVar_sat, w_mIf, w_mMeth, w_mNot, w_mAnd, w_mOr, w_asB, sat_ok, List.map_cons, List.map_nil, List.cons_append, List.nil_append, List.getElem?_cons_zero, List.getElem?_cons_succ, List.set_cons_zero, List.set_cons_succ, List.length_cons, List.length_nil, Nat.reduceAdd, Nat.reduceSub, List.replicate, Nat.zero_add]
    refine draw_sat g (by decide) (by decide) fun k b2 hk0 hk1 g2 => ?_
    rw [En.add_ok, sat_ok]
    refine draw_sat g2 (by decide) (by decide) fun k' b3 hk0' hk1' g3 => ?_
    rw [En.add_ok, sat_ok]
    refine ⟨(3 + k).toNat, (3 + k').toNat, b3, by omega, by omega, by omega, by omega, ?_, rfl, g3⟩
    rw [Int.toNat_of_nonneg (by omega), Int.toNat_of_nonneg (by omega)]
  rintro ρ t ⟨hi, w, b, h1, h2, w1, w2, rfl, rfl, g⟩
  refine seq_sat (N' := fun ρ t => ρ = [some (.d (.scr ns)), some .box, some (.d (.int (hi : Int))), some (.d (.int (w : Int))), some (.loc 0), none, none, none, none, none, none, none, none, none, none, none, none, none, none, none, none] ∧ t = ⟨[.lst []], b⟩) ?_ ?_
  · exact ⟨rfl, rfl⟩
  rintro ρ t ⟨rfl, rfl⟩
  refine seq_sat (rowsL_sat (x2 := none) g (by omega) h2 (by omega) w2) ?_
  rintro ρ t ⟨rows, b, o5, rfl, rfl, g, hrow, hlen⟩
  obtain ⟨hr, hland⟩ := rows_full (by omega) (by omega) (by omega) w2 hrow
  have hsix := six_cells (by omega) w1 hland
  have hcl := cellsOf_len hr
  have hcells : ∀ t : T, fCall f__law_cells [.d (.tup (rows.map D.str))] t = .ok (.d (.lst ((cellsOf rows w).map cellD))) t := fun t => call_eq rfl (cells_eq hr t.b)
  have hfz : (sFz 4 (sSeq s5 (sSeq s6 (sSeq s7 (sSeq s8 (sFz 10 (sSeq s9 (sSeq s10 (sSeq s11 (sSeq s12 (sSeq s13 (sSeq s14 (sSeq s15 s16))))))))))))) [some (.d (.scr ns)), some .box, some (.d (.int (hi : Int))), some (.d (.int (w : Int))), some (.loc 0), o5, none, none, none, none, none, none, none, none, none, none, none, none, none, none, none] ⟨[.lst ((rows.map D.str).map Val.d)], b⟩ = (sSeq s5 (sSeq s6 (sSeq s7 (sSeq s8 (sFz 10 (sSeq s9 (sSeq s10 (sSeq s11 (sSeq s12 (sSeq s13 (sSeq s14 (sSeq s15 s16)))))))))))) [some (.d (.scr ns)), some .box, some (.d (.int (hi : Int))), some (.d (.int (w : Int))), some (.d (.lst (rows.map D.str))), o5, none, none, none, none, none, none, none, none, none, none, none, none, none, none, none] ⟨[.dead], b⟩ := by
    have e : fFreeze (.loc 0) ⟨[.lst ((rows.map D.str).map Val.d)], b⟩ = .ok (.d (.lst (rows.map D.str))) ⟨[.dead], b⟩ := by
      show (match datas ((rows.map D.str).map Val.d) with | some ds => R.ok (Val.d (.lst ds)) _ | none => .stuck) = _
      rw [datas_map]
      rfl
    exact sFz_eq rfl e
  rw [hfz]
  refine seq_sat (N' := fun ρ t => ρ = [some (.d (.scr ns)), some .box, some (.d (.int (hi : Int))), some (.d (.int (w : Int))), some (.d (.tup (rows.map D.str))), o5, none, none, none, none, none, none, none, none, none, none, none, none, none, none, none] ∧ t = ⟨[.dead], b⟩) ?_ ?_
  · unfold s5
    simp only [w_sSet, w_sRet, w_sDrop, w_sPar, w_sIf, w_sFor, w_sNil, w_m2, w_m1, w_mL, w_mCons, w_mNil, w_mC, mVar_sat, w_mIf, w_mMeth, w_mNot, w_mAnd, w_mOr, w_asB, sat_ok, List.map_cons, List.map_nil, List.cons_append, List.nil_append, List.getElem?_cons_zero, List.getElem?_cons_succ, List.set_cons_zero, List.set_cons_succ, List.length_cons, List.length_nil, Nat.reduceAdd, Nat.reduceSub, List.replicate, Nat.zero_add, tupL]
    exact ⟨trivial, trivial⟩
  rintro ρ t ⟨rfl, rfl⟩
  refine seq_sat (N' := fun ρ t => ρ = [some (.d (.scr ns)), some .box, some (.d (.int (hi : Int))), some (.d (.int (w : Int))), some (.d (.tup (rows.map D.str))), o5, some (.d (islD rows)), some (.d (.lst ((cellsOf rows w).map cellD))), none, none, none, none, none, none, none, none, none, none, none, none, none] ∧ t = ⟨[.dead], b⟩) ?_ ?_
  · unfold s6
    simp only [w_sSet, w_sRet, w_sDrop, w_sPar, w_sIf, w_sFor, w_sNil, w_m2, w_m1, w_mL, w_mCons, w_mNil, w_mC, mVar_sat, w_mIf, w_mMeth, w_mNot, w_mAnd, w_mOr, w_asB, sat_ok, List.map_cons, List.map_nil, List.cons_append, List.nil_append, List.getElem?_cons_zero, List.getElem?_cons_succ, List.set_cons_zero, List.set_cons_succ, List.length_cons, List.length_nil, Nat.reduceAdd, Nat.reduceSub, List.replicate, Nat.zero_add, make_eq hr, hcells]
    exact ⟨trivial, trivial⟩
  rintro ρ t ⟨rfl, rfl⟩
  have hlenc : ∀ t : T, fLenB [.d (.lst ((cellsOf rows w).map cellD))] t = .ok (.d (.int ((cellsOf rows w).length : Int))) t := fun t => by rw [len_lst, List.length_map]
  refine seq_sat (N' := fun ρ t => ∃ (a : Pt) (b : Box), a ∈ cellsOf rows w ∧ ρ = [some (.d (.scr ns)), some .box, some (.d (.int (hi : Int))), some (.d (.int (w : Int))), some (.d (.tup (rows.map D.str))), o5, some (.d (islD rows)), some (.d (.lst ((cellsOf rows w).map cellD))), some (.d (cellD a)), some (.loc 1), some (.loc 2), none, none, none, none, none, none, none, none, none, none] ∧ t = ⟨[.dead, .lst (((cellsOf rows w).map cellD).map Val.d), .lst ((([] : List Pt).map cellD).map Val.d)], b⟩ ∧ GoodB b) ?_ ?_
  · have hli : ∀ t : T, fListL [.d (.lst ((cellsOf rows w).map cellD))] t = .ok (((cellsOf rows w).map cellD).map Val.d) t := fun _ => rfl
    have hf0 : ∀ t : T, fLen [] t = .ok [] t := fun _ => rfl
    have hpar : ∀ {ρ : Rho} {t : T} {m : ME (List Val)} {N : Rho → T → Prop} {V : Val → T → Prop}, (sPar3 8 9 10 m ρ t).sat N V = (m ρ t).sat fun vs t => (match vs with | [u, v, z] => RS.nx (((ρ.set 8 (some u)).set 9 (some v)).set 10 (some z)) t | _ => .stuck).sat N V := fun {ρ t m N V} => by
      unfold sPar3
      rw [sat_toS]
      try rfl
    unfold s7
    rw [hpar]
    simp only [w_sSet, w_sRet, w_sDrop, w_sPar, w_sIf, w_sFor, w_sNil, w_m2, w_m1, w_mL, w_mCons, w_mNil, w_mC, mVar_sat, w_mIf, w_mMeth, w_mNot, w_mAnd, w_mOr, w_asB, sat_ok, List.map_cons, List.map_nil, List.cons_append, List.nil_append, List.getElem?_cons_zero, List.getElem?_cons_succ, List.set_cons_zero, List.set_cons_succ, List.length_cons, List.length_nil, Nat.reduceAdd, Nat.reduceSub, List.replicate, Nat.zero_add, hlenc]
    refine draw_sat g (by omega) (by omega) fun k b2 hk0 hk1 g2 => ?_
    obtain ⟨n, rfl⟩ : ∃ n : Nat, k = (n : Int) := ⟨k.toNat, by omega⟩
    rw [ix_cellL (show n < (cellsOf rows w).length by omega), sat_ok, hli, sat_ok]
    have hnew : ∀ (vs : List Val) (t : T), fNew vs t = .ok (.loc t.st.length) { t with st := t.st ++ [.lst vs] } := fun _ _ => rfl
    rw [hnew, sat_ok, hf0, sat_ok, hnew, sat_ok]
    exact ⟨_, b2, List.getElem_mem _, rfl, rfl, g2⟩
  rintro ρ t ⟨a, b, ha, rfl, rfl, g⟩
  refine seq_sat (goals_sat hsix (by omega) 7 (cellsOf rows w) [] b g (by simp) (by simp) (by simp)) ?_
  rintro ρ t ⟨left, found, b, rfl, rfl, g, hl6, hperm⟩
  have hfz2 : (sFz 10 (sSeq s9 (sSeq s10 (sSeq s11 (sSeq s12 (sSeq s13 (sSeq s14 (sSeq s15 s16)))))))) [some (.d (.scr ns)), some .box, some (.d (.int (hi : Int))), some (.d (.int (w : Int))), some (.d (.tup (rows.map D.str))), o5, some (.d (islD rows)), some (.d (.lst ((cellsOf rows w).map cellD))), some (.d (cellD a)), some (.loc 1), some (.loc 2), none, none, none, none, none, none, none, none, none, none] ⟨[.dead, .lst ((left.map cellD).map Val.d), .lst ((found.map cellD).map Val.d)], b⟩ = (sSeq s9 (sSeq s10 (sSeq s11 (sSeq s12 (sSeq s13 (sSeq s14 (sSeq s15 s16))))))) [some (.d (.scr ns)), some .box, some (.d (.int (hi : Int))), some (.d (.int (w : Int))), some (.d (.tup (rows.map D.str))), o5, some (.d (islD rows)), some (.d (.lst ((cellsOf rows w).map cellD))), some (.d (cellD a)), some (.loc 1), some (.d (.lst (found.map cellD))), none, none, none, none, none, none, none, none, none, none] ⟨[.dead, .lst ((left.map cellD).map Val.d), .dead], b⟩ := by
    have e : fFreeze (.loc 2) ⟨[.dead, .lst ((left.map cellD).map Val.d), .lst ((found.map cellD).map Val.d)], b⟩ = .ok (.d (.lst (found.map cellD))) ⟨[.dead, .lst ((left.map cellD).map Val.d), .dead], b⟩ := by
      show (match datas ((found.map cellD).map Val.d) with | some ds => R.ok (Val.d (.lst ds)) _ | none => .stuck) = _
      rw [datas_map]
      rfl
    exact sFz_eq rfl e
  rw [hfz2]
  obtain ⟨gs, hgs⟩ : ∃ gs, gs = sortC found := ⟨_, rfl⟩
  have hsub : ∀ c ∈ gs, c ∈ cellsOf rows w := fun c hc => by
    rw [hgs] at hc
    exact hperm.mem_iff.mp (List.mem_append_left _ ((sortC_perm found).mem_iff.mp hc))
  have hgn : gs.Nodup := by
    rw [hgs]
    exact (sortC_perm found).nodup_iff.mpr (List.nodup_append.mp (hperm.nodup_iff.mpr (cellsOf_nodup rows w))).1
  have hgl : gs.length = 6 := by rw [hgs, sortC_len, hl6]
  refine seq_sat (N' := fun ρ t => ρ = [some (.d (.scr ns)), some .box, some (.d (.int (hi : Int))), some (.d (.int (w : Int))), some (.d (.tup (rows.map D.str))), o5, some (.d (islD rows)), some (.d (.lst ((cellsOf rows w).map cellD))), some (.d (cellD a)), some (.loc 1), some (.d (.tup (gs.map cellD))), none, none, none, none, none, none, none, none, none, none] ∧ t = ⟨[.dead, .lst ((left.map cellD).map Val.d), .dead], b⟩) ?_ ?_
  · unfold s9
    simp only [w_sSet, w_sRet, w_sDrop, w_sPar, w_sIf, w_sFor, w_sNil, w_m2, w_m1, w_mL, w_mCons, w_mNil, w_mC, mVar_sat, w_mIf, w_mMeth, w_mNot, w_mAnd, w_mOr, w_asB, sat_ok, List.map_cons, List.map_nil, List.cons_append, List.nil_append, List.getElem?_cons_zero, List.getElem?_cons_succ, List.set_cons_zero, List.set_cons_succ, List.length_cons, List.length_nil, Nat.reduceAdd, Nat.reduceSub, List.replicate, Nat.zero_add, sort_cells, tupL, ← hgs]
    exact ⟨trivial, trivial⟩
  rintro ρ t ⟨rfl, rfl⟩
  obtain ⟨fr, hfr⟩ := fars_fun hr b
  have hcs : ∀ c ∈ gs ++ [a], c ∈ cellsOf rows w := fun c hc => by
    rcases List.mem_append.mp hc with hc | hc
    · exact hsub c hc
    · have : c = a := by simpa using hc
      subst this
      exact ha
  obtain ⟨st, hst⟩ : ∃ st, st = [Cell.dead, .lst ((left.map cellD).map Val.d), .dead] := ⟨_, rfl⟩
  rw [← hst]
  have hadd : ∀ t : T, fAdd (.d (.tup (gs.map cellD))) (.d (.tup [cellD a])) t = .ok (.d (.tup ((gs ++ [a]).map cellD))) t := fun t => by
    rw [addT (by rw [List.length_map]; show _ + 1 ≤ 100000; omega), List.map_append]
    rfl
  have htup1 : ∀ t : T, fTup [.d (cellD a)] t = .ok (.d (.tup [cellD a])) t := fun _ => rfl
  refine seq_sat (N' := fun ρ t => ρ = [some (.d (.scr ns)), some .box, some (.d (.int (hi : Int))), some (.d (.int (w : Int))), some (.d (.tup (rows.map D.str))), o5, some (.d (islD rows)), some (.d (.lst ((cellsOf rows w).map cellD))), some (.d (cellD a)), some (.loc 1), some (.d (.tup (gs.map cellD))), some (.d (.dT (encTb (putAll fr (gs ++ [a]) [])))), none, none, none, none, none, none, none, none, none] ∧ t = ⟨st, b⟩) ?_ ?_
  · unfold s10
    have e1 := lcM_filter (f := gN 20) (tt := mYes) (te := (mL fTup (mCons (mVar 20) (mCons (mL (fCall f__law_far) (mCons (mVar 4) (mCons (mVar 20) mNil))) mNil)))) (ρ := [some (.d (.scr ns)), some .box, some (.d (.int (hi : Int))), some (.d (.int (w : Int))), some (.d (.tup (rows.map D.str))), o5, some (.d (islD rows)), some (.d (.lst ((cellsOf rows w).map cellD))), some (.d (cellD a)), some (.loc 1), some (.d (.tup (gs.map cellD))), none, none, none, none, none, none, none, none, none, none]) (t := ⟨st, b⟩) (fun p => Val.d (cellD p)) (fun _ => true) (fun c => .d (.tup [cellD c, .dT (encFD (fr c))])) (gs ++ [a]) [] (fun c hc => by
      refine ⟨_, rfl, rfl, fun _ => ?_⟩
      have htp : ∀ t : T, fTup [.d (cellD c), .d (.dT (encFD (fr c)))] t = .ok (.d (.tup [cellD c, .dT (encFD (fr c))])) t := fun _ => rfl
      simp only [List.map_cons, List.map_nil, List.length_cons, List.length_nil, List.replicate, List.cons_append, List.nil_append, List.append_nil, sSeq, sIf, sRet, sNil, sSet, sDrop, m2, m1, mL, mCons, mNil, mC, mVar, mIf, List.getElem?_cons_zero, List.getElem?_cons_succ, List.set_cons_zero, List.set_cons_succ, R.bind_ok, R.toS_ok, Nat.reduceAdd, Nat.reduceSub, Nat.zero_add, En.eq_cell, En.asB_ok, En.eq_int, En.lt_ok, En.le_ok, En.sub_ok, En.add_ok, En.abs_ok, En.cell_0, En.cell_1, decide_true, decide_false, Bool.false_eq_true, if_true, if_false, Bool.not_true, Bool.not_false, (hfr c (hcs c hc)).1, htp]) (by rw [List.length_append]; show 0 + (_ + 1) ≤ 100000; omega)
    have hfz : ∀ t : T, fFz ([] ++ ((gs ++ [a]).filter fun _ => true).map fun c => Val.d (.tup [cellD c, .dT (encFD (fr c))])) t = .ok (.d (.lst ((gs ++ [a]).map fun c => .tup [cellD c, .dT (encFD (fr c))]))) t := fun t => by
      rw [List.nil_append, show ((gs ++ [a]).filter fun _ => true) = gs ++ [a] from List.filter_eq_self.mpr fun _ _ => rfl, fz_map (fun (c : Pt) => D.tup [cellD c, .dT (encFD (fr c))])]
    have hm : (mCons (mL fFz (mLc [20] (gN 20) (m1 fIter (m2 fAdd (mVar 10) (mL fTup (mCons (mVar 8) mNil)))) mYes (mL fTup (mCons (mVar 20) (mCons (mL (fCall f__law_far) (mCons (mVar 4) (mCons (mVar 20) mNil))) mNil))))) mNil) [some (.d (.scr ns)), some .box, some (.d (.int (hi : Int))), some (.d (.int (w : Int))), some (.d (.tup (rows.map D.str))), o5, some (.d (islD rows)), some (.d (.lst ((cellsOf rows w).map cellD))), some (.d (cellD a)), some (.loc 1), some (.d (.tup (gs.map cellD))), none, none, none, none, none, none, none, none, none, none] ⟨st, b⟩ = .ok [.d (.lst ((gs ++ [a]).map fun c => .tup [cellD c, .dT (encFD (fr c))]))] ⟨st, b⟩ := by
      simp only [List.map_cons, List.map_nil, List.length_cons, List.length_nil, List.replicate, List.cons_append, List.nil_append, List.append_nil, sSeq, sIf, sRet, sNil, sSet, sDrop, m2, m1, mL, mCons, mNil, mC, mVar, mIf, List.getElem?_cons_zero, List.getElem?_cons_succ, List.set_cons_zero, List.set_cons_succ, R.bind_ok, R.toS_ok, Nat.reduceAdd, Nat.reduceSub, Nat.zero_add, En.eq_cell, En.asB_ok, En.eq_int, En.lt_ok, En.le_ok, En.sub_ok, En.add_ok, En.abs_ok, En.cell_0, En.cell_1, decide_true, decide_false, Bool.false_eq_true, if_true, if_false, Bool.not_true, Bool.not_false, mLc, htup1, hadd, cells_iter, wipeR]
      rw [e1]
      simp only [R.bind_ok, hfz]
    have hd := dict_fz (fun f => D.dT (encFD f)) hm (dictL_put (fun f => D.dT (encFD f)) fr (gs ++ [a]) (by rw [List.length_append]; show _ + 1 ≤ 1000; omega) ⟨st, b⟩)
    rw [w_sSet, hd, sat_ok]
    exact ⟨rfl, rfl⟩
  rintro ρ t ⟨rfl, rfl⟩
  refine seq_sat (N' := fun ρ t => ρ = [some (.d (.scr ns)), some .box, some (.d (.int (hi : Int))), some (.d (.int (w : Int))), some (.d (.tup (rows.map D.str))), o5, some (.d (islD rows)), some (.d (.lst ((cellsOf rows w).map cellD))), some (.d (cellD a)), some (.loc 1), some (.d (.tup (gs.map cellD))), some (.d (.dT (encTb (putAll fr (gs ++ [a]) [])))), some (.d (.dT (encFD (gs.map fun c => (c, (1 : Int)))))), none, none, none, none, none, none, none, none] ∧ t = ⟨st, b⟩) ?_ ?_
  · unfold s11
    have e1 := lcM_filter (f := gN 20) (tt := mYes) (te := (mL fTup (mCons (mVar 20) (mCons (mC (.int 1)) mNil)))) (ρ := [some (.d (.scr ns)), some .box, some (.d (.int (hi : Int))), some (.d (.int (w : Int))), some (.d (.tup (rows.map D.str))), o5, some (.d (islD rows)), some (.d (.lst ((cellsOf rows w).map cellD))), some (.d (cellD a)), some (.loc 1), some (.d (.tup (gs.map cellD))), some (.d (.dT (encTb (putAll fr (gs ++ [a]) [])))), none, none, none, none, none, none, none, none, none]) (t := ⟨st, b⟩) (fun p => Val.d (cellD p)) (fun _ => true) (fun c => .d (.tup [cellD c, .int 1])) gs [] (fun c hc => by
      refine ⟨_, rfl, rfl, fun _ => ?_⟩
      have htp : ∀ t : T, fTup [.d (cellD c), .d (.int 1)] t = .ok (.d (.tup [cellD c, .int 1])) t := fun _ => rfl
      simp only [List.map_cons, List.map_nil, List.length_cons, List.length_nil, List.replicate, List.cons_append, List.nil_append, List.append_nil, sSeq, sIf, sRet, sNil, sSet, sDrop, m2, m1, mL, mCons, mNil, mC, mVar, mIf, List.getElem?_cons_zero, List.getElem?_cons_succ, List.set_cons_zero, List.set_cons_succ, R.bind_ok, R.toS_ok, Nat.reduceAdd, Nat.reduceSub, Nat.zero_add, En.eq_cell, En.asB_ok, En.eq_int, En.lt_ok, En.le_ok, En.sub_ok, En.add_ok, En.abs_ok, En.cell_0, En.cell_1, decide_true, decide_false, Bool.false_eq_true, if_true, if_false, Bool.not_true, Bool.not_false, htp]) (by show 0 + gs.length ≤ 100000; omega)
    have hfz : ∀ t : T, fFz ([] ++ (gs.filter fun _ => true).map fun c => Val.d (.tup [cellD c, .int 1])) t = .ok (.d (.lst ((gs.map fun c => (c, (1 : Int))).map fun p => .tup [cellD p.1, .int p.2]))) t := fun t => by
      rw [List.nil_append, show (gs.filter fun _ => true) = gs from List.filter_eq_self.mpr fun _ _ => rfl, fz_map (fun (c : Pt) => D.tup [cellD c, .int 1]), List.map_map]
      rfl
    have hm : (mCons (mL fFz (mLc [20] (gN 20) (m1 fIter (mVar 10)) mYes (mL fTup (mCons (mVar 20) (mCons (mC (.int 1)) mNil))))) mNil) [some (.d (.scr ns)), some .box, some (.d (.int (hi : Int))), some (.d (.int (w : Int))), some (.d (.tup (rows.map D.str))), o5, some (.d (islD rows)), some (.d (.lst ((cellsOf rows w).map cellD))), some (.d (cellD a)), some (.loc 1), some (.d (.tup (gs.map cellD))), some (.d (.dT (encTb (putAll fr (gs ++ [a]) [])))), none, none, none, none, none, none, none, none, none] ⟨st, b⟩ = .ok [.d (.lst ((gs.map fun c => (c, (1 : Int))).map fun p => .tup [cellD p.1, .int p.2]))] ⟨st, b⟩ := by
      simp only [List.map_cons, List.map_nil, List.length_cons, List.length_nil, List.replicate, List.cons_append, List.nil_append, List.append_nil, sSeq, sIf, sRet, sNil, sSet, sDrop, m2, m1, mL, mCons, mNil, mC, mVar, mIf, List.getElem?_cons_zero, List.getElem?_cons_succ, List.set_cons_zero, List.set_cons_succ, R.bind_ok, R.toS_ok, Nat.reduceAdd, Nat.reduceSub, Nat.zero_add, En.eq_cell, En.asB_ok, En.eq_int, En.lt_ok, En.le_ok, En.sub_ok, En.add_ok, En.abs_ok, En.cell_0, En.cell_1, decide_true, decide_false, Bool.false_eq_true, if_true, if_false, Bool.not_true, Bool.not_false, mLc, cells_iter, wipeR]
      rw [e1]
      simp only [R.bind_ok, hfz]
    have hd := dict_fz D.int hm (dictL_pairs D.int (gs.map fun c => (c, (1 : Int))) (by rw [keys_pairs]; exact hgn) (by rw [List.length_map]; omega) ⟨st, b⟩)
    rw [w_sSet, hd, sat_ok]
    exact ⟨rfl, rfl⟩
  rintro ρ t ⟨rfl, rfl⟩
  refine seq_sat (N' := fun ρ t => ∃ (hvs : List (Pt × Int)) (b : Box), hvs.map (·.1) = gs ∧ (∀ p ∈ hvs, 1 ≤ p.2 ∧ p.2 ≤ 1000000000) ∧ ρ = [some (.d (.scr ns)), some .box, some (.d (.int (hi : Int))), some (.d (.int (w : Int))), some (.d (.tup (rows.map D.str))), o5, some (.d (islD rows)), some (.d (.lst ((cellsOf rows w).map cellD))), some (.d (cellD a)), some (.loc 1), some (.d (.tup (gs.map cellD))), some (.d (.dT (encTb (putAll fr (gs ++ [a]) [])))), some (.d (.dT (encFD (gs.map fun c => (c, (1 : Int)))))), some (.d (.dT (encFD hvs))), none, none, none, none, none, none, none] ∧ t = ⟨st, b⟩ ∧ GoodB b) ?_ ?_
  · unfold s12
    rw [w_sSet, w_dict, w_mCons, w_mL]
    simp only [mLc, sat_bind, w_sSet, w_sRet, w_sDrop, w_sPar, w_sIf, w_sFor, w_sNil, w_m2, w_m1, w_mL, w_mCons, w_mNil, w_mC, mVar_sat, w_mIf, w_mMeth, w_mNot, w_mAnd, w_mOr, w_asB, sat_ok, List.map_cons, List.map_nil, List.cons_append, List.nil_append, List.getElem?_cons_zero, List.getElem?_cons_succ, List.set_cons_zero, List.set_cons_succ, List.length_cons, List.length_nil, Nat.reduceAdd, Nat.reduceSub, List.replicate, Nat.zero_add, cells_iter, wipeR]
    refine sat_mono (weights2_sat g (by omega) (fun _ => rfl) (fun _ => rfl)) ?_
    rintro vs ⟨st', b3⟩ ⟨hvs, rfl, hk, h1', hst', g3⟩
    have hst' : st' = st := hst'
    subst hst'
    have hlh : hvs.length = gs.length := by rw [← hk, List.length_map]
    rw [fz_map (fun (p : Pt × Int) => D.tup [cellD p.1, .int p.2]), sat_ok, dictL_pairs D.int hvs (by rw [hk]; exact hgn) (by omega), sat_ok, encV_fz, sat_ok, encV_zip]
    exact ⟨hvs, b3, hk, h1', rfl, rfl, g3⟩
  rintro ρ t ⟨hvs, b', hk, hw1, rfl, rfl, g'⟩
  have hend := end_eq (x0 := some (.d (.scr ns))) (x1 := some .box) (x2 := some (.d (.int (hi : Int)))) (x3 := some (.d (.int (w : Int)))) (x4 := some (.d (.tup (rows.map D.str)))) (x5 := o5) (x7 := some (.d (.lst ((cellsOf rows w).map cellD)))) (x9 := some (.loc 1)) (o16 := none) (o17 := none) (o18 := none) (x19 := none) (x20 := none) (st := st) (b := b') hr hland ha hsub hgn hgl (fun c hc => (hfr c hc).2) hvs hk hw1
  rw [hend]
  exact rfl
theorem law_true : ∀ ns : List Int, ns.length ≤ 63 → ∃ t, f_law [.d (.scr ns)] box0 = .ok (.d (.bl true)) t := by
  intro ns hn
  obtain ⟨v, t, e, h⟩ := law_sat ns hn
  subst h
  exact ⟨t, e⟩
end K91
set_option Elab.async false
set_option linter.all false
set_option maxRecDepth 100000
set_option maxHeartbeats 0
open PySem PySem.W PySem.Calls PyProof.Rows
theorem PySem.Challenge.cw_oldmap_k91_whole_long_walks_of_least_wai_holds : PySem.Challenge.rw_oldmap_k91_whole_long_walks_of_least_wai.Holds := by
  w_on; o_law; o_head K91.hk
  case hw => w_witness2
  case hc =>
    refine En.walk_ofW (l := PySem.Challenge.rw_oldmap_k91_whole_long_walks_of_least_wai) (n := 63) (k := 21) (x := "_law_script") (mf := K91.f_law) rfl (by decide) (by kernel_rfl) ⟨rfl, by decide, by decide⟩ ?F K91.law_true
    intro w mg fa h Y G hmg0
    obtain ⟨K, KX, c⟩ := Y
    have hmg : mg ("law" : PySem.Str) = some (.ref fa) := hmg0
    obtain ⟨fd, hb, hF⟩ := K91.facts KX G hmg c
    exact ⟨K, fd, KX, hb, fun base _ _ => hF base⟩
