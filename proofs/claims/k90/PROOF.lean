import PyProof.Rows.All
import Wide.All
import OpenK.AllK
import Wide.FinOn
import HandS.ForMost
import HandS.ForExc
import HandS.CallSlots
import HandS.HeadHook2
import KE.KeyNested
import HandS.TupAny
import HandS.Deep
import HandS.TupMul
import HandS.IsInst
import HandS.Replace
import HandS.Style
import KE.GoesEnum
import HandS.Zip
import HandS.Property
import HandS.ReplaceLit
import KE.SortData
import HandS.HeadHook3
import KE.KDictKeyed
import HandS.Dict
import HandS.Iter
import KE.KDictDisplayH
import KE.KDictList
import KE.KDictCopyH
import HandS.More
import HandS.CallRecv
import HandS.TupSets
import KE.KStateDown
import HandS.Ends
import HandS.Words
import HandS.WordsExc
import HandS.Defaults
import HandS.Head0
import HandS.Head1
import HandS.Head2
import HandS.HeadEnd
import HandS.HeadHook1
import Lean
import PyProof.Rows.StrStrike
import PySem.Challenge.RW_oldmap_k90_whole_digs_on_great_islands
set_option Elab.async false
set_option linter.all false
set_option maxRecDepth 100000
set_option maxHeartbeats 1000000
set_option autoImplicit false
namespace En
open PySem PySem.Spec PyProof.Rows L2

inductive D where
  | non
  | bl (b : Bool)
  | int (i : Int)
  | str (x : Str)
  | tup (xs : List D)
  | lst (xs : List D)
  | ins (c : Str) (fs : List (Str × D))
  | dK (kvs : List (Key × D))
  | dT (kvs : List (NestedKey × D))
  | scr (ns : List Int)
inductive Val where
  | d (x : D)
  | loc (n : Nat)
  | box
inductive Cell where
  | dead
  | lst (xs : List Val)
  | ins (c : Str) (fs : List (Str × Val))
  | dK (kvs : List (Key × Val))
  | dT (kvs : List (NestedKey × Val))
structure Box where
  on : Bool
  v : Bool
  st : Int
  ns : List Int
  ix : Int
structure T where
  st : List Cell
  b : Box
structure Exn where
  own : Bool
  cls : Str
  fs : List (Str × D)
inductive R (α : Type) where
  | ok (a : α) (t : T)
  | exc (x : Exn) (t : T)
  | stuck
abbrev Rho := List (Option Val)
abbrev ME (α : Type) := Rho → T → R α
def R.bind {α β : Type} (r : R α) (f : α → T → R β) : R β := match r with
  | .ok a t => f a t
  | .exc x t => .exc x t
  | .stuck => .stuck

mutual
inductive KeyV (K : PySem.W.Frag) (F : Hp) : V → NestedKey → Prop
  | non : KeyV K F .non .none
  | int (i : Int) : KeyV K F (.int i) (.num i)
  | tup {a : Addr} {xs : List V} {ks : List NestedKey} : SqT K F a xs → KeyVs K F xs ks → KeyV K F (.ref a) (.tup ks)
inductive KeyVs (K : PySem.W.Frag) (F : Hp) : List V → List NestedKey → Prop
  | nil : KeyVs K F [] []
  | cons {v : V} {vs : List V} {k : NestedKey} {ks : List NestedKey} : KeyV K F v k → KeyVs K F vs ks → KeyVs K F (v :: vs) (k :: ks)
end
def dicO (a : Addr) (o : Obj) : HO := .ext fun h => h.get? a = some o
structure DicOk (a : Addr) (o : Obj) (es : Array DictEntry) (ep : Nat) (ks : List NestedKey) : Prop where
  exact_ : o.ExactDict
  data : o.data = .dict es ep
  sys : (a == sysModules) = false
  nodup : ks.Nodup
  size : ks.length ≤ sizeLine
inductive EntsOk (K : PySem.W.Frag) (F : Hp) : List DictEntry → List (NestedKey × V) → Prop
  | nil : EntsOk K F [] []
  | cons {en : DictEntry} {es : List DictEntry} {k : NestedKey} {v : V} {xs : List (NestedKey × V)} {b : Addr} : en.key = .ref b → (∀ w : World, en.hash = k.hash w) → KeyV K F (.ref b) k → k.depth ≤ 8 → RelV v en.val → EntsOk K F es xs → EntsOk K F (en :: es) ((k, v) :: xs)
mutual
inductive Rep (K : PySem.W.Frag) (F : Hp) : V → D → Prop
  | non : Rep K F .non .non
  | bl (b : Bool) : Rep K F (.bl b) (.bl b)
  | int (i : Int) : Rep K F (.int i) (.int i)
  | str (x : Str) : Rep K F (.str x) (.str x)
  | tup {a : Addr} {xs : List V} {ds : List D} : SqT K F a xs → Reps K F xs ds → Rep K F (.ref a) (.tup ds)
  | lst {a : Addr} {xs : List V} {ds : List D} : F a = some (.lst xs) → Reps K F xs ds → Rep K F (.ref a) (.lst ds)
  | ins {a dx : Addr} {c : Str} {xs : List (Str × V)} {fs : List (Str × D)} : F a = some (.ins (He.ga K c) dx xs) → RepF K F xs fs → Rep K F (.ref a) (.ins c fs)
  | dK {a : Addr} {kvs : List (Key × V)} {ds : List (Key × D)} : (∃ o, F a = some (.frz o (.dK kvs))) → RepK K F kvs ds → Rep K F (.ref a) (.dK ds)
  | dT {a : Addr} {o : Obj} {es : Array DictEntry} {ep : Nat} {kvs : List (NestedKey × V)} {ds : List (NestedKey × D)} : F a = some (dicO a o) → DicOk a o es ep (kvs.map (·.1)) → EntsOk K F es.toList kvs → RepT K F kvs ds → Rep K F (.ref a) (.dT ds)
  | scr {a : Addr} {ns : List Int} : SqL K F a (ns.map V.int) → Rep K F (.ref a) (.scr ns)
inductive Reps (K : PySem.W.Frag) (F : Hp) : List V → List D → Prop
  | nil : Reps K F [] []
  | cons {v : V} {vs : List V} {d : D} {ds : List D} : Rep K F v d → Reps K F vs ds → Reps K F (v :: vs) (d :: ds)
inductive RepF (K : PySem.W.Frag) (F : Hp) : List (Str × V) → List (Str × D) → Prop
  | nil : RepF K F [] []
  | cons {x : Str} {v : V} {vs : List (Str × V)} {d : D} {ds : List (Str × D)} : Rep K F v d → RepF K F vs ds → RepF K F ((x, v) :: vs) ((x, d) :: ds)
inductive RepK (K : PySem.W.Frag) (F : Hp) : List (Key × V) → List (Key × D) → Prop
  | nil : RepK K F [] []
  | cons {x : Key} {v : V} {vs : List (Key × V)} {d : D} {ds : List (Key × D)} : Rep K F v d → RepK K F vs ds → RepK K F ((x, v) :: vs) ((x, d) :: ds)
inductive RepT (K : PySem.W.Frag) (F : Hp) : List (NestedKey × V) → List (NestedKey × D) → Prop
  | nil : RepT K F [] []
  | cons {x : NestedKey} {v : V} {vs : List (NestedKey × V)} {d : D} {ds : List (NestedKey × D)} : Rep K F v d → RepT K F vs ds → RepT K F ((x, v) :: vs) ((x, d) :: ds)
end

def Ex (H H' : Hp) : Prop := ∀ a o, H a = some o → H' a = some o
theorem Ex.refl (H : Hp) : Ex H H := fun _ _ h => h
theorem Ex.trans {H H1 H2 : Hp} (a : Ex H H1) (b : Ex H1 H2) : Ex H H2 := fun x o h => b x o (a x o h)
theorem Ex.sqT {K : PySem.W.Frag} {H H' : Hp} {a : Addr} {xs : List V} (e : Ex H H') (h : SqT K H a xs) : SqT K H' a xs := by
  rcases h with (h | ⟨o, h⟩) | h
  · exact .inl (.inl (e _ _ h))
  · exact .inl (.inr ⟨o, e _ _ h⟩)
  · exact .inr h
theorem Ex.sqL {K : PySem.W.Frag} {H H' : Hp} {a : Addr} {xs : List V} (e : Ex H H') (h : SqL K H a xs) : SqL K H' a xs := by
  rcases h with (h | ⟨o, h⟩) | h
  · exact .inl (.inl (e _ _ h))
  · exact .inl (.inr ⟨o, e _ _ h⟩)
  · exact .inr h
mutual
theorem KeyV.mono {K : PySem.W.Frag} {F F' : Hp} (e : Ex F F') {v : V} {k : NestedKey} : KeyV K F v k → KeyV K F' v k
  | .non => .non
  | .int i => .int i
  | .tup h hs => .tup (e.sqT h) (KeyVs.mono e hs)
theorem KeyVs.mono {K : PySem.W.Frag} {F F' : Hp} (e : Ex F F') {v : List V} {k : List NestedKey} : KeyVs K F v k → KeyVs K F' v k
  | .nil => .nil
  | .cons h hs => .cons (KeyV.mono e h) (KeyVs.mono e hs)
end
theorem EntsOk.mono {K : PySem.W.Frag} {F F' : Hp} (e : Ex F F') {es : List DictEntry} {xs : List (NestedKey × V)} (h : EntsOk K F es xs) : EntsOk K F' es xs := by
  induction h with
  | nil => exact .nil
  | cons h1 h2 h3 h4 h5 _ ih => exact .cons h1 h2 (h3.mono e) h4 h5 ih
mutual
theorem Rep.mono {K : PySem.W.Frag} {F F' : Hp} (e : Ex F F') {v : V} {d : D} : Rep K F v d → Rep K F' v d
  | .non => .non
  | .bl b => .bl b
  | .int i => .int i
  | .str x => .str x
  | .tup h hs => .tup (e.sqT h) (Reps.mono e hs)
  | .lst h hs => .lst (e _ _ h) (Reps.mono e hs)
  | .ins h hs => .ins (e _ _ h) (RepF.mono e hs)
  | .dK h hs => .dK (let ⟨o, q⟩ := h; ⟨o, e _ _ q⟩) (RepK.mono e hs)
  | .dT h h2 h3 hs => .dT (e _ _ h) h2 (h3.mono e) (RepT.mono e hs)
  | .scr h => .scr (e.sqL h)
theorem Reps.mono {K : PySem.W.Frag} {F F' : Hp} (e : Ex F F') {v : List V} {d : List D} : Reps K F v d → Reps K F' v d
  | .nil => .nil
  | .cons h hs => .cons (Rep.mono e h) (Reps.mono e hs)
theorem RepF.mono {K : PySem.W.Frag} {F F' : Hp} (e : Ex F F') {v : List (Str × V)} {d : List (Str × D)} : RepF K F v d → RepF K F' v d
  | .nil => .nil
  | .cons h hs => .cons (Rep.mono e h) (RepF.mono e hs)
theorem RepK.mono {K : PySem.W.Frag} {F F' : Hp} (e : Ex F F') {v : List (Key × V)} {d : List (Key × D)} : RepK K F v d → RepK K F' v d
  | .nil => .nil
  | .cons h hs => .cons (Rep.mono e h) (RepK.mono e hs)
theorem RepT.mono {K : PySem.W.Frag} {F F' : Hp} (e : Ex F F') {v : List (NestedKey × V)} {d : List (NestedKey × D)} : RepT K F v d → RepT K F' v d
  | .nil => .nil
  | .cons h hs => .cons (Rep.mono e h) (RepT.mono e hs)
end

structure Wd where
  hid : List Addr
  as : List (Option Addr)
  bx : Option (Addr × Addr)
def Wd.inBx (w : Wd) (a : Addr) : Prop := ∃ b l, w.bx = some (b, l) ∧ (a = b ∨ a = l)
def Wd.wr (w : Wd) (a : Addr) : Prop := w.inBx a ∨ some a ∈ w.as
def Wd.mut (w : Wd) (a : Addr) : Prop := a ∈ w.hid ∨ w.wr a
open Classical in
noncomputable def Fz (w : Wd) (H : Hp) : Hp := fun a => if w.mut a then none else H a
theorem Fz.of {w : Wd} {H : Hp} {a : Addr} {o : HO} (h : Fz w H a = some o) : H a = some o ∧ ¬ w.mut a := by
  unfold Fz at h
  split at h
  · cases h
  · rename_i n
    exact ⟨h, n⟩
theorem Fz.to {w : Wd} {H : Hp} {a : Addr} {o : HO} (h : H a = some o) (n : ¬ w.mut a) : Fz w H a = some o := by
  unfold Fz
  rw [if_neg n]
  exact h
theorem Fz.ex {w : Wd} {H : Hp} : Ex (Fz w H) H := fun _ _ h => (Fz.of h).1

def RepV (K : PySem.W.Frag) (w : Wd) (H : Hp) (x : V) : Val → Prop
  | .d d => Rep K (Fz w H) x d
  | .loc n => w.as[n]? = some none ∨ ∃ a, w.as[n]? = some (some a) ∧ x = .ref a
  | .box => ∃ b l, w.bx = some (b, l) ∧ x = .ref b
inductive RepVs (K : PySem.W.Frag) (w : Wd) (H : Hp) : List V → List Val → Prop
  | nil : RepVs K w H [] []
  | cons {x : V} {xs : List V} {v : Val} {vs : List Val} : RepV K w H x v → RepVs K w H xs vs → RepVs K w H (x :: xs) (v :: vs)

structure Step (w : Wd) (H : Hp) (w' : Wd) (H' : Hp) : Prop where
  hid : w'.hid = w.hid
  fz : Ex (Fz w H) (Fz w' H')
  len : w.as.length ≤ w'.as.length
  old : ∀ (n : Nat) (a : Addr), n < w.as.length → w'.as[n]? = some (some a) → w.as[n]? = some (some a)
  new : ∀ (n : Nat) (a : Addr), w.as.length ≤ n → w'.as[n]? = some (some a) → H a = none
  bx : ∀ p, w.bx = some p → w'.bx = some p
  bnew : w.bx = none → ∀ b l, w'.bx = some (b, l) → H b = none ∧ H l = none
  keep : ∀ a o, H a = some o → ¬ w.wr a → H' a = some o
  there : ∀ a o, H a = some o → ∃ o', H' a = some o'
theorem as_len {as : List (Option Addr)} {n : Nat} {o : Option Addr} (h : as[n]? = some o) : n < as.length := (List.getElem?_eq_some_iff.mp h).1
theorem Step.refl (w : Wd) (H : Hp) : Step w H w H :=
  ⟨rfl, Ex.refl _, Nat.le_refl _, fun _ _ _ h => h, fun n a h e => absurd (as_len e) (Nat.not_lt.mpr h), fun _ h => h, fun h b l e => (by rw [h] at e; cases e), fun _ _ h _ => h, fun _ _ h => ⟨_, h⟩⟩
theorem Step.wr_back {w w' : Wd} {H H' : Hp} (s : Step w H w' H') {a : Addr} {o : HO} (h : H a = some o) (x : w'.wr a) : w.wr a := by
  rcases x with ⟨b, l, e, z⟩ | x
  · cases q : w.bx with
    | none =>
      obtain ⟨n1, n2⟩ := s.bnew q b l e
      rcases z with rfl | rfl
      · rw [n1] at h; cases h
      · rw [n2] at h; cases h
    | some p =>
      have e2 := s.bx p q
      rw [e] at e2
      cases e2
      exact .inl ⟨b, l, q, z⟩
  · obtain ⟨n, hn⟩ := List.getElem?_of_mem x
    by_cases hl : n < w.as.length
    · exact .inr (List.mem_of_getElem? (s.old n a hl hn))
    · rw [s.new n a (Nat.le_of_not_lt hl) hn] at h
      cases h
theorem Step.trans {w w1 w2 : Wd} {H H1 H2 : Hp} (a : Step w H w1 H1) (b : Step w1 H1 w2 H2) : Step w H w2 H2 where
  hid := b.hid.trans a.hid
  fz := a.fz.trans b.fz
  len := Nat.le_trans a.len b.len
  old := fun n x h e => a.old n x h (b.old n x (Nat.lt_of_lt_of_le h a.len) e)
  new := fun n x h e => by
    by_cases hl : n < w1.as.length
    · exact a.new n x h (b.old n x hl e)
    · have q := b.new n x (Nat.le_of_not_lt hl) e
      cases hx : H x with
      | none => rfl
      | some o =>
        obtain ⟨o', e'⟩ := a.there x o hx
        rw [q] at e'; cases e'
  bx := fun p h => b.bx p (a.bx p h)
  bnew := fun h x l e => by
    cases q : w1.bx with
    | none =>
      obtain ⟨n1, n2⟩ := b.bnew q x l e
      refine ⟨?_, ?_⟩
      · cases hx : H x with
        | none => rfl
        | some o =>
          obtain ⟨o', e'⟩ := a.there x o hx
          rw [n1] at e'; cases e'
      · cases hx : H l with
        | none => rfl
        | some o =>
          obtain ⟨o', e'⟩ := a.there l o hx
          rw [n2] at e'; cases e'
    | some p =>
      have e2 := b.bx p q
      rw [e] at e2
      cases e2
      exact a.bnew h x l q
  keep := fun x o h n => b.keep x o (a.keep x o h n) fun z => n (a.wr_back h z)
  there := fun x o h => by
    obtain ⟨o1, e1⟩ := a.there x o h
    exact b.there x o1 e1
theorem Step.dead {w w' : Wd} {H H' : Hp} (s : Step w H w' H') {n : Nat} (h : w.as[n]? = some none) : w'.as[n]? = some none := by
  have hl := as_len h
  have hl' := Nat.lt_of_lt_of_le hl s.len
  cases q : w'.as[n]? with
  | none => exact absurd (List.getElem?_eq_none_iff.mp q) (Nat.not_le.mpr hl')
  | some o =>
    cases o with
    | none => rfl
    | some a =>
      have := s.old n a hl q
      rw [h] at this; cases this
theorem RepV.mono {K : PySem.W.Frag} {w w' : Wd} {H H' : Hp} (s : Step w H w' H') {x : V} {v : Val} (h : RepV K w H x v) : RepV K w' H' x v := by
  cases v with
  | d d => exact Rep.mono s.fz h
  | box =>
    obtain ⟨b, l, e, z⟩ := h
    exact ⟨b, l, s.bx _ e, z⟩
  | loc n =>
    rcases h with h | ⟨a, h, z⟩
    · exact .inl (s.dead h)
    · have hl := as_len h
      have hl' := Nat.lt_of_lt_of_le hl s.len
      cases q : w'.as[n]? with
      | none => exact absurd (List.getElem?_eq_none_iff.mp q) (Nat.not_le.mpr hl')
      | some o =>
        cases o with
        | none => exact .inl q
        | some b =>
          have := s.old n b hl q
          rw [h] at this
          cases this
          exact .inr ⟨a, q, z⟩
theorem RepVs.mono {K : PySem.W.Frag} {w w' : Wd} {H H' : Hp} (s : Step w H w' H') {xs : List V} {vs : List Val} (h : RepVs K w H xs vs) : RepVs K w' H' xs vs := by
  induction h with
  | nil => exact .nil
  | cons h _ ih => exact .cons (h.mono s) ih
theorem RepVs.length {K : PySem.W.Frag} {w : Wd} {H : Hp} {xs : List V} {vs : List Val} (h : RepVs K w H xs vs) : xs.length = vs.length := by
  induction h with
  | nil => rfl
  | cons _ _ ih => simp [ih]

inductive RepVK (K : PySem.W.Frag) (w : Wd) (H : Hp) {κ : Type} : List (κ × V) → List (κ × Val) → Prop
  | nil : RepVK K w H [] []
  | cons {k : κ} {x : V} {xs : List (κ × V)} {v : Val} {vs : List (κ × Val)} : RepV K w H x v → RepVK K w H xs vs → RepVK K w H ((k, x) :: xs) ((k, v) :: vs)
theorem RepVK.mono {K : PySem.W.Frag} {w w' : Wd} {H H' : Hp} {κ : Type} (s : Step w H w' H') {xs : List (κ × V)} {vs : List (κ × Val)} (h : RepVK K w H xs vs) : RepVK K w' H' xs vs := by
  induction h with
  | nil => exact .nil
  | cons h _ ih => exact .cons (h.mono s) ih

def CellOk (K : PySem.W.Frag) (w : Wd) (H : Hp) (a : Addr) : Cell → Prop
  | .dead => False
  | .lst vs => ∃ xs, H a = some (.lst xs) ∧ RepVs K w H xs vs
  | .ins c fs => ∃ dx xs, H a = some (.ins (He.ga K c) dx xs) ∧ RepVK K w H xs fs
  | .dK kvs => ∃ xs, H a = some (.dK xs) ∧ RepVK K w H xs kvs
  | .dT kvs => ∃ o es ep xs, H a = some (dicO a o) ∧ DicOk a o es ep (xs.map (·.1)) ∧ EntsOk K (Fz w H) es.toList xs ∧ RepVK K w H xs kvs
def BoxOk (H : Hp) (b : Box) (x l : Addr) : Prop :=
  H l = some (.lst (b.ns.map V.int)) ∧ H x = some (.lst (if b.v then [.ref l, .int b.st] else [.int b.st, .ref l, .int b.ix]))
structure RelT (K : PySem.W.Frag) (w : Wd) (t : T) (H : Hp) : Prop where
  hidn : ∀ a ∈ w.hid, ∃ o, H a = some o
  len : w.as.length = t.st.length
  inj : ∀ (i j : Nat) (a : Addr), w.as[i]? = some (some a) → w.as[j]? = some (some a) → i = j
  out : ∀ a, some a ∈ w.as → a ∉ w.hid ∧ ¬ w.inBx a
  cell : ∀ (n : Nat) (c : Cell), t.st[n]? = some c → (c = .dead ∧ w.as[n]? = some none) ∨ ∃ a, w.as[n]? = some (some a) ∧ CellOk K w H a c
  bon : t.b.on = w.bx.isSome
  box : ∀ b l, w.bx = some (b, l) → b ≠ l ∧ b ∉ w.hid ∧ l ∉ w.hid ∧ BoxOk H t.b b l
structure RelR (K : PySem.W.Frag) (w : Wd) (ρ : Rho) (σ : L2.St) (H : Hp) : Prop where
  len : ρ.length = σ.length
  at_ : ∀ (i : Nat) (v : Val), ρ[i]? = some (some v) → ∃ x, σ[i]? = some (some x) ∧ RepV K w H x v
theorem RelR.mono {K : PySem.W.Frag} {w w' : Wd} {H H' : Hp} {ρ : Rho} {σ : L2.St} (s : Step w H w' H') (h : RelR K w ρ σ H) : RelR K w' ρ σ H' :=
  ⟨h.len, fun i v e => let ⟨x, e1, r⟩ := h.at_ i v e; ⟨x, e1, r.mono s⟩⟩

def ExcRep (K : PySem.W.Frag) (F : Hp) (cls : Value) (d : Option Addr) (x : Exn) : Prop :=
  (if x.own then cls = .ref (He.ga K x.cls) else cls = .type x.cls.toString) ∧ ((x.fs = [] ∧ d = none) ∨ ∃ dd xs, d = some dd ∧ F dd = some (.xd xs) ∧ RepF K F xs x.fs)

def PostE (K : PySem.W.Frag) (W : WX) (σ : L2.St) {α : Type} (w : Wd) (H : Hp) (Q : Wd → Hp → α → Prop) : R α → Prop
  | .ok a t => ∀ w' H', Step w H w' H' → RelT K w' t H' → Q w' H' a
  | .exc x t => ∀ w' H' cls d, Step w H w' H' → RelT K w' t H' → ExcRep K (Fz w' H') cls d x → W cls d σ H'
  | .stuck => False
theorem PostE.bind {K : PySem.W.Frag} {W : WX} {σ : L2.St} {α β : Type} {w : Wd} {H : Hp} {Q : Wd → Hp → β → Prop} {r : R α} {f : α → T → R β} (h : PostE K W σ w H Q (r.bind f)) :
    PostE K W σ w H (fun w1 H1 a => ∀ t, r = .ok a t → RelT K w1 t H1 → PostE K W σ w1 H1 Q (f a t)) r := by
  cases r with
  | stuck => exact h
  | exc x t => exact h
  | ok a t =>
    intro w1 H1 s1 r1 t' et _
    cases et
    have h' : PostE K W σ w H Q (f a t) := h
    cases q : f a t with
    | stuck => rw [q] at h'; exact h'
    | exc x t2 =>
      rw [q] at h'
      intro w2 H2 cls d s2 r2 e2
      exact h' w2 H2 cls d (s1.trans s2) r2 e2
    | ok b t2 =>
      rw [q] at h'
      intro w2 H2 s2 r2
      exact h' w2 H2 (s1.trans s2) r2
end En
set_option Elab.async false
set_option linter.all false
set_option maxRecDepth 100000
set_option maxHeartbeats 1000000
set_option autoImplicit false
namespace En
open PySem PySem.Spec PyProof.Rows L2

theorem PostE.imp {K : PySem.W.Frag} {W : WX} {σ : L2.St} {α : Type} {w : Wd} {H : Hp} {Q Q' : Wd → Hp → α → Prop} {r : R α} (h : PostE K W σ w H Q r)
    (k : ∀ w' H' a t, r = .ok a t → Step w H w' H' → RelT K w' t H' → Q w' H' a → Q' w' H' a) : PostE K W σ w H Q' r := by
  cases r with
  | stuck => exact h
  | exc x t => exact h
  | ok a t => exact fun w' H' s r' => k w' H' a t rfl s r' (h w' H' s r')
theorem PostE.here {K : PySem.W.Frag} {W : WX} {σ : L2.St} {α : Type} {w : Wd} {H : Hp} {Q : Wd → Hp → α → Prop} {a : α} {t : T} (h : PostE K W σ w H Q (.ok a t)) (r : RelT K w t H) : Q w H a := h w H (Step.refl _ _) r

def tM (K : PySem.W.Frag) (W : WX) (m : ME Val) : TE := fun σ H Q => ∃ w ρ t, RelT K w t H ∧ RelR K w ρ σ H ∧ PostE K W σ w H (fun w' H' v => ∀ x, RepV K w' H' x v → Q x H') (m ρ t)
def tMA (K : PySem.W.Frag) (W : WX) (m : ME (List Val)) : TA := fun σ H Q => ∃ w ρ t, RelT K w t H ∧ RelR K w ρ σ H ∧ PostE K W σ w H (fun w' H' vs => ∀ xs, RepVs K w' H' xs vs → Q xs H') (m ρ t)
def tMT (K : PySem.W.Frag) (W : WX) (m : ME Bool) : TT := fun σ H Q => ∃ w ρ t, RelT K w t H ∧ RelR K w ρ σ H ∧ PostE K W σ w H (fun w' H' b => Q b H') (m ρ t)
def JE (X : Cx) (W : WX) (e : Expr) (m : ME Val) : Prop := PE X e (tM X.K W m)
def JA (X : Cx) (W : WX) (es : List Expr) (m : ME (List Val)) : Prop := PA X es (tMA X.K W m)
def JT (X : Cx) (W : WX) (e : Expr) (m : ME Bool) : Prop := PT X e (tMT X.K W m)
def JW (X : Cx) (W : WX) (e : Expr) (m : ME Bool) : Prop := PW X e (tMT X.K W m)
theorem PE.imp {X : Cx} {e : Expr} {t t' : TE} (h : PE X e t) (k : ∀ σ H Q, t' σ H Q → t σ H Q) : PE X e t' := ⟨fun pins s σ H Q I q => h.run pins s σ H Q I (k σ H Q q)⟩
theorem PA.imp {X : Cx} {e : List Expr} {t t' : TA} (h : PA X e t) (k : ∀ σ H Q, t' σ H Q → t σ H Q) : PA X e t' := ⟨fun pos pins s σ H Q I q => h.run pos pins s σ H Q I (k σ H Q q)⟩
theorem PT.imp {X : Cx} {e : Expr} {t t' : TT} (h : PT X e t) (k : ∀ σ H Q, t' σ H Q → t σ H Q) : PT X e t' := ⟨fun pins s σ H Q I q => h.run pins s σ H Q I (k σ H Q q)⟩
theorem PW.imp {X : Cx} {e : Expr} {t t' : TT} (h : PW X e t) (k : ∀ σ H Q, t' σ H Q → t σ H Q) : PW X e t' := ⟨fun wh pins s σ H Q I q => h.run wh pins s σ H Q I (k σ H Q q)⟩
theorem PS.imp {X : Cx} {e : Stmt} {t t' : TS} (h : PS X e t) (k : ∀ D σ H, t' D σ H → t D σ H) : PS X e t' := ⟨fun pins s σ H D I q => h.run pins s σ H D I (k D σ H q)⟩
theorem PSs.imp {X : Cx} {e : List Stmt} {t t' : TS} (h : PSs X e t) (k : ∀ D σ H, t' D σ H → t D σ H) : PSs X e t' := ⟨fun pins s σ H D I q => h.run pins s σ H D I (k D σ H q)⟩

def mVar (i : Nat) : ME Val := fun ρ t => match ρ[i]? with
  | some (some v) => .ok v t
  | _ => .stuck
def mC (d : D) : ME Val := fun _ t => .ok (.d d) t
def m1 {α : Type} (f : Val → T → R α) (ma : ME Val) : ME α := fun ρ t => (ma ρ t).bind fun x t => f x t
def m2 {α : Type} (f : Val → Val → T → R α) (ma mb : ME Val) : ME α := fun ρ t => (ma ρ t).bind fun x t => (mb ρ t).bind fun y t => f x y t
def mNil : ME (List Val) := fun _ t => .ok [] t
def mCons (ma : ME Val) (mr : ME (List Val)) : ME (List Val) := fun ρ t => (ma ρ t).bind fun x t => (mr ρ t).bind fun xs t => .ok (x :: xs) t
def mL {α : Type} (f : List Val → T → R α) (ma : ME (List Val)) : ME α := fun ρ t => (ma ρ t).bind fun x t => f x t
def mAnd (ma mb : ME Bool) : ME Bool := fun ρ t => (ma ρ t).bind fun x t => if x then mb ρ t else .ok false t
def mOr (ma mb : ME Bool) : ME Bool := fun ρ t => (ma ρ t).bind fun x t => if x then .ok true t else mb ρ t
def mNot (ma : ME Bool) : ME Bool := fun ρ t => (ma ρ t).bind fun x t => .ok (!x) t
def mIf {α : Type} (mc : ME Bool) (ma mb : ME α) : ME α := fun ρ t => (mc ρ t).bind fun x t => if x then ma ρ t else mb ρ t
def mOfB (ma : ME Bool) : ME Val := fun ρ t => (ma ρ t).bind fun x t => .ok (.d (.bl x)) t
def asB (v : Val) (t : T) : R Bool := match v with
  | .d (.bl b) => .ok b t
  | _ => .stuck

section
variable {X : Cx} {W : WX} {a b c : Expr} {ma mb mc : ME Val} {pos : Pos}

theorem je_var {i : Nat} {x : Str} (hN : X.N[i]? = some x) (hv : Vis X.env.scope x) (hd : (x == ("__debug__" : Str)) = false := by decide) (hcd : (x == ("__classdict__" : Str)) = false := by decide) : JE X W (.Name x pos) (mVar i) :=
  PE.imp (pe_var hN hv hd hcd) fun σ H Q ⟨w, ρ, t, rt, rr, p⟩ => by
    unfold mVar at p
    split at p
    · rename_i v e
      obtain ⟨y, e1, r⟩ := rr.at_ i v e
      exact ⟨y, e1, p.here rt y r⟩
    · exact p.elim
theorem je_pv (i : Nat) {x : Str} (hN : X.N[i]? = some x := by rfl) (hv : Vis X.env.scope x := by first | exact Or.inl rfl | exact Or.inr (Or.inl rfl) | exact Or.inr (Or.inr rfl)) (hd : (x == ("__debug__" : Str)) = false := by decide) (hcd : (x == ("__classdict__" : Str)) = false := by decide) : JE X W (.Name x pos) (mVar i) := je_var hN hv hd hcd
theorem tC_of {v : V} {d : D} (hr : ∀ F, Rep X.K F v d) : ∀ σ H Q, tM X.K W (mC d) σ H Q → tC v σ H Q := fun σ H Q ⟨w, ρ, t, rt, rr, p⟩ => p.here rt v (hr _)
theorem je_int {i : Int} {j : Nat} : JE X W (.Constant (.int i) j pos) (mC (.int i)) := PE.imp pe_int (tC_of fun _ => .int i)
theorem je_bl {i : Bool} {j : Nat} : JE X W (.Constant (.bool i) j pos) (mC (.bl i)) := PE.imp pe_bl (tC_of fun _ => .bl i)
theorem je_non {j : Nat} : JE X W (.Constant .none j pos) (mC .non) := PE.imp pe_non (tC_of fun _ => .non)
theorem je_str {i : Str} {j : Nat} : JE X W (.Constant (.str i) j pos) (mC (.str i)) := PE.imp pe_str (tC_of fun _ => .str i)
theorem je_glob {x : Str} {v : V} {u : Value} {d : D} (hr : ∀ F, Rep X.K F v d) (hg : Gl X x) (hm : X.mg x = some u) (r : RelV v u) (hd : (x == ("__debug__" : Str)) = false := by decide) : JE X W (.Name x pos) (mC d) := PE.imp (pe_glob hg hm r hd) (tC_of hr)

def OpS (K : PySem.W.Frag) (W : WX) (r : R2) (f : Val → Val → T → R Val) : Prop :=
  ∀ (w : Wd) (t : T) (σ : L2.St) (H : Hp) (x y : V) (a b : Val) (Q : VK), RelT K w t H → RepV K w H x a → RepV K w H y b → PostE K W σ w H (fun w' H' v => ∀ z, RepV K w' H' z v → Q z H') (f a b t) → r x y H Q
theorem sim2 {r : R2} {f : Val → Val → T → R Val} (hs : OpS X.K W r f) : ∀ σ H Q, tM X.K W (m2 f ma mb) σ H Q → tOp r (tM X.K W ma) (tM X.K W mb) σ H Q := fun σ H Q ⟨w, ρ, t, rt, rr, p⟩ => by
  refine ⟨w, ρ, t, rt, rr, PostE.imp (PostE.bind p) fun w1 H1 v t1 e1 s1 r1 q1 x rx => ?_⟩
  refine ⟨w1, ρ, t1, r1, rr.mono s1, PostE.imp (PostE.bind (q1 t1 e1 r1)) fun w2 H2 u t2 e2 s2 r2 q2 y ry => ?_⟩
  exact hs w2 t2 σ H2 x y v u Q r2 (rx.mono s2) ry (q2 t2 e2 r2)
theorem je_op {op : Operator} {r : R2} {f : Val → Val → T → R Val} (ho : OpR X (binaryOp op) r) (hs : OpS X.K W r f) (ha : JE X W a ma) (hb : JE X W b mb) : JE X W (.BinOp a op b pos) (m2 f ma mb) :=
  PE.imp (pe_op ho ha hb) (sim2 hs)
theorem je_cmp {op : CmpOp} {r : R2} {f : Val → Val → T → R Val} (ho : OpR X (compareOp op) r) (hs : OpS X.K W r f) (hm : behindInMarks op b = false) (ha : JE X W a ma) (hb : JE X W b mb) : JE X W (.Compare a [op] [b] pos) (m2 f ma mb) :=
  PE.imp (pe_cmpR ho ha hb hm) (sim2 hs)
theorem simB {m : ME Val} {te : TE} (h : ∀ σ H Q, tM X.K W m σ H Q → te σ H Q) : ∀ σ H Q, tMT X.K W (m1 asB m) σ H Q → tTest te σ H Q := fun σ H Q ⟨w, ρ, t, rt, rr, p⟩ => by
  refine h σ H _ ⟨w, ρ, t, rt, rr, PostE.imp (PostE.bind p) fun w1 H1 v t1 e1 s1 r1 q1 x rx => ?_⟩
  have q := q1 t1 e1 r1
  unfold asB at q
  split at q
  · rename_i bb
    cases rx
    exact ⟨bb, rfl, q.here r1⟩
  · exact q.elim
theorem jt_cmp {op : CmpOp} {r : R2} {f : Val → Val → T → R Val} (ho : OpR X (compareOp op) r) (hs : OpS X.K W r f) (hm : behindInMarks op b = false) (ha : JE X W a ma) (hb : JE X W b mb) : JT X W (.Compare a [op] [b] pos) (m1 asB (m2 f ma mb)) :=
  PT.imp (pt_cmpR ho ha hb hm) (simB (sim2 hs))
theorem jt_val {e : Expr} {m : ME Val} (h : JE X W e m) (he : ∀ whole, isTrue e X.env whole = (do let v ← whole; standAt e.pos; holding [v] (truthy v)) := by intro _; rfl) : JT X W e (m1 asB m) :=
  PT.imp (pt_val h he) (simB fun _ _ _ q => q)

def m3c (f g : Val → Val → T → R Val) (ma mb mc : ME Val) : ME Val := fun ρ t => (ma ρ t).bind fun x t => (mb ρ t).bind fun y t => (f x y t).bind fun z t => (asB z t).bind fun k t => if k then (mc ρ t).bind fun u t => g y u t else .ok (.d (.bl false)) t
end

section
variable {X : Cx} {W : WX} {a b : Expr} {rest : List Expr} {ma mb : ME Bool} {pos : Pos}
theorem jw_pt {e : Expr} {m : ME Bool} (h : JW X W e m) : JT X W e m := PW.pt h
theorem jw_and1 (ha : JT X W a ma) : JW X W (.BoolOp .And [a] pos) ma := pw_and1 ha
theorem jw_or1 (ha : JT X W a ma) : JW X W (.BoolOp .Or [a] pos) ma := pw_or1 ha
theorem jw_and (ha : JT X W a ma) (hb : JW X W (.BoolOp .And (b :: rest) pos) mb) : JW X W (.BoolOp .And (a :: b :: rest) pos) (mAnd ma mb) :=
  PW.imp (pw_and ha hb) fun σ H Q ⟨w, ρ, t, rt, rr, p⟩ => by
    refine ⟨w, ρ, t, rt, rr, PostE.imp (PostE.bind p) fun w1 H1 v t1 e1 s1 r1 q1 => ?_⟩
    have q := q1 t1 e1 r1
    cases v with
    | true => exact iteT ⟨w1, ρ, t1, r1, rr.mono s1, q⟩
    | false => exact iteF (q.here r1)
theorem jw_or (ha : JT X W a ma) (hb : JW X W (.BoolOp .Or (b :: rest) pos) mb) : JW X W (.BoolOp .Or (a :: b :: rest) pos) (mOr ma mb) :=
  PW.imp (pw_or ha hb) fun σ H Q ⟨w, ρ, t, rt, rr, p⟩ => by
    refine ⟨w, ρ, t, rt, rr, PostE.imp (PostE.bind p) fun w1 H1 v t1 e1 s1 r1 q1 => ?_⟩
    have q := q1 t1 e1 r1
    cases v with
    | true => exact iteT (q.here r1)
    | false => exact iteF ⟨w1, ρ, t1, r1, rr.mono s1, q⟩
theorem jt_not (ha : JT X W a ma) : JT X W (.UnaryOp .Not a pos) (mNot ma) :=
  PT.imp (pt_not ha) fun σ H Q ⟨w, ρ, t, rt, rr, p⟩ => by
    refine ⟨w, ρ, t, rt, rr, PostE.imp (PostE.bind p) fun w1 H1 v t1 e1 s1 r1 q1 => ?_⟩
    exact (q1 t1 e1 r1).here r1
end
section
variable {X : Cx} {W : WX} {a b c : Expr} {rest : List Expr} {ma mb : ME Val} {mc : ME Bool} {pos : Pos}
theorem je_if (hc : JT X W c mc) (ha : JE X W a ma) (hb : JE X W b mb) : JE X W (.IfExp c a b pos) (mIf mc ma mb) :=
  PE.imp (pe_ifExp hc ha hb) fun σ H Q ⟨w, ρ, t, rt, rr, p⟩ => by
    refine ⟨w, ρ, t, rt, rr, PostE.imp (PostE.bind p) fun w1 H1 v t1 e1 s1 r1 q1 => ?_⟩
    have q := q1 t1 e1 r1
    cases v with
    | true => exact iteT ⟨w1, ρ, t1, r1, rr.mono s1, q⟩
    | false => exact iteF ⟨w1, ρ, t1, r1, rr.mono s1, q⟩
def mAndV (ma mb : ME Val) : ME Val := fun ρ t => (ma ρ t).bind fun x t => (asB x t).bind fun k t => if k then mb ρ t else .ok (.d (.bl false)) t
def mOrV (ma mb : ME Val) : ME Val := fun ρ t => (ma ρ t).bind fun x t => (asB x t).bind fun k t => if k then .ok (.d (.bl true)) t else mb ρ t
def mNotV (ma : ME Val) : ME Val := fun ρ t => (ma ρ t).bind fun x t => (asB x t).bind fun k t => .ok (.d (.bl (!k))) t
theorem je_one {op : BoolOp} (ha : JE X W a ma) : JE X W (.BoolOp op [a] pos) ma := pe_one ha
theorem asB_inv {w : Wd} {H : Hp} {α : Type} {σ : L2.St} {Q : Wd → Hp → α → Prop} {v : Val} {t : T} {x : V} {f : Bool → T → R α} (rx : RepV X.K w H x v) (q : PostE X.K W σ w H Q ((asB v t).bind f)) : ∃ k, x = .bl k ∧ PostE X.K W σ w H Q (f k t) := by
  unfold asB at q
  split at q
  · rename_i bb
    cases rx
    exact ⟨bb, rfl, q⟩
  · exact q.elim
theorem je_and (ha : JE X W a ma) (hb : JE X W (.BoolOp .And (b :: rest) pos) mb) : JE X W (.BoolOp .And (a :: b :: rest) pos) (mAndV ma mb) :=
  PE.imp (pe_and ha hb) fun σ H Q ⟨w, ρ, t, rt, rr, p⟩ => by
    refine ⟨w, ρ, t, rt, rr, PostE.imp (PostE.bind p) fun w1 H1 v t1 e1 s1 r1 q1 x rx => ?_⟩
    obtain ⟨k, ek, q⟩ := asB_inv rx (q1 t1 e1 r1)
    refine ⟨k, ek, ?_⟩
    cases k with
    | true => exact iteT ⟨w1, ρ, t1, r1, rr.mono s1, q⟩
    | false => exact iteF (q.here r1 _ (.bl false))
theorem je_or (ha : JE X W a ma) (hb : JE X W (.BoolOp .Or (b :: rest) pos) mb) : JE X W (.BoolOp .Or (a :: b :: rest) pos) (mOrV ma mb) :=
  PE.imp (pe_or ha hb) fun σ H Q ⟨w, ρ, t, rt, rr, p⟩ => by
    refine ⟨w, ρ, t, rt, rr, PostE.imp (PostE.bind p) fun w1 H1 v t1 e1 s1 r1 q1 x rx => ?_⟩
    obtain ⟨k, ek, q⟩ := asB_inv rx (q1 t1 e1 r1)
    refine ⟨k, ek, ?_⟩
    cases k with
    | true => exact iteT (q.here r1 _ (.bl true))
    | false => exact iteF ⟨w1, ρ, t1, r1, rr.mono s1, q⟩
theorem je_not (ha : JE X W a ma) : JE X W (.UnaryOp .Not a pos) (mNotV ma) :=
  PE.imp (pe_not ha) fun σ H Q ⟨w, ρ, t, rt, rr, p⟩ => by
    refine ⟨w, ρ, t, rt, rr, PostE.imp (PostE.bind p) fun w1 H1 v t1 e1 s1 r1 q1 x rx => ?_⟩
    obtain ⟨k, ek, q⟩ := asB_inv rx (q1 t1 e1 r1)
    exact ⟨k, ek, q.here r1 _ (.bl _)⟩
theorem ja_nil : JA X W [] mNil := PA.imp pa_nil fun σ H Q ⟨w, ρ, t, rt, rr, p⟩ => p.here rt [] .nil
theorem ja_cons {e : Expr} {es : List Expr} {me : ME Val} {mr : ME (List Val)} (ha : JE X W e me) (hr : JA X W es mr) (hs : starEach (e :: es) X.env = (false, eval e X.env) :: starEach es X.env := by rfl) : JA X W (e :: es) (mCons me mr) :=
  PA.imp (pa_cons ha hr hs) fun σ H Q ⟨w, ρ, t, rt, rr, p⟩ => by
    refine ⟨w, ρ, t, rt, rr, PostE.imp (PostE.bind p) fun w1 H1 v t1 e1 s1 r1 q1 x rx => ?_⟩
    refine ⟨w1, ρ, t1, r1, rr.mono s1, PostE.imp (PostE.bind (q1 t1 e1 r1)) fun w2 H2 u t2 e2 s2 r2 q2 y ry => ?_⟩
    exact (q2 t2 e2 r2).here r2 _ (.cons (rx.mono s2) ry)
def CallS (K : PySem.W.Frag) (W : WX) (r : List V → Hp → VK → Prop) (f : List Val → T → R Val) : Prop :=
  ∀ (w : Wd) (t : T) (σ : L2.St) (H : Hp) (xs : List V) (vs : List Val) (Q : VK), RelT K w t H → RepVs K w H xs vs → PostE K W σ w H (fun w' H' v => ∀ z, RepV K w' H' z v → Q z H') (f vs t) → r xs H Q
theorem simCB {r : List V → Hp → VK → Prop} {f : List Val → T → R Val} {m : ME (List Val)} (hs : CallS X.K W r f) : ∀ σ H Q, tM X.K W (mL f m) σ H Q → tCB r (tMA X.K W m) σ H Q := fun σ H Q ⟨w, ρ, t, rt, rr, p⟩ => by
  refine ⟨w, ρ, t, rt, rr, PostE.imp (PostE.bind p) fun w1 H1 v t1 e1 s1 r1 q1 x rx => ?_⟩
  exact hs w1 t1 σ H1 x v Q r1 rx (q1 t1 e1 r1)
theorem je_callB {id : String} {x : Str} {r : List V → Hp → VK → Prop} {f : List Val → T → R Val} {e : Expr} {es : List Expr} {p : Pos} {m : ME (List Val)} (hc : CallR X (.builtin id) r) (hs : CallS X.K W r f) (hm : X.mg x = none) (ha : JA X W (e :: es) m)
    (hg : Gl X x := by rfl) (hv : bootBuiltins x = some (.builtin id) := by decide +kernel) (hn : x ≠ "__name__" := by decide) (hdb : (x == ("__debug__" : Str)) = false := by decide)
    (he : starEach (e :: es) X.env = (false, eval e X.env) :: starEach es X.env := by rfl) (hpl : (backTo pos (starEach es X.env)).any (·.1) = false := by rfl) : JE X W (.Call (.Name x p) (e :: es) [] pos) (mL f m) :=
  PE.imp (pe_callB hc hg hm hv ha hn hdb he hpl) (simCB hs)
theorem je_callTy {id : String} {x : Str} {r : List V → Hp → VK → Prop} {f : List Val → T → R Val} {e : Expr} {es : List Expr} {p : Pos} {m : ME (List Val)} (hc : CallR X (.type id) r) (hs : CallS X.K W r f) (hm : X.mg x = none) (ha : JA X W (e :: es) m)
    (hg : Gl X x := by rfl) (hv : bootBuiltins x = some (.type id) := by decide +kernel) (hn : x ≠ "__name__" := by decide) (hdb : (x == ("__debug__" : Str)) = false := by decide)
    (he : starEach (e :: es) X.env = (false, eval e X.env) :: starEach es X.env := by rfl) (hpl : (backTo pos (starEach es X.env)).any (·.1) = false := by rfl) : JE X W (.Call (.Name x p) (e :: es) [] pos) (mL f m) :=
  PE.imp (pe_callTy hc hg hm hv ha hn hdb he hpl) (simCB hs)
end
end En
set_option Elab.async false
set_option linter.all false
set_option maxRecDepth 100000
set_option maxHeartbeats 1000000
set_option autoImplicit false
namespace En
open PySem PySem.Spec PyProof.Rows L2

section
variable {K : PySem.W.Frag} {w : Wd} {t : T} {H : Hp}
theorem RelT.live (r : RelT K w t H) {n : Nat} {a : Addr} (h : w.as[n]? = some (some a)) : ∃ c, t.st[n]? = some c ∧ CellOk K w H a c := by
  have hl : n < t.st.length := by rw [← r.len]; exact as_len h
  refine ⟨t.st[n], List.getElem?_eq_getElem hl, ?_⟩
  rcases r.cell n _ (List.getElem?_eq_getElem hl) with ⟨_, q⟩ | ⟨b, q, ok⟩
  · rw [h] at q; cases q
  · rw [h] at q; cases q; exact ok
theorem CellOk.some {a : Addr} {c : Cell} (h : CellOk K w H a c) : ∃ o, H a = some o := by
  cases c with
  | dead => exact h.elim
  | lst vs => obtain ⟨xs, e, _⟩ := h; exact ⟨_, e⟩
  | ins c fs => obtain ⟨dx, xs, e, _⟩ := h; exact ⟨_, e⟩
  | dK kvs => obtain ⟨xs, e, _⟩ := h; exact ⟨_, e⟩
  | dT kvs => obtain ⟨o, es, ep, xs, e, _⟩ := h; exact ⟨_, e⟩
theorem CellOk.mono {w' : Wd} {H' : Hp} {a : Addr} {c : Cell} (h : CellOk K w H a c) (s : Step w H w' H') (e : H' a = H a) : CellOk K w' H' a c := by
  cases c with
  | dead => exact h.elim
  | lst vs => obtain ⟨xs, q, r⟩ := h; exact ⟨xs, by rw [e]; exact q, r.mono s⟩
  | ins c fs => obtain ⟨dx, xs, q, r⟩ := h; exact ⟨dx, xs, by rw [e]; exact q, r.mono s⟩
  | dK kvs => obtain ⟨xs, q, r⟩ := h; exact ⟨xs, by rw [e]; exact q, r.mono s⟩
  | dT kvs => obtain ⟨o, es, ep, xs, q, q2, q3, r⟩ := h; exact ⟨o, es, ep, xs, by rw [e]; exact q, q2, q3.mono s.fz, r.mono s⟩
theorem RelT.mutn (r : RelT K w t H) {p : Addr} (hp : H p = none) : ¬ w.mut p := by
  rintro (h | ⟨b, l, e, h⟩ | h)
  · obtain ⟨o, e⟩ := r.hidn p h
    rw [hp] at e; cases e
  · obtain ⟨_, _, _, h1, h2⟩ := r.box b l e
    rcases h with rfl | rfl
    · rw [hp] at h2; cases h2
    · rw [hp] at h1; cases h1
  · obtain ⟨n, hn⟩ := List.getElem?_of_mem h
    obtain ⟨c, _, ok⟩ := r.live hn
    obtain ⟨o, e⟩ := ok.some
    rw [hp] at e; cases e
theorem upd_some {p a : Addr} {o u : HO} (hp : H p = none) (h : H a = some u) : upd H p o a = some u := by
  rw [upd_ne (ne_of_none h hp)]
  exact h
theorem step_new (r : RelT K w t H) {p : Addr} {o : HO} (hp : H p = none) : Step w H w (upd H p o) :=
  ⟨rfl, fun a u e => Fz.to (upd_some hp (Fz.of e).1) (Fz.of e).2, Nat.le_refl _, fun _ _ _ h => h, fun n a h e => absurd (as_len e) (Nat.not_lt.mpr h), fun _ h => h, fun h b l e => (by rw [h] at e; cases e), fun a u e _ => upd_some hp e, fun a u e => ⟨_, upd_some hp e⟩⟩
theorem BoxOk.mono {H' : Hp} {b : Box} {x l : Addr} (h : BoxOk H b x l) (e1 : H' l = H l) (e2 : H' x = H x) : BoxOk H' b x l := ⟨by rw [e1]; exact h.1, by rw [e2]; exact h.2⟩
theorem RelT.new (r : RelT K w t H) {p : Addr} {o : HO} (hp : H p = none) : RelT K w t (upd H p o) where
  hidn := fun a ha => let ⟨u, e⟩ := r.hidn a ha; ⟨u, upd_some hp e⟩
  len := r.len
  inj := r.inj
  out := r.out
  cell := fun n c e => by
    rcases r.cell n c e with h | ⟨a, ha, ok⟩
    · exact .inl h
    · obtain ⟨u, eu⟩ := ok.some
      exact .inr ⟨a, ha, ok.mono (step_new r hp) (by rw [upd_ne (ne_of_none eu hp)])⟩
  bon := r.bon
  box := fun b l e => by
    obtain ⟨h1, h2, h3, h4⟩ := r.box b l e
    exact ⟨h1, h2, h3, h4.mono (by rw [upd_ne (ne_of_none h4.1 hp)]) (by rw [upd_ne (ne_of_none h4.2 hp)])⟩
theorem Fz.new (r : RelT K w t H) {p : Addr} {o : HO} (hp : H p = none) : Fz w (upd H p o) p = some o := Fz.to upd_same (r.mutn hp)

def Wd.add (w : Wd) (p : Addr) : Wd := { w with as := w.as ++ [some p] }
theorem add_at (w : Wd) (p : Addr) {n : Nat} {o : Option Addr} (h : w.as[n]? = some o) : (w.add p).as[n]? = some o := by
  show (w.as ++ [some p])[n]? = some o
  rw [List.getElem?_append_left (as_len h)]
  exact h
theorem add_last (w : Wd) (p : Addr) : (w.add p).as[w.as.length]? = some (some p) := by
  show (w.as ++ [some p])[w.as.length]? = _
  rw [List.getElem?_append_right (Nat.le_refl _), Nat.sub_self]
  rfl
theorem add_cases (w : Wd) (p : Addr) {n : Nat} {o : Option Addr} (h : (w.add p).as[n]? = some o) : w.as[n]? = some o ∨ (n = w.as.length ∧ o = some p) := by
  have h' : (w.as ++ [some p])[n]? = some o := h
  by_cases hl : n < w.as.length
  · rw [List.getElem?_append_left hl] at h'
    exact .inl h'
  · have hl2 := as_len h
    have e : (w.add p).as.length = w.as.length + 1 := by show (w.as ++ [some p]).length = _; simp
    have en : n = w.as.length := by omega
    subst en
    rw [add_last] at h
    exact .inr ⟨rfl, (Option.some.inj h).symm⟩
theorem add_wr {w : Wd} {p a : Addr} (h : (w.add p).wr a) : w.wr a ∨ a = p := by
  rcases h with h | h
  · exact .inl (.inl h)
  · have h' : some a ∈ w.as ++ [some p] := h
    rcases List.mem_append.mp h' with q | q
    · exact .inl (.inr q)
    · exact .inr (by simpa using q)
theorem step_add (r : RelT K w t H) {p : Addr} {o : HO} (hp : H p = none) : Step w H (w.add p) (upd H p o) where
  hid := rfl
  fz := fun a u e => by
    obtain ⟨h1, h2⟩ := Fz.of e
    refine Fz.to (upd_some hp h1) fun z => ?_
    rcases z with z | z
    · exact h2 (.inl z)
    · rcases add_wr z with z | z
      · exact h2 (.inr z)
      · rw [z, hp] at h1; cases h1
  len := by show _ ≤ (w.as ++ [some p]).length; simp
  old := fun n a h e => by
    rcases add_cases w p e with q | ⟨q, _⟩
    · exact q
    · omega
  new := fun n a h e => by
    rcases add_cases w p e with q | ⟨_, q⟩
    · exact absurd (as_len q) (Nat.not_lt.mpr h)
    · cases q; exact hp
  bx := fun _ h => h
  bnew := fun h b l e => by
    have e' : w.bx = some (b, l) := e
    rw [h] at e'; cases e'
  keep := fun a u e _ => upd_some hp e
  there := fun a u e => ⟨_, upd_some hp e⟩
theorem RelT.add (r : RelT K w t H) {p : Addr} {o : HO} {c : Cell} (hp : H p = none) (ok : CellOk K (w.add p) (upd H p o) p c) : RelT K (w.add p) { t with st := t.st ++ [c] } (upd H p o) where
  hidn := fun a ha => let ⟨u, e⟩ := r.hidn a ha; ⟨u, upd_some hp e⟩
  len := by show (w.as ++ [some p]).length = (t.st ++ [c]).length; simp [r.len]
  inj := fun i j a h1 h2 => by
    rcases add_cases w p h1 with q1 | ⟨q1, e1⟩ <;> rcases add_cases w p h2 with q2 | ⟨q2, e2⟩
    · exact r.inj i j a q1 q2
    · cases e2
      obtain ⟨c', _, ok'⟩ := r.live q1
      obtain ⟨u, eu⟩ := ok'.some
      rw [hp] at eu; cases eu
    · cases e1
      obtain ⟨c', _, ok'⟩ := r.live q2
      obtain ⟨u, eu⟩ := ok'.some
      rw [hp] at eu; cases eu
    · omega
  out := fun a h => by
    have h' : some a ∈ w.as ++ [some p] := h
    rcases List.mem_append.mp h' with q | q
    · exact r.out a q
    · have e : a = p := by simpa using q
      subst e
      have n := r.mutn hp
      exact ⟨fun z => n (.inl z), fun z => n (.inr (.inl z))⟩
  cell := fun n c' e => by
    have e' : (t.st ++ [c])[n]? = some c' := e
    by_cases hl : n < t.st.length
    · rw [List.getElem?_append_left hl] at e'
      rcases r.cell n c' e' with ⟨h1, h2⟩ | ⟨a, ha, ok'⟩
      · exact .inl ⟨h1, add_at w p h2⟩
      · obtain ⟨u, eu⟩ := ok'.some
        exact .inr ⟨a, add_at w p ha, ok'.mono (step_add r hp) (by rw [upd_ne (ne_of_none eu hp)])⟩
    · have hl2 := (List.getElem?_eq_some_iff.mp e).1
      have hl3 : n < (t.st ++ [c]).length := hl2
      have en : n = t.st.length := by simp at hl3; omega
      subst en
      rw [List.getElem?_append_right (Nat.le_refl _), Nat.sub_self] at e'
      cases e'
      exact .inr ⟨p, by rw [← r.len]; exact add_last w p, ok⟩
  bon := r.bon
  box := fun b l e => by
    obtain ⟨h1, h2, h3, h4⟩ := r.box b l e
    exact ⟨h1, h2, h3, h4.mono (by rw [upd_ne (ne_of_none h4.1 hp)]) (by rw [upd_ne (ne_of_none h4.2 hp)])⟩

theorem live_wr {n : Nat} {a : Addr} (h : w.as[n]? = some (some a)) : w.wr a := .inr (List.mem_of_getElem? h)
theorem step_wr (r : RelT K w t H) {n : Nat} {a : Addr} {o : HO} (h : w.as[n]? = some (some a)) : Step w H w (upd H a o) where
  hid := rfl
  fz := fun b u e => by
    obtain ⟨h1, h2⟩ := Fz.of e
    refine Fz.to ?_ h2
    rw [upd_ne (fun z => h2 (.inr (by rw [z]; exact live_wr h)))]
    exact h1
  len := Nat.le_refl _
  old := fun _ _ _ h => h
  new := fun n a h e => absurd (as_len e) (Nat.not_lt.mpr h)
  bx := fun _ h => h
  bnew := fun h b l e => by rw [h] at e; cases e
  keep := fun b u e nb => by
    rw [upd_ne (fun z => nb (by rw [z]; exact live_wr h))]
    exact e
  there := fun b u e => by
    by_cases hb : b = a
    · subst hb; exact ⟨_, upd_same⟩
    · exact ⟨u, by rw [upd_ne hb]; exact e⟩
theorem RelT.wr (r : RelT K w t H) {n : Nat} {a : Addr} {o : HO} {c : Cell} (h : w.as[n]? = some (some a)) (ok : CellOk K w (upd H a o) a c) : RelT K w { t with st := t.st.set n c } (upd H a o) where
  hidn := fun b hb => (step_wr r h).there b _ (r.hidn b hb).choose_spec
  len := by show _ = (t.st.set n c).length; rw [List.length_set]; exact r.len
  inj := r.inj
  out := r.out
  cell := fun m c' e => by
    have e' : (t.st.set n c)[m]? = some c' := e
    by_cases hm : m = n
    · subst hm
      have hl : m < t.st.length := by rw [← r.len]; exact as_len h
      rw [List.getElem?_set_self hl] at e'
      cases e'
      exact .inr ⟨a, h, ok⟩
    · rw [List.getElem?_set_ne (Ne.symm hm)] at e'
      rcases r.cell m c' e' with q | ⟨b, hb, ok'⟩
      · exact .inl q
      · have nb : b ≠ a := fun z => hm (r.inj m n a (by rw [← z]; exact hb) h)
        exact .inr ⟨b, hb, ok'.mono (step_wr r h) (by rw [upd_ne nb])⟩
  bon := r.bon
  box := fun b l e => by
    obtain ⟨h1, h2, h3, h4⟩ := r.box b l e
    have no := (r.out a (List.mem_of_getElem? h)).2
    exact ⟨h1, h2, h3, h4.mono (by rw [upd_ne (fun z => no ⟨b, l, e, .inr z.symm⟩)]) (by rw [upd_ne (fun z => no ⟨b, l, e, .inl z.symm⟩)])⟩

def Wd.cut (w : Wd) (n : Nat) : Wd := { w with as := w.as.set n none }
theorem cut_wr {w : Wd} {n : Nat} {a : Addr} (h : (w.cut n).wr a) : w.wr a := by
  rcases h with h | h
  · exact .inl h
  · have h' : some a ∈ w.as.set n none := h
    rcases List.mem_or_eq_of_mem_set h' with q | q
    · exact .inr q
    · cases q
theorem cut_at {w : Wd} {n m : Nat} {a : Addr} (h : (w.cut n).as[m]? = some (some a)) : w.as[m]? = some (some a) ∧ m ≠ n := by
  have h' : (w.as.set n none)[m]? = some (some a) := h
  by_cases hm : n = m
  · subst hm
    have hl := as_len h
    have hl' : n < (w.as.set n none).length := hl
    rw [List.length_set] at hl'
    rw [List.getElem?_set_self hl'] at h'
    cases h'
  · rw [List.getElem?_set_ne hm] at h'
    exact ⟨h', Ne.symm hm⟩
theorem step_cut (n : Nat) : Step w H (w.cut n) H where
  hid := rfl
  fz := fun b u e => by
    obtain ⟨h1, h2⟩ := Fz.of e
    refine Fz.to h1 fun z => ?_
    rcases z with z | z
    · exact h2 (.inl z)
    · exact h2 (.inr (cut_wr z))
  len := by show _ ≤ (w.as.set n none).length; rw [List.length_set]; exact Nat.le_refl _
  old := fun m a _ e => (cut_at e).1
  new := fun m a h e => absurd (as_len (cut_at e).1) (Nat.not_lt.mpr h)
  bx := fun _ h => h
  bnew := fun h b l e => by
    have e' : w.bx = some (b, l) := e
    rw [h] at e'; cases e'
  keep := fun _ _ e _ => e
  there := fun _ u e => ⟨u, e⟩
theorem RelT.cut (r : RelT K w t H) {n : Nat} {a : Addr} (h : w.as[n]? = some (some a)) : RelT K (w.cut n) { t with st := t.st.set n .dead } H ∧ ¬ (w.cut n).mut a := by
  refine ⟨⟨r.hidn, ?_, fun i j b h1 h2 => r.inj i j b (cut_at h1).1 (cut_at h2).1, fun b hb => ?_, fun m c' e => ?_, r.bon, r.box⟩, ?_⟩
  · show (w.as.set n none).length = (t.st.set n .dead).length
    rw [List.length_set, List.length_set]; exact r.len
  · obtain ⟨m, hm⟩ := List.getElem?_of_mem hb
    exact r.out b (List.mem_of_getElem? (cut_at hm).1)
  · have e' : (t.st.set n .dead)[m]? = some c' := e
    by_cases hm : n = m
    · subst hm
      have hl : n < t.st.length := by rw [← r.len]; exact as_len h
      rw [List.getElem?_set_self hl] at e'
      cases e'
      refine .inl ⟨rfl, ?_⟩
      show (w.as.set n none)[n]? = _
      rw [List.getElem?_set_self (as_len h)]
    · rw [List.getElem?_set_ne hm] at e'
      have ea : (w.cut n).as[m]? = w.as[m]? := by show (w.as.set n none)[m]? = _; rw [List.getElem?_set_ne hm]
      rcases r.cell m c' e' with ⟨q1, q2⟩ | ⟨b, hb, ok'⟩
      · exact .inl ⟨q1, by rw [ea]; exact q2⟩
      · exact .inr ⟨b, by rw [ea]; exact hb, ok'.mono (step_cut n) rfl⟩
  · have o := r.out a (List.mem_of_getElem? h)
    rintro (z | z | z)
    · exact o.1 z
    · exact o.2 z
    · obtain ⟨m, hm⟩ := List.getElem?_of_mem z
      obtain ⟨q1, q2⟩ := cut_at hm
      exact q2 (r.inj m n a q1 h)
end

def Val.data? : Val → Option D
  | .d x => some x
  | _ => none
def datas : List Val → Option (List D)
  | [] => some []
  | v :: r => match v, datas r with
    | .d x, some xs => some (x :: xs)
    | _, _ => none
theorem datas_rep {K : PySem.W.Frag} {w : Wd} {H : Hp} : ∀ {vs : List Val} {xs : List V} {ds : List D}, datas vs = some ds → RepVs K w H xs vs → Reps K (Fz w H) xs ds
  | [], _, _, e, .nil => by cases e; exact .nil
  | v :: r, _, _, e, .cons h hs => by
    unfold datas at e
    split at e
    · rename_i x ys eq
      cases e
      exact .cons h (datas_rep eq hs)
    · cases e
theorem reps_vals {K : PySem.W.Frag} {w : Wd} {H : Hp} : ∀ {xs : List V} {ds : List D}, Reps K (Fz w H) xs ds → RepVs K w H xs (ds.map Val.d)
  | _, _, .nil => .nil
  | _, _, .cons h hs => .cons h (reps_vals hs)
theorem Reps.length {K : PySem.W.Frag} {F : Hp} : ∀ {xs : List V} {ds : List D}, Reps K F xs ds → xs.length = ds.length
  | _, _, .nil => rfl
  | _, _, .cons _ hs => by simp [Reps.length hs]
theorem Reps.get {K : PySem.W.Frag} {F : Hp} : ∀ {xs : List V} {ds : List D} {i : Nat} {d : D}, Reps K F xs ds → ds[i]? = some d → ∃ x, xs[i]? = some x ∧ Rep K F x d
  | _, _, _, _, .nil, e => by simp at e
  | _, _, 0, _, .cons h _, e => by simp at e; subst e; exact ⟨_, rfl, h⟩
  | _, _, i + 1, _, .cons _ hs, e => by
    obtain ⟨x, e1, r⟩ := Reps.get (i := i) hs (by simpa using e)
    exact ⟨x, by simpa using e1, r⟩
theorem RepVs.get {K : PySem.W.Frag} {w : Wd} {H : Hp} : ∀ {xs : List V} {ds : List Val} {i : Nat} {d : Val}, RepVs K w H xs ds → ds[i]? = some d → ∃ x, xs[i]? = some x ∧ RepV K w H x d
  | _, _, _, _, .nil, e => by simp at e
  | _, _, 0, _, .cons h _, e => by simp at e; subst e; exact ⟨_, rfl, h⟩
  | _, _, i + 1, _, .cons _ hs, e => by
    obtain ⟨x, e1, r⟩ := RepVs.get (i := i) hs (by simpa using e)
    exact ⟨x, by simpa using e1, r⟩
def lim : Nat := 100000
theorem lim_ok {n : Nat} (h : n ≤ lim) : n ≤ sizeLine := Nat.le_trans h (by decide)
theorem lim_lt {n : Nat} (h : n < lim) : n < sizeLine := Nat.lt_of_lt_of_le h (by decide)
end En
set_option Elab.async false
set_option linter.all false
set_option maxRecDepth 100000
set_option maxHeartbeats 1000000
set_option autoImplicit false
namespace En
open PySem PySem.Spec PyProof.Rows L2

def asList (v : Val) (t : T) : Option (List Val) := match v with
  | .d (.lst xs) => some (xs.map Val.d)
  | .loc n => match t.st[n]? with
    | some (.lst vs) => some vs
    | _ => none
  | _ => none
def asTup : Val → Option (List D)
  | .d (.tup xs) => some xs
  | _ => none
def asSeq (v : Val) (t : T) : Option (List Val) := match asTup v with
  | some xs => some (xs.map Val.d)
  | none => asList v t
section
variable {K : PySem.W.Frag} {w : Wd} {t : T} {H : Hp} {x : V} {v : Val}
theorem asList_rep (r : RelT K w t H) (rx : RepV K w H x v) {vs : List Val} (e : asList v t = some vs) : ∃ a xs, x = .ref a ∧ H a = some (.lst xs) ∧ RepVs K w H xs vs := by
  cases v with
  | box => cases e
  | d d =>
    cases d with
    | lst ds =>
      cases e
      have rx' : Rep K (Fz w H) x (.lst ds) := rx
      cases rx' with
      | lst h hs => exact ⟨_, _, rfl, (Fz.of h).1, reps_vals hs⟩
    | _ => cases e
  | loc n =>
    unfold asList at e
    dsimp only at e
    split at e
    · rename_i vs' en
      cases e
      rcases rx with rx | ⟨a, ha, rfl⟩
      · rcases r.cell n _ en with ⟨z, _⟩ | ⟨b, hb, _⟩
        · cases z
        · rw [rx] at hb; cases hb
      · obtain ⟨c, ec, ok⟩ := r.live ha
        rw [en] at ec
        cases ec
        obtain ⟨xs, h1, h2⟩ := ok
        exact ⟨a, xs, rfl, h1, h2⟩
    · cases e
theorem asTup_rep (rx : RepV K w H x v) {ds : List D} (e : asTup v = some ds) : ∃ a xs, x = .ref a ∧ SqT K H a xs ∧ Reps K (Fz w H) xs ds := by
  cases v with
  | d d =>
    cases d with
    | tup ds' =>
      cases e
      have rx' : Rep K (Fz w H) x (.tup ds) := rx
      cases rx' with
      | tup h hs => exact ⟨_, _, rfl, Fz.ex.sqT h, hs⟩
    | _ => cases e
  | _ => cases e
theorem asSeq_rep (r : RelT K w t H) (rx : RepV K w H x v) {vs : List Val} (e : asSeq v t = some vs) : ∃ a xs, x = .ref a ∧ (SqL K H a xs ∨ SqT K H a xs) ∧ RepVs K w H xs vs := by
  unfold asSeq at e
  split at e
  · rename_i ds ed
    cases e
    obtain ⟨a, xs, e1, h, hs⟩ := asTup_rep rx ed
    exact ⟨a, xs, e1, .inr h, reps_vals hs⟩
  · obtain ⟨a, xs, e1, h, hs⟩ := asList_rep r rx e
    exact ⟨a, xs, e1, .inl (SqL.of h), hs⟩
end

section
variable {K : PySem.W.Frag} {W : WX} {w : Wd} {t : T} {H : Hp} {σ : L2.St}
theorem new_tup {Q : VK} {ds : List D} {xs : List V} (r : RelT K w t H) (hs : Reps K (Fz w H) xs ds) (p : PostE K W σ w H (fun w' H' v => ∀ z, RepV K w' H' z v → Q z H') (.ok (.d (.tup ds)) t)) :
    ∀ a, H a = none → Q (.ref a) (upd H a (.tup xs)) := fun a ha => p w _ (step_new r ha) (r.new ha) _ (Rep.tup (SqT.of (Fz.new r ha)) (hs.mono (step_new r ha).fz))
theorem new_lst {Q : VK} {ds : List D} {xs : List V} (r : RelT K w t H) (hs : Reps K (Fz w H) xs ds) (p : PostE K W σ w H (fun w' H' v => ∀ z, RepV K w' H' z v → Q z H') (.ok (.d (.lst ds)) t)) :
    ∀ a, H a = none → Q (.ref a) (upd H a (.lst xs)) := fun a ha => p w _ (step_new r ha) (r.new ha) _ (Rep.lst (Fz.new r ha) (hs.mono (step_new r ha).fz))
end

mutual
def toPy : D → Option PyData
  | .non => some .none
  | .bl b => some (.bool b)
  | .int i => some (.int i)
  | .str x => some (.str x)
  | .tup xs => match toPys xs with
    | some ys => some (.tuple ys)
    | none => none
  | .lst xs => match toPys xs with
    | some ys => some (.list ys)
    | none => none
  | _ => none
def toPys : List D → Option (List PyData)
  | [] => some []
  | x :: xs => match toPy x, toPys xs with
    | some y, some ys => some (y :: ys)
    | _, _ => none
end
mutual
theorem toPy_dp {K : PySem.W.Frag} {F H : Hp} (e : Ex F H) : ∀ {d : D} {x : V} {y : PyData}, toPy d = some y → Rep K F x d → Dp K H x y
  | .non, _, _, h, .non => by simp only [toPy] at h; cases h; exact .non
  | .bl b, _, _, h, .bl _ => by simp only [toPy] at h; cases h; exact .bl b
  | .int b, _, _, h, .int _ => by simp only [toPy] at h; cases h; exact .int b
  | .str b, _, _, h, .str _ => by simp only [toPy] at h; cases h; exact .str b
  | .tup xs, _, _, h, .tup hq hs => by
    simp only [toPy] at h
    split at h
    · rename_i ys ey
      cases h
      exact .tup (e.sqT hq) (toPys_dp e ey hs)
    · cases h
  | .lst xs, _, _, h, .lst hq hs => by
    simp only [toPy] at h
    split at h
    · rename_i ys ey
      cases h
      exact .lst (SqL.of (e _ _ hq)) (toPys_dp e ey hs)
    · cases h
  | .ins _ _, _, _, h, _ => by simp only [toPy] at h; cases h
  | .dK _, _, _, h, _ => by simp only [toPy] at h; cases h
  | .dT _, _, _, h, _ => by simp only [toPy] at h; cases h
  | .scr _, _, _, h, _ => by simp only [toPy] at h; cases h
theorem toPys_dp {K : PySem.W.Frag} {F H : Hp} (e : Ex F H) : ∀ {d : List D} {x : List V} {y : List PyData}, toPys d = some y → Reps K F x d → DpAll K H x y
  | [], _, _, h, .nil => by simp only [toPys] at h; cases h; exact .nil
  | d :: ds, _, _, h, .cons hr hs => by
    simp only [toPys] at h
    split at h
    · rename_i y ys ey eys
      cases h
      exact .cons (toPy_dp e ey hr) (toPys_dp e eys hs)
    · cases h
end
def Val.dat (v : Val) (t : T) : Option D := match v with
  | .d x => some x
  | .loc n => match t.st[n]? with
    | some (.lst vs) => (datas vs).map D.lst
    | _ => none
  | .box => none
def valPy (v : Val) (t : T) : Option PyData := match v.dat t with
  | some d => match toPy d with
    | some y => if SeqAt.shaped y then some y else none
    | none => none
  | none => none
theorem valPy_dp {K : PySem.W.Frag} {w : Wd} {t : T} {H : Hp} {x : V} {v : Val} {y : PyData} (r : RelT K w t H) (rx : RepV K w H x v) (e : valPy v t = some y) : Dp K H x y ∧ SeqAt.shaped y = true := by
  unfold valPy at e
  split at e
  · rename_i d ed
    split at e
    · rename_i z ez
      split at e
      · rename_i hs
        cases e
        refine ⟨?_, hs⟩
        cases v with
        | d d' =>
          cases ed
          exact toPy_dp Fz.ex ez rx
        | box => cases ed
        | loc n =>
          unfold Val.dat at ed
          dsimp only at ed
          split at ed
          · rename_i vs en
            obtain ⟨ds, eds, ed2⟩ := Option.map_eq_some_iff.mp ed
            subst ed2
            obtain ⟨a, xs, e1, h1, h2⟩ := asList_rep (v := .loc n) (vs := vs) r rx (by unfold asList; dsimp only; rw [en])
            subst e1
            simp only [toPy] at ez
            split at ez
            · rename_i ys ey
              cases ez
              exact .lst (SqL.of h1) (toPys_dp Fz.ex ey (datas_rep eds h2))
            · cases ez
          · cases ed
      · cases e
    · cases e
  · cases e

def retB (b : Bool) (t : T) : R Val := .ok (.d (.bl b)) t
def retI (i : Int) (t : T) : R Val := .ok (.d (.int i)) t
def retS (x : Str) (t : T) : R Val := if x.length ≤ lim then .ok (.d (.str x)) t else .stuck
def fAdd (a b : Val) (t : T) : R Val := match a, b with
  | .d (.int i), .d (.int j) => retI (i + j) t
  | .d (.str x), .d (.str y) => if x.length + y.length ≤ lim then .ok (.d (.str (x ++ y))) t else .stuck
  | .d (.tup xs), .d (.tup ys) => if xs.length + ys.length ≤ lim then .ok (.d (.tup (xs ++ ys))) t else .stuck
  | a, b => match asList a t, asList b t with
    | some xs, some ys => if xs.length + ys.length ≤ lim then match datas (xs ++ ys) with
      | some ds => .ok (.d (.lst ds)) t
      | none => .stuck
      else .stuck
    | _, _ => .stuck
theorem Reps.app {K : PySem.W.Frag} {F : Hp} : ∀ {xs ys : List V} {ds es : List D}, Reps K F xs ds → Reps K F ys es → Reps K F (xs ++ ys) (ds ++ es)
  | _, _, _, _, .nil, h => h
  | _, _, _, _, .cons h hs, k => .cons h (Reps.app hs k)
theorem RepVs.app {K : PySem.W.Frag} {w : Wd} {H : Hp} : ∀ {xs ys : List V} {ds es : List Val}, RepVs K w H xs ds → RepVs K w H ys es → RepVs K w H (xs ++ ys) (ds ++ es)
  | _, _, _, _, .nil, h => h
  | _, _, _, _, .cons h hs, k => .cons h (RepVs.app hs k)
def rAddAll (K : PySem.W.Frag) : R2 := fun x y H Q => rI0 (fun i j => .int (i + j)) x y H Q ∨ (∃ i j, x = .str i ∧ y = .str j ∧ i.length + j.length ≤ sizeLine ∧ Q (.str (i ++ j)) H) ∨ rCatA K x y H Q ∨ rCat x y H Q
theorem op_addAll {X : Cx} : OpR X (binaryOp .Add) (rAddAll X.K) := op_add.or (op_add_str.or (op_catA.or op_cat))
theorem s_add {K : PySem.W.Frag} {W : WX} : OpS K W (rAddAll K) fAdd := by
  intro w t σ H x y a b Q r rx ry p
  unfold fAdd at p
  split at p
  · cases rx; cases ry
    exact .inl ⟨_, _, rfl, rfl, p.here r _ (Rep.int _)⟩
  · cases rx; cases ry
    split at p
    · rename_i hl
      exact .inr (.inl ⟨_, _, rfl, rfl, lim_ok hl, p.here r _ (Rep.str _)⟩)
    · exact p.elim
  · rename_i xs ys
    split at p
    · rename_i hl
      obtain ⟨a1, us, rfl, h1, hs1⟩ := asTup_rep (v := .d (.tup xs)) rx rfl
      obtain ⟨a2, us2, rfl, h2, hs2⟩ := asTup_rep (v := .d (.tup ys)) ry rfl
      refine .inr (.inr (.inl ⟨a1, a2, us, us2, rfl, rfl, h1, h2, ?_, fun e => ?_, fun _ e => ?_, fun _ _ => new_tup r (hs1.app hs2) p⟩))
      · rw [hs1.length, hs2.length]; exact lim_ok hl
      · subst e
        cases hs1
        exact p.here r _ ry
      · subst e
        cases hs2
        rw [List.append_nil] at p
        exact p.here r _ rx
    · exact p.elim
  · split at p
    · rename_i xs ys e1 e2
      split at p
      · rename_i hl
        split at p
        · rename_i ds ed
          obtain ⟨a1, us, rfl, h1, hs1⟩ := asList_rep r rx e1
          obtain ⟨a2, us2, rfl, h2, hs2⟩ := asList_rep r ry e2
          exact .inr (.inr (.inr ⟨a1, a2, us, us2, rfl, rfl, h1, h2, by rw [hs1.length, hs2.length]; exact lim_ok hl, new_lst r (datas_rep ed (hs1.app hs2)) p⟩))
        · exact p.elim
      · exact p.elim
    · exact p.elim
def fInt2 (g : Int → Int → Int) (c : Int → Int → Bool) (a b : Val) (t : T) : R Val := match a, b with
  | .d (.int i), .d (.int j) => if c i j then retI (g i j) t else .stuck
  | _, _ => .stuck
theorem s_int2 {K : PySem.W.Frag} {W : WX} {g : Int → Int → Int} {c : Int → Int → Bool} {C : Int → Int → Prop} (hc : ∀ i j, c i j = true → C i j) : OpS K W (rI C fun i j => .int (g i j)) (fInt2 g c) := by
  intro w t σ H x y a b Q r rx ry p
  unfold fInt2 at p
  split at p
  · cases rx; cases ry
    split at p
    · rename_i h
      exact ⟨_, _, rfl, rfl, hc _ _ h, p.here r _ (Rep.int _)⟩
    · exact p.elim
  · exact p.elim
def fSub := fInt2 (fun i j => i - j) fun _ _ => true
theorem op_subC {X : Cx} : OpR X (binaryOp .Sub) (rI (fun _ _ => True) fun i j => .int (i - j)) := fun pins s σ H x y v u Q I rx ry ⟨i, j, a, b, _, q⟩ => op_sub pins s σ H x y v u Q I rx ry ⟨i, j, a, b, q⟩
theorem s_sub {K : PySem.W.Frag} {W : WX} : OpS K W (rI (fun _ _ => True) fun i j => .int (i - j)) fSub := s_int2 fun _ _ _ => trivial
def cDiv (i j : Int) : Bool := decide (0 < j) && decide (j < 1073741824)
def fDiv := fInt2 (fun i j => i / j) cDiv
theorem s_div {K : PySem.W.Frag} {W : WX} : OpS K W (rI CDiv fun i j => .int (i / j)) fDiv := s_int2 fun i j h => by
  unfold cDiv at h
  obtain ⟨h1, h2⟩ := Bool.and_eq_true_iff.mp h
  exact ⟨of_decide_eq_true h1, of_decide_eq_true h2⟩
def fMod := fInt2 (fun i j => i % j) fun _ j => decide (0 < j)
theorem s_mod {K : PySem.W.Frag} {W : WX} : OpS K W (rI (fun _ j => 0 < j) fun i j => .int (i % j)) fMod := s_int2 fun i j h => of_decide_eq_true h
def cMul (i j : Int) : Bool := (decide (-(2 ^ 64) < i) && decide (i < 2 ^ 64)) || (decide (-(2 ^ 64) < j) && decide (j < 2 ^ 64))
def cMulOk {i j : Int} (h : cMul i j = true) : CMul i j := by
  unfold cMul at h
  simp only [Bool.or_eq_true, Bool.and_eq_true, decide_eq_true_eq] at h
  exact h
def strRep (x : Str) (k : Int) : Str := ⟨(List.replicate k.toNat x.cps.toList).flatten.toArray⟩
def fNeg (a : Val) (t : T) : R Val := match a with
  | .d (.int i) => retI (-i) t
  | _ => .stuck
theorem je_neg {X : Cx} {W : WX} {a : Expr} {ma : ME Val} {pos : Pos} (ha : JE X W a ma) : JE X W (.UnaryOp .USub a pos) (m1 fNeg ma) :=
  PE.imp (pe_un un_neg ha) fun σ H Q ⟨w, ρ, t, rt, rr, p⟩ => by
    refine ⟨w, ρ, t, rt, rr, PostE.imp (PostE.bind p) fun w1 H1 v t1 e1 s1 r1 q1 x rx => ?_⟩
    have q := q1 t1 e1 r1
    unfold fNeg at q
    split at q
    · cases rx
      exact ⟨_, rfl, q.here r1 _ (Rep.int _)⟩
    · exact q.elim
def fCmp (g : Int → Int → Bool) (a b : Val) (t : T) : R Val := match a, b with
  | .d (.int i), .d (.int j) => retB (g i j) t
  | _, _ => .stuck
theorem s_cmp {K : PySem.W.Frag} {W : WX} {g : Int → Int → Bool} : OpS K W (rI0 fun i j => .bl (g i j)) (fCmp g) := by
  intro w t σ H x y a b Q r rx ry p
  unfold fCmp at p
  split at p
  · cases rx; cases ry
    exact ⟨_, _, rfl, rfl, p.here r _ (Rep.bl _)⟩
  · exact p.elim
def fLt := fCmp fun i j => decide (i < j)
def fLe := fCmp fun i j => decide (i ≤ j)
def fGt := fCmp fun i j => decide (j < i)
def fGe := fCmp fun i j => decide (j ≤ i)
def fEq (a b : Val) (t : T) : R Val := match valPy a t, valPy b t with
  | some x, some y => retB (PyData.eqv x y) t
  | _, _ => .stuck
def fNe (a b : Val) (t : T) : R Val := match valPy a t, valPy b t with
  | some x, some y => retB (!PyData.eqv x y) t
  | _, _ => .stuck
theorem s_eq {K : PySem.W.Frag} {W : WX} : OpS K W (rEqD K) fEq := by
  intro w t σ H x y a b Q r rx ry p
  unfold fEq at p
  split at p
  · rename_i d e e1 e2
    obtain ⟨h1, h2⟩ := valPy_dp r rx e1
    obtain ⟨h3, h4⟩ := valPy_dp r ry e2
    exact ⟨d, e, h1, h3, h2, h4, p.here r _ (Rep.bl _)⟩
  · exact p.elim
theorem s_ne {K : PySem.W.Frag} {W : WX} : OpS K W (rNeD K) fNe := by
  intro w t σ H x y a b Q r rx ry p
  unfold fNe at p
  split at p
  · rename_i d e e1 e2
    obtain ⟨h1, h2⟩ := valPy_dp r rx e1
    obtain ⟨h3, h4⟩ := valPy_dp r ry e2
    exact ⟨d, e, h1, h3, h2, h4, p.here r _ (Rep.bl _)⟩
  · exact p.elim
def isN : Val → Option Bool
  | .d .non => some true
  | .d (.ins _ _) => some false
  | .d _ => some false
  | _ => none
def fIsN (a b : Val) (t : T) : R Val := match isN a, b with
  | some k, .d .non => retB k t
  | _, _ => .stuck
def fNotN (a b : Val) (t : T) : R Val := match isN a, b with
  | some k, .d .non => retB (!k) t
  | _, _ => .stuck
theorem isN_ok {K : PySem.W.Frag} {w : Wd} {H : Hp} {x : V} {v : Val} {k : Bool} (rx : RepV K w H x v) (e : isN v = some k) : decide (x = V.non) = k := by
  cases v with
  | box => cases e
  | loc n => cases e
  | d d =>
    have rx' : Rep K (Fz w H) x d := rx
    cases rx' <;> (cases e; first | rfl | exact decide_eq_false (fun z => nomatch z))
def rIsN : R2 := fun x y H Q => y = .non ∧ Q (.bl (decide (x = .non))) H
def rNotN : R2 := fun x y H Q => y = .non ∧ Q (.bl (!decide (x = .non))) H
theorem s_isN {K : PySem.W.Frag} {W : WX} : OpS K W rIsN fIsN := by
  intro w t σ H x y a b Q r rx ry p
  unfold fIsN at p
  split at p
  · rename_i k ek
    cases ry
    exact ⟨rfl, by rw [isN_ok rx ek]; exact p.here r _ (Rep.bl _)⟩
  · exact p.elim
theorem s_notN {K : PySem.W.Frag} {W : WX} : OpS K W rNotN fNotN := by
  intro w t σ H x y a b Q r rx ry p
  unfold fNotN at p
  split at p
  · rename_i k ek
    cases ry
    exact ⟨rfl, by rw [isN_ok rx ek]; exact p.here r _ (Rep.bl _)⟩
  · exact p.elim
end En
set_option Elab.async false
set_option linter.all false
set_option maxRecDepth 100000
set_option maxHeartbeats 1000000
set_option autoImplicit false
namespace En
open PySem PySem.Spec PyProof.Rows L2

def strIn (x y : Str) : Bool := match x.cps.toList with
  | [c] => decide (c ∈ y.cps.toList)
  | _ => !(Builtin.Str.occurrences y x 0 y.length 1).isEmpty
def inB (a b : Val) (t : T) : Option Bool := match a, b with
  | .d (.str x), .d (.str y) => some (strIn x y)
  | a, b => match valPy a t, valPy b t with
    | some d, some (.list ds) => some (ds.any fun z => PyData.eqv z d)
    | some d, some (.tuple ds) => some (ds.any fun z => PyData.eqv z d)
    | _, _ => none
def rInT (K : PySem.W.Frag) : R2 := fun x y H Q => ∃ d ds, Dp K H x d ∧ Dp K H y (.tuple ds) ∧ SeqAt.shaped d = true ∧ SeqAt.shaped (.tuple ds) = true ∧ Q (.bl (ds.any fun z => PyData.eqv z d)) H
def rNotInT (K : PySem.W.Frag) : R2 := fun x y H Q => ∃ d ds, Dp K H x d ∧ Dp K H y (.tuple ds) ∧ SeqAt.shaped d = true ∧ SeqAt.shaped (.tuple ds) = true ∧ Q (.bl (!ds.any fun z => PyData.eqv z d)) H
theorem op_inT {X : Cx} (hu : X.A.units + 65 < cLine) : OpR X (compareOp .In) (rInT X.K) := by
  intro pins s σ H x y v u Q I rx ry h
  obtain ⟨d, ds, hd, he, sd, se, q⟩ := h
  obtain ⟨as, r1⟩ := Dp.reads I d x v hd rx
  obtain ⟨bs, r2⟩ := Dp.reads I (.tuple ds) y u he ry
  exact SeqAt.in_tuple_reads r2 r1 (SeqAt.canLay_of_shaped se) (SeqAt.canLay_of_shaped sd) (room_in_shaped sd hu) ⟨.bl _, H, I, rfl, q⟩
theorem op_notInT {X : Cx} (hu : X.A.units + 65 < cLine) : OpR X (compareOp .NotIn) (rNotInT X.K) := by
  intro pins s σ H x y v u Q I rx ry h
  obtain ⟨d, ds, hd, he, sd, se, q⟩ := h
  obtain ⟨as, r1⟩ := Dp.reads I d x v hd rx
  obtain ⟨bs, r2⟩ := Dp.reads I (.tuple ds) y u he ry
  exact SeqAt.notIn_tuple_reads r2 r1 (SeqAt.canLay_of_shaped se) (SeqAt.canLay_of_shaped sd) (room_in_shaped sd hu) ⟨.bl _, H, I, rfl, q⟩
def rInS1 : R2 := fun x y H Q => ∃ (c : Nat) (z : Str), x = .str ⟨#[c]⟩ ∧ y = .str z ∧ Q (.bl (decide (c ∈ z.cps.toList))) H
def rInS2 : R2 := fun x y H Q => ∃ i j, x = .str i ∧ y = .str j ∧ Q (.bl (!(Builtin.Str.occurrences j i 0 j.length 1).isEmpty)) H
def rNotInS1 : R2 := fun x y H Q => ∃ (c : Nat) (z : Str), x = .str ⟨#[c]⟩ ∧ y = .str z ∧ Q (.bl (!decide (c ∈ z.cps.toList))) H
def rNotInS2 : R2 := fun x y H Q => ∃ i j, x = .str i ∧ y = .str j ∧ Q (.bl (!(!(Builtin.Str.occurrences j i 0 j.length 1).isEmpty))) H
def rInAll (K : PySem.W.Frag) : R2 := fun x y H Q => rInS1 x y H Q ∨ rInS2 x y H Q ∨ rInD K x y H Q ∨ rInT K x y H Q
def rNotInAll (K : PySem.W.Frag) : R2 := fun x y H Q => rNotInS1 x y H Q ∨ rNotInS2 x y H Q ∨ rNotInD K x y H Q ∨ rNotInT K x y H Q
theorem op_inAll {X : Cx} (hu : X.A.units + 65 < cLine) : OpR X (compareOp .In) (rInAll X.K) := OpR.or op_in_sign (OpR.or op_in_str ((op_inD hu).or (op_inT hu)))
theorem op_notInAll {X : Cx} (hu : X.A.units + 65 < cLine) : OpR X (compareOp .NotIn) (rNotInAll X.K) := OpR.or op_notIn_sign (OpR.or op_notIn_str ((op_notInD hu).or (op_notInT hu)))
def fIn (a b : Val) (t : T) : R Val := match inB a b t with
  | some k => retB k t
  | none => .stuck
def fNotIn (a b : Val) (t : T) : R Val := match inB a b t with
  | some k => retB (!k) t
  | none => .stuck
theorem str1 {x : Str} {c : Nat} (h : x.cps.toList = [c]) : x = ⟨#[c]⟩ := by
  obtain ⟨⟨l⟩⟩ := x
  have h' : l = [c] := h
  subst h'
  rfl
theorem inB_ok {K : PySem.W.Frag} {w : Wd} {t : T} {H : Hp} {x y : V} {a b : Val} {k : Bool} (r : RelT K w t H) (rx : RepV K w H x a) (ry : RepV K w H y b) (e : inB a b t = some k) :
    (∀ Q : VK, Q (.bl k) H → rInAll K x y H Q) ∧ ∀ Q : VK, Q (.bl (!k)) H → rNotInAll K x y H Q := by
  unfold inB at e
  split at e
  · cases rx; cases ry
    have ek := Option.some.inj e
    unfold strIn at ek
    split at ek
    · rename_i c ec
      rw [str1 ec] at *
      exact ⟨fun Q q => .inl ⟨c, _, rfl, rfl, by rw [ek]; exact q⟩, fun Q q => .inl ⟨c, _, rfl, rfl, by rw [ek]; exact q⟩⟩
    · exact ⟨fun Q q => .inr (.inl ⟨_, _, rfl, rfl, by rw [ek]; exact q⟩), fun Q q => .inr (.inl ⟨_, _, rfl, rfl, by rw [ek]; exact q⟩)⟩
  · split at e
    · rename_i d ds e1 e2
      cases e
      obtain ⟨h1, h2⟩ := valPy_dp r rx e1
      obtain ⟨h3, h4⟩ := valPy_dp r ry e2
      exact ⟨fun Q q => .inr (.inr (.inl ⟨d, ds, h1, h3, h2, h4, q⟩)), fun Q q => .inr (.inr (.inl ⟨d, ds, h1, h3, h2, h4, q⟩))⟩
    · rename_i d ds e1 e2
      cases e
      obtain ⟨h1, h2⟩ := valPy_dp r rx e1
      obtain ⟨h3, h4⟩ := valPy_dp r ry e2
      exact ⟨fun Q q => .inr (.inr (.inr ⟨d, ds, h1, h3, h2, h4, q⟩)), fun Q q => .inr (.inr (.inr ⟨d, ds, h1, h3, h2, h4, q⟩))⟩
    · cases e
theorem s_in {K : PySem.W.Frag} {W : WX} : OpS K W (rInAll K) fIn := by
  intro w t σ H x y a b Q r rx ry p
  unfold fIn at p
  split at p
  · rename_i k ek
    exact (inB_ok r rx ry ek).1 Q (p.here r _ (Rep.bl _))
  · exact p.elim
theorem s_notIn {K : PySem.W.Frag} {W : WX} : OpS K W (rNotInAll K) fNotIn := by
  intro w t σ H x y a b Q r rx ry p
  unfold fNotIn at p
  split at p
  · rename_i k ek
    exact (inB_ok r rx ry ek).2 Q (p.here r _ (Rep.bl _))
  · exact p.elim

def fIx (a b : Val) (t : T) : R Val := match b with
  | .d (.int i) => (match a with
    | .d (.str x) => if x.length ≤ lim then match atI x.cps.toList i with
      | some c => .ok (.d (.str ⟨#[c]⟩)) t
      | none => .stuck
      else .stuck
    | a => match asSeq a t with
      | some vs => match atI vs i with
        | some v => .ok v t
        | none => .stuck
      | none => .stuck)
  | _ => .stuck
theorem atI_rep {K : PySem.W.Frag} {w : Wd} {H : Hp} {xs : List V} {vs : List Val} {i : Int} {v : Val} (h : RepVs K w H xs vs) (e : atI vs i = some v) : ∃ x, atI xs i = some x ∧ RepV K w H x v := by
  unfold atI at e ⊢
  rw [h.length]
  cases q : ixN vs.length i with
  | none => rw [q] at e; cases e
  | some j =>
    rw [q] at e
    exact h.get e
theorem s_ix {K : PySem.W.Frag} {W : WX} : OpS K W (rIx K) fIx := by
  intro w t σ H x y a b Q r rx ry p
  unfold fIx at p
  split at p
  · rename_i i
    cases ry
    split at p
    · rename_i s
      cases rx
      split at p
      · rename_i hl
        split at p
        · rename_i c ec
          exact .inr (.inr ⟨_, _, c, rfl, rfl, lim_ok hl, ec, p.here r _ (Rep.str _)⟩)
        · exact p.elim
      · exact p.elim
    · split at p
      · rename_i vs evs
        split at p
        · rename_i v ev
          obtain ⟨a1, xs, rfl, hq, hs⟩ := asSeq_rep r rx evs
          obtain ⟨z, ez, rz⟩ := atI_rep hs ev
          rcases hq with hq | hq
          · exact .inl ⟨a1, xs, i, z, rfl, rfl, hq, ez, p.here r _ rz⟩
          · exact .inr (.inl ⟨a1, xs, i, z, rfl, rfl, hq, ez, p.here r _ rz⟩)
        · exact p.elim
      · exact p.elim
  · exact p.elim
theorem je_ix {X : Cx} {W : WX} {a b : Expr} {ma mb : ME Val} {pos : Pos} (ha : JE X W a ma) (hb : JE X W b mb) (hs : PlainIx b := by exact fun _ _ => rfl) : JE X W (.Subscript a b pos) (m2 fIx ma mb) := PE.imp (pe_ix ix_seq ha hb hs) (sim2 s_ix)

def tMO (K : PySem.W.Frag) (W : WX) (m : ME (Option Int)) : TO := fun σ H Q => ∃ w ρ t, RelT K w t H ∧ RelR K w ρ σ H ∧ PostE K W σ w H (fun w' H' o => Q o H') (m ρ t)
def JO (X : Cx) (W : WX) (e : Option Expr) (m : ME (Option Int)) : Prop := PO X e (tMO X.K W m)
def mNoPart : ME (Option Int) := fun _ t => .ok none t
def asPart (v : Val) (t : T) : R (Option Int) := match v with
  | .d (.int i) => .ok (some i) t
  | _ => .stuck
theorem PO.imp {X : Cx} {e : Option Expr} {t t' : TO} (h : PO X e t) (k : ∀ σ H Q, t' σ H Q → t σ H Q) : PO X e t' := ⟨fun pins s σ H Q I q => h.run pins s σ H Q I (k σ H Q q)⟩
theorem jo_none {X : Cx} {W : WX} : JO X W none mNoPart := PO.imp po_none fun σ H Q ⟨w, ρ, t, rt, rr, p⟩ => p.here rt
theorem jo_some {X : Cx} {W : WX} {e : Expr} {m : ME Val} (h : JE X W e m) : JO X W (some e) (m1 asPart m) := PO.imp (po_some h) fun σ H Q ⟨w, ρ, t, rt, rr, p⟩ => by
  refine ⟨w, ρ, t, rt, rr, PostE.imp (PostE.bind p) fun w1 H1 v t1 e1 s1 r1 q1 x rx => ?_⟩
  have q := q1 t1 e1 r1
  unfold asPart at q
  split at q
  · cases rx
    exact ⟨_, rfl, q.here r1⟩
  · exact q.elim
def cut {α : Type} (xs : List α) (lo hi : Option Int) : List α := (xs.drop (HT.sIx xs.length 0 lo)).take (HT.sIx xs.length xs.length hi - HT.sIx xs.length 0 lo)
def cutStr (z : Str) (lo hi : Option Int) : Str := cutS z lo hi
def fSl (a : Val) (lo hi : Option Int) (t : T) : R Val := match a with
  | .d (.str x) => if x.length ≤ lim then .ok (.d (.str (cutS x lo hi))) t else .stuck
  | .d (.tup xs) => .ok (.d (.tup (cut xs lo hi))) t
  | a => match asList a t with
    | some vs => match datas (cut vs lo hi) with
      | some ds => .ok (.d (.lst ds)) t
      | none => .stuck
    | none => .stuck
theorem Reps.drop {K : PySem.W.Frag} {F : Hp} : ∀ {xs : List V} {ds : List D} (n : Nat), Reps K F xs ds → Reps K F (xs.drop n) (ds.drop n)
  | _, _, 0, h => h
  | _, _, _ + 1, .nil => .nil
  | _, _, n + 1, .cons _ hs => Reps.drop n hs
theorem Reps.take {K : PySem.W.Frag} {F : Hp} : ∀ {xs : List V} {ds : List D} (n : Nat), Reps K F xs ds → Reps K F (xs.take n) (ds.take n)
  | _, _, 0, _ => .nil
  | _, _, _ + 1, .nil => .nil
  | _, _, n + 1, .cons h hs => .cons h (Reps.take n hs)
theorem RepVs.drop {K : PySem.W.Frag} {w : Wd} {H : Hp} : ∀ {xs : List V} {ds : List Val} (n : Nat), RepVs K w H xs ds → RepVs K w H (xs.drop n) (ds.drop n)
  | _, _, 0, h => h
  | _, _, _ + 1, .nil => .nil
  | _, _, n + 1, .cons _ hs => RepVs.drop n hs
theorem RepVs.take {K : PySem.W.Frag} {w : Wd} {H : Hp} : ∀ {xs : List V} {ds : List Val} (n : Nat), RepVs K w H xs ds → RepVs K w H (xs.take n) (ds.take n)
  | _, _, 0, _ => .nil
  | _, _, _ + 1, .nil => .nil
  | _, _, n + 1, .cons h hs => .cons h (RepVs.take n hs)
theorem Reps.cut {K : PySem.W.Frag} {F : Hp} {xs : List V} {ds : List D} {lo hi : Option Int} (h : Reps K F xs ds) : Reps K F (cutV xs lo hi) (En.cut ds lo hi) := by
  unfold cutV En.cut
  rw [h.length]
  exact (h.drop _).take _
theorem RepVs.cut {K : PySem.W.Frag} {w : Wd} {H : Hp} {xs : List V} {ds : List Val} {lo hi : Option Int} (h : RepVs K w H xs ds) : RepVs K w H (cutV xs lo hi) (En.cut ds lo hi) := by
  unfold cutV En.cut
  rw [h.length]
  exact (h.drop _).take _
def rSlAll (K : PySem.W.Frag) : V → Option Int → Option Int → Hp → VK → Prop := fun x lo hi H Q => rSlS x lo hi H Q ∨ rSlA K x lo hi H Q ∨ rSlL K x lo hi H Q
theorem sl_all {X : Cx} : SlR X (rSlAll X.K) := sl_str.or (sl_tupA.or sl_list)
theorem s_sl {K : PySem.W.Frag} {W : WX} {w : Wd} {t : T} {σ : L2.St} {H : Hp} {x : V} {a : Val} {lo hi : Option Int} {Q : VK} (r : RelT K w t H) (rx : RepV K w H x a) (p : PostE K W σ w H (fun w' H' v => ∀ z, RepV K w' H' z v → Q z H') (fSl a lo hi t)) : rSlAll K x lo hi H Q := by
  unfold fSl at p
  split at p
  · cases rx
    split at p
    · rename_i hl
      exact .inl ⟨_, rfl, lim_ok hl, p.here r _ (Rep.str _)⟩
    · exact p.elim
  · rename_i xs
    obtain ⟨a1, us, rfl, h1, hs1⟩ := asTup_rep (v := .d (.tup xs)) rx rfl
    refine .inr (.inl ⟨a1, us, rfl, h1, fun ⟨e1, e2⟩ => ?_, fun _ => new_tup r hs1.cut p⟩)
    have ec : En.cut xs lo hi = xs := by
      unfold En.cut
      rw [hs1.length] at e1 e2
      rw [e1, e2]
      simp
    rw [ec] at p
    exact p.here r _ rx
  · split at p
    · rename_i vs e1
      split at p
      · rename_i ds ed
        obtain ⟨a1, us, rfl, h1, hs1⟩ := asList_rep r rx e1
        exact .inr (.inr ⟨a1, us, rfl, SqL.of h1, new_lst r (datas_rep ed hs1.cut) p⟩)
      · exact p.elim
    · exact p.elim
def mSl (ma : ME Val) (ml mh : ME (Option Int)) : ME Val := fun ρ t => (ma ρ t).bind fun x t => (ml ρ t).bind fun l t => (mh ρ t).bind fun h t => fSl x l h t
theorem je_sl {X : Cx} {W : WX} {e : Expr} {lo hi : Option Expr} {ma : ME Val} {ml mh : ME (Option Int)} {p2 pos : Pos} (he : JE X W e ma) (hl : JO X W lo ml) (hu : JO X W hi mh) : JE X W (.Subscript e (.Slice lo hi none p2) pos) (mSl ma ml mh) :=
  PE.imp (pe_slice sl_all he hl hu) fun σ H Q ⟨w, ρ, t, rt, rr, p⟩ => by
    refine ⟨w, ρ, t, rt, rr, PostE.imp (PostE.bind p) fun w1 H1 v t1 e1 s1 r1 q1 x rx => ?_⟩
    refine ⟨w1, ρ, t1, r1, rr.mono s1, PostE.imp (PostE.bind (q1 t1 e1 r1)) fun w2 H2 l t2 e2 s2 r2 q2 => ?_⟩
    refine ⟨w2, ρ, t2, r2, (rr.mono s1).mono s2, PostE.imp (PostE.bind (q2 t2 e2 r2)) fun w3 H3 h t3 e3 s3 r3 q3 => ?_⟩
    exact s_sl r3 ((rx.mono s2).mono s3) (q3 t3 e3 r3)

def fTup (vs : List Val) (t : T) : R Val := match datas vs with
  | some ds => if ds.length ≤ lim then .ok (.d (.tup ds)) t else .stuck
  | none => .stuck
theorem je_tup {X : Cx} {W : WX} {es : List Expr} {m : ME (List Val)} {pos : Pos} {x1 : Nat} (h : JA X W es m) : JE X W (.Tuple es x1 pos) (mL fTup m) :=
  PE.imp (pe_tup h) fun σ H Q ⟨w, ρ, t, rt, rr, p⟩ => by
    refine ⟨w, ρ, t, rt, rr, PostE.imp (PostE.bind p) fun w1 H1 v t1 e1 s1 r1 q1 x rx => ?_⟩
    have q := q1 t1 e1 r1
    unfold fTup at q
    split at q
    · rename_i ds ed
      split at q
      · rename_i hl
        have hr := datas_rep ed rx
        exact ⟨by rw [hr.length]; exact lim_ok hl, new_tup r1 hr q⟩
      · exact q.elim
    · exact q.elim
def PostL (K : PySem.W.Frag) (W : WX) (σ : L2.St) (w : Wd) (H : Hp) (Q : VK) (r : R (List Val)) : Prop := PostE K W σ w H (fun w' H' vs => ∀ p xs, H' p = none → RepVs K w' H' xs vs → Q (.ref p) (upd H' p (.lst xs))) r
def tML (K : PySem.W.Frag) (W : WX) (m : ME (List Val)) : TE := fun σ H Q => ∃ w ρ t, RelT K w t H ∧ RelR K w ρ σ H ∧ PostL K W σ w H Q (m ρ t)
def JL (X : Cx) (W : WX) (e : Expr) (m : ME (List Val)) : Prop := PE X e (tML X.K W m)
def fFz (vs : List Val) (t : T) : R Val := match datas vs with
  | some ds => .ok (.d (.lst ds)) t
  | none => .stuck
theorem je_ofL {X : Cx} {W : WX} {e : Expr} {m : ME (List Val)} (h : JL X W e m) : JE X W e (mL fFz m) :=
  PE.imp h fun σ H Q ⟨w, ρ, t, rt, rr, p⟩ => by
    refine ⟨w, ρ, t, rt, rr, PostE.imp (PostE.bind p) fun w1 H1 v t1 e1 s1 r1 q1 a xs ha rx => ?_⟩
    have q := q1 t1 e1 r1
    unfold fFz at q
    split at q
    · rename_i ds ed
      exact new_lst r1 (datas_rep ed rx) q a ha
    · exact q.elim
def fLen (vs : List Val) (t : T) : R (List Val) := if vs.length ≤ lim then .ok vs t else .stuck
theorem jl_lst {X : Cx} {W : WX} {es : List Expr} {m : ME (List Val)} {pos : Pos} (h : JA X W es m) : JL X W (.List es pos) (mL fLen m) :=
  PE.imp (pe_lst h) fun σ H Q ⟨w, ρ, t, rt, rr, p⟩ => by
    refine ⟨w, ρ, t, rt, rr, PostE.imp (PostE.bind p) fun w1 H1 v t1 e1 s1 r1 q1 x rx => ?_⟩
    have q := q1 t1 e1 r1
    unfold fLen at q
    split at q
    · rename_i hl
      exact ⟨by rw [rx.length]; exact lim_ok hl, fun p hp => q.here r1 p x hp rx⟩
    · exact q.elim
end En
set_option Elab.async false
set_option linter.all false
set_option maxRecDepth 100000
set_option maxHeartbeats 1000000
set_option autoImplicit false
namespace En
open PySem PySem.Spec PyProof.Rows L2

def fNew (vs : List Val) (t : T) : R Val := .ok (.loc t.st.length) { t with st := t.st ++ [.lst vs] }
theorem je_new {X : Cx} {W : WX} {e : Expr} {m : ME (List Val)} (h : JL X W e m) : JE X W e (mL fNew m) :=
  PE.imp h fun σ H Q ⟨w, ρ, t, rt, rr, p⟩ => by
    refine ⟨w, ρ, t, rt, rr, PostE.imp (PostE.bind p) fun w1 H1 v t1 e1 s1 r1 q1 a xs ha rx => ?_⟩
    have q := q1 t1 e1 r1
    have ok : CellOk X.K (w1.add a) (upd H1 a (.lst xs)) a (.lst v) := ⟨xs, upd_same, rx.mono (step_add r1 ha)⟩
    exact q (w1.add a) _ (step_add r1 ha) (r1.add ha ok) _ (.inr ⟨a, by rw [← r1.len]; exact add_last w1 a, rfl⟩)
def fFreeze (v : Val) (t : T) : R Val := match v with
  | .d x => .ok (.d x) t
  | .loc n => (match t.st[n]? with
    | some (.lst vs) => (match datas vs with
      | some ds => .ok (.d (.lst ds)) { t with st := t.st.set n .dead }
      | none => .stuck)
    | some (.dT kvs) => (match datas (kvs.map (·.2)) with
      | some ds => .ok (.d (.dT ((kvs.map (·.1)).zip ds))) { t with st := t.st.set n .dead }
      | none => .stuck)
    | some (.ins c fs) => (match datas (fs.map (·.2)) with
      | some ds => .ok (.d (.ins c ((fs.map (·.1)).zip ds))) { t with st := t.st.set n .dead }
      | none => .stuck)
    | _ => .stuck)
  | .box => .stuck
theorem repVK_K {K : PySem.W.Frag} {w : Wd} {H : Hp} : ∀ {kvs : List (Key × Val)} {xs : List (Key × V)} {ds : List D}, datas (kvs.map (·.2)) = some ds → RepVK K w H xs kvs → RepK K (Fz w H) xs ((kvs.map (·.1)).zip ds)
  | [], _, _, e, .nil => by cases e; exact .nil
  | (k, v) :: r, _, _, e, .cons h hs => by
    simp only [List.map_cons, datas] at e
    split at e
    · rename_i x ys ev
      cases e
      exact .cons h (repVK_K ev hs)
    · cases e
theorem repVK_T {K : PySem.W.Frag} {w : Wd} {H : Hp} : ∀ {kvs : List (NestedKey × Val)} {xs : List (NestedKey × V)} {ds : List D}, datas (kvs.map (·.2)) = some ds → RepVK K w H xs kvs → RepT K (Fz w H) xs ((kvs.map (·.1)).zip ds)
  | [], _, _, e, .nil => by cases e; exact .nil
  | (k, v) :: r, _, _, e, .cons h hs => by
    simp only [List.map_cons, datas] at e
    split at e
    · rename_i x ys ev
      cases e
      exact .cons h (repVK_T ev hs)
    · cases e
theorem repVK_F {K : PySem.W.Frag} {w : Wd} {H : Hp} : ∀ {kvs : List (Str × Val)} {xs : List (Str × V)} {ds : List D}, datas (kvs.map (·.2)) = some ds → RepVK K w H xs kvs → RepF K (Fz w H) xs ((kvs.map (·.1)).zip ds)
  | [], _, _, e, .nil => by cases e; exact .nil
  | (k, v) :: r, _, _, e, .cons h hs => by
    simp only [List.map_cons, datas] at e
    split at e
    · rename_i x ys ev
      cases e
      exact .cons h (repVK_F ev hs)
    · cases e
theorem loc_live {K : PySem.W.Frag} {w : Wd} {t : T} {H : Hp} {x : V} {n : Nat} {c : Cell} (r : RelT K w t H) (rx : RepV K w H x (.loc n)) (e : t.st[n]? = some c) (hc : c ≠ .dead) : ∃ a, x = .ref a ∧ w.as[n]? = some (some a) ∧ CellOk K w H a c := by
  rcases rx with rx | ⟨a, ha, rfl⟩
  · rcases r.cell n _ e with ⟨z, _⟩ | ⟨b, hb, _⟩
    · exact absurd z hc
    · rw [rx] at hb; cases hb
  · obtain ⟨c', ec, ok⟩ := r.live ha
    rw [e] at ec
    cases ec
    exact ⟨a, rfl, ha, ok⟩
theorem fFreeze_ok {K : PySem.W.Frag} {W : WX} {w : Wd} {t : T} {H : Hp} {x : V} {v : Val} {σ : L2.St} {α : Type} {Q : Wd → Hp → α → Prop} {f : Val → T → R α} (r : RelT K w t H) (rx : RepV K w H x v) (p : PostE K W σ w H Q ((fFreeze v t).bind f)) :
    ∃ d w' t', Step w H w' H ∧ RelT K w' t' H ∧ Rep K (Fz w' H) x d ∧ PostE K W σ w' H Q (f (.d d) t') := by
  unfold fFreeze at p
  have go : ∀ (n : Nat) (a : Addr) (d : D), w.as[n]? = some (some a) → PostE K W σ w H Q (f (.d d) { t with st := t.st.set n .dead }) → PostE K W σ (w.cut n) H Q (f (.d d) { t with st := t.st.set n .dead }) := fun n a d ha p => by
    have s := step_cut (w := w) (H := H) n
    revert p
    cases f (.d d) { t with st := t.st.set n .dead } with
    | stuck => exact fun p => p
    | ok b tb => exact fun p w2 H2 s2 r2 => p w2 H2 (s.trans s2) r2
    | exc b tb => exact fun p w2 H2 cls d s2 r2 => p w2 H2 cls d (s.trans s2) r2
  split at p
  · exact ⟨_, w, t, Step.refl _ _, r, rx, p⟩
  · rename_i n
    split at p
    · rename_i vs en
      split at p
      · rename_i ds eds
        obtain ⟨a, rfl, ha, xs, h1, h2⟩ := loc_live r rx en (by intro z; cases z)
        obtain ⟨rc, nm⟩ := r.cut ha
        exact ⟨_, w.cut n, _, step_cut n, rc, Rep.lst (Fz.to h1 nm) ((datas_rep eds h2).mono (step_cut n).fz), go n a _ ha p⟩
      · exact p.elim
    · rename_i vs en
      split at p
      · rename_i ds eds
        obtain ⟨a, rfl, ha, o, es, ep, xs, h1, h3, h4, h2⟩ := loc_live r rx en (by intro z; cases z)
        obtain ⟨rc, nm⟩ := r.cut ha
        exact ⟨_, w.cut n, _, step_cut n, rc, Rep.dT (Fz.to h1 nm) h3 (h4.mono (step_cut n).fz) ((repVK_T eds h2).mono (step_cut n).fz), go n a _ ha p⟩
      · exact p.elim
    · rename_i vs en
      split at p
      · rename_i ds eds
        obtain ⟨a, rfl, ha, dx, xs, h1, h2⟩ := loc_live r rx en (by intro z; cases z)
        obtain ⟨rc, nm⟩ := r.cut ha
        exact ⟨_, w.cut n, _, step_cut n, rc, Rep.ins (Fz.to h1 nm) ((repVK_F eds h2).mono (step_cut n).fz), go n a _ ha p⟩
      · exact p.elim
    · exact p.elim
  · exact p.elim
theorem je_fz {X : Cx} {W : WX} {e : Expr} {m : ME Val} (h : JE X W e m) : JE X W e (m1 fFreeze m) :=
  PE.imp h fun σ H Q ⟨w, ρ, t, rt, rr, p⟩ => by
    refine ⟨w, ρ, t, rt, rr, PostE.imp (PostE.bind p) fun w1 H1 v t1 e1 s1 r1 q1 x rx => ?_⟩
    have q := q1 t1 e1 r1
    obtain ⟨d, w2, t2, s2, r2, rd, q2⟩ := fFreeze_ok (f := fun v t => .ok v t) r1 rx (show PostE X.K W σ w1 H1 _ ((fFreeze v t1).bind _) from by
      cases hq : fFreeze v t1 with
      | ok a b => rw [hq] at q; exact q
      | exc a b => rw [hq] at q; exact q
      | stuck => rw [hq] at q; exact q)
    exact q2.here r2 x rd

inductive RS where
  | nx (ρ : Rho) (t : T)
  | rt (v : Val) (t : T)
  | bk (ρ : Rho) (t : T)
  | ct (ρ : Rho) (t : T)
  | exc (x : Exn) (ρ : Rho) (t : T)
  | stuck
abbrev MS := Rho → T → RS
def PostS (K : PySem.W.Frag) (W : WX) (w : Wd) (H : Hp) (D : Ends) : RS → Prop
  | .nx ρ t => ∀ w' H' σ', Step w H w' H' → RelT K w' t H' → RelR K w' ρ σ' H' → D.nx σ' H'
  | .rt v t => ∀ w' H' x, Step w H w' H' → RelT K w' t H' → RepV K w' H' x v → D.rt x H'
  | .bk ρ t => ∀ w' H' σ', Step w H w' H' → RelT K w' t H' → RelR K w' ρ σ' H' → D.bk σ' H'
  | .ct ρ t => ∀ w' H' σ', Step w H w' H' → RelT K w' t H' → RelR K w' ρ σ' H' → D.ct σ' H'
  | .exc x ρ t => ∀ w' H' σ' cls d, Step w H w' H' → RelT K w' t H' → RelR K w' ρ σ' H' → ExcRep K (Fz w' H') cls d x → W cls d σ' H'
  | .stuck => False
def R.toS {α : Type} (r : R α) (ρ : Rho) (f : α → T → RS) : RS := match r with
  | .ok a t => f a t
  | .exc x t => .exc x ρ t
  | .stuck => .stuck
theorem PostS.from {K : PySem.W.Frag} {W : WX} {w w1 : Wd} {H H1 : Hp} {D : Ends} {r : RS} (s : Step w H w1 H1) (h : PostS K W w H D r) : PostS K W w1 H1 D r := by
  cases r with
  | nx ρ t => exact fun w' H' σ' s' => h w' H' σ' (s.trans s')
  | rt v t => exact fun w' H' x s' => h w' H' x (s.trans s')
  | bk ρ t => exact fun w' H' σ' s' => h w' H' σ' (s.trans s')
  | ct ρ t => exact fun w' H' σ' s' => h w' H' σ' (s.trans s')
  | exc x ρ t => exact fun w' H' σ' cls d s' => h w' H' σ' cls d (s.trans s')
  | stuck => exact h
theorem PostS.expr {K : PySem.W.Frag} {W : WX} {σ : L2.St} {α : Type} {w : Wd} {H : Hp} {D : Ends} {ρ : Rho} {r : R α} {f : α → T → RS} (rr : RelR K w ρ σ H) (h : PostS K W w H D (r.toS ρ f)) :
    PostE K W σ w H (fun w1 H1 a => ∀ t, r = .ok a t → PostS K W w1 H1 D (f a t)) r := by
  cases r with
  | stuck => exact h
  | exc x t => exact fun w' H' cls d s r e => h w' H' σ cls d s r (rr.mono s) e
  | ok a t =>
    intro w1 H1 s1 r1 t' et
    cases et
    exact PostS.from s1 h
def tMS (K : PySem.W.Frag) (W : WX) (m : MS) : TS := fun D σ H => ∃ w ρ t, RelT K w t H ∧ RelR K w ρ σ H ∧ PostS K W w H D (m ρ t)
def JS (X : Cx) (W : WX) (st : Stmt) (m : MS) : Prop := PS X st (tMS X.K W m)
def JSs (X : Cx) (W : WX) (st : List Stmt) (m : MS) : Prop := PSs X st (tMS X.K W m)

def sNil : MS := fun ρ t => .nx ρ t
def sSeq (a b : MS) : MS := fun ρ t => match a ρ t with
  | .nx ρ t => b ρ t
  | r => r
def sDrop (m : ME Val) : MS := fun ρ t => (m ρ t).toS ρ fun _ t => .nx ρ t
def sRet (m : ME Val) : MS := fun ρ t => (m ρ t).toS ρ fun v t => .rt v t
def sRetN : MS := fun _ t => .rt (.d .non) t
def sIf (c : ME Bool) (a b : MS) : MS := fun ρ t => (c ρ t).toS ρ fun k t => if k then a ρ t else b ρ t
def sBreak : MS := fun ρ t => .bk ρ t
def sCont : MS := fun ρ t => .ct ρ t
def sSet (i : Nat) (m : ME Val) : MS := fun ρ t => (m ρ t).toS ρ fun v t => .nx (ρ.set i (some v)) t
theorem RelR.set {K : PySem.W.Frag} {w : Wd} {H : Hp} {ρ : Rho} {σ : L2.St} (h : RelR K w ρ σ H) {x : V} {v : Val} (i : Nat) (r : RepV K w H x v) : RelR K w (ρ.set i (some v)) (σ.set i (some x)) H := by
  refine ⟨by simp [h.len], fun j u e => ?_⟩
  by_cases hj : i = j
  · subst hj
    have hl := (List.getElem?_eq_some_iff.mp e).1
    rw [List.length_set] at hl
    rw [List.getElem?_set_self hl] at e
    cases e
    exact ⟨x, by rw [List.getElem?_set_self (by rw [← h.len]; exact hl)], r⟩
  · rw [List.getElem?_set_ne hj] at e
    obtain ⟨y, e1, r1⟩ := h.at_ j u e
    exact ⟨y, by rw [List.getElem?_set_ne hj]; exact e1, r1⟩
section
variable {X : Cx} {W : WX} {pos : Pos}
theorem jss_nil : JSs X W [] sNil := PSs.imp pss_nil fun D σ H ⟨w, ρ, t, rt, rr, p⟩ => p w H σ (Step.refl _ _) rt rr
theorem PostS.next {K : PySem.W.Frag} {w : Wd} {H : Hp} {D : Ends} {N : L2.St → Hp → Prop} {r : RS} (h : ∀ ρ t, r = .nx ρ t → ∀ w' H' σ', Step w H w' H' → RelT K w' t H' → RelR K w' ρ σ' H' → N σ' H') (k : (∀ ρ t, r ≠ .nx ρ t) → PostS K W w H D r) : PostS K W w H { D with nx := N } r := by
  cases r with
  | nx ρ t => exact h ρ t rfl
  | rt v t => exact k (fun _ _ z => by cases z)
  | bk ρ t => exact k (fun _ _ z => by cases z)
  | ct ρ t => exact k (fun _ _ z => by cases z)
  | exc x ρ t => exact k (fun _ _ z => by cases z)
  | stuck => exact k (fun _ _ z => by cases z)
theorem jss_cons {st : Stmt} {rest : List Stmt} {a b : MS} (h1 : JS X W st a) (h2 : JSs X W rest b) : JSs X W (st :: rest) (sSeq a b) :=
  PSs.imp (pss_cons h1 h2) fun D σ H ⟨w, ρ, t, rt, rr, p⟩ => by
    refine ⟨w, ρ, t, rt, rr, PostS.next (fun ρ1 t1 e w1 H1 σ1 s1 r1 rr1 => ?_) fun hn => ?_⟩
    · refine ⟨w1, ρ1, t1, r1, rr1, PostS.from s1 ?_⟩
      unfold sSeq at p
      rw [e] at p
      exact p
    · unfold sSeq at p
      split at p
      · rename_i ρ1 t1 e
        exact absurd e (hn ρ1 t1)
      · exact p
theorem jss_one {st : Stmt} {a : MS} (h1 : JS X W st a) : JSs X W [st] a := pss_one h1
theorem js_pass : JS X W (.Pass pos) sNil := PS.imp ps_pass fun D σ H ⟨w, ρ, t, rt, rr, p⟩ => p w H σ (Step.refl _ _) rt rr
theorem js_break : JS X W (.Break pos) sBreak := PS.imp ps_break fun D σ H ⟨w, ρ, t, rt, rr, p⟩ => p w H σ (Step.refl _ _) rt rr
theorem js_continue : JS X W (.Continue pos) sCont := PS.imp ps_continue fun D σ H ⟨w, ρ, t, rt, rr, p⟩ => p w H σ (Step.refl _ _) rt rr
theorem js_expr {e : Expr} {m : ME Val} (h : JE X W e m) (hs : swapsWith e none pos.line X.env = pure false := by rfl) : JS X W (.Expr e pos) (sDrop m) :=
  PS.imp (ps_expr h hs) fun D σ H ⟨w, ρ, t, rt, rr, p⟩ => ⟨w, ρ, t, rt, rr, PostE.imp (PostS.expr rr p) fun w1 H1 v t1 e1 s1 r1 q x rx => q t1 e1 w1 H1 σ (Step.refl _ _) r1 (rr.mono s1)⟩
theorem js_ret {e : Expr} {m : ME Val} (h : JE X W e m) : JS X W (.Return (some e) pos) (sRet m) :=
  PS.imp (ps_ret h) fun D σ H ⟨w, ρ, t, rt, rr, p⟩ => ⟨w, ρ, t, rt, rr, PostE.imp (PostS.expr rr p) fun w1 H1 v t1 e1 s1 r1 q x rx => q t1 e1 w1 H1 x (Step.refl _ _) r1 rx⟩
theorem js_retN : JS X W (.Return none pos) sRetN := PS.imp ps_retN fun D σ H ⟨w, ρ, t, rt, rr, p⟩ => p w H .non (Step.refl _ _) rt Rep.non
theorem js_if {c : Expr} {a b : List Stmt} {mc : ME Bool} {ma mb : MS} (hc : JT X W c mc) (ha : JSs X W a ma) (hb : JSs X W b mb) : JS X W (.If c a b pos) (sIf mc ma mb) :=
  PS.imp (ps_if hc ha hb) fun D σ H ⟨w, ρ, t, rt, rr, p⟩ => by
    refine ⟨w, ρ, t, rt, rr, PostE.imp (PostS.expr rr p) fun w1 H1 v t1 e1 s1 r1 q => ?_⟩
    have q1 := q t1 e1
    cases v with
    | true => exact iteT ⟨w1, ρ, t1, r1, rr.mono s1, q1⟩
    | false => exact iteF ⟨w1, ρ, t1, r1, rr.mono s1, q1⟩
theorem js_set {i : Nat} {x : Str} {e : Expr} {m : ME Val} {pos' : Pos} (hN : X.N.Nodup) (hi : X.N[i]? = some x) (hx : Loc X.env.scope x) (he : JE X W e m) (hs : swapsWith e (some (.Name x pos')) pos.line X.env = pure false := by rfl) (hf : X.fn x = true ∨ X.env.scope.names.lookup x = some .local := by first | exact .inl rfl | exact .inr rfl | assumption) : JS X W (.Assign [.Name x pos'] e pos) (sSet i m) :=
  PS.imp (ps_set hN hi hx he hs hf) fun D σ H ⟨w, ρ, t, rt, rr, p⟩ => ⟨w, ρ, t, rt, rr, PostE.imp (PostS.expr rr p) fun w1 H1 v t1 e1 s1 r1 q x rx => q t1 e1 w1 H1 _ (Step.refl _ _) r1 ((rr.mono s1).set i rx)⟩
end
end En
set_option Elab.async false
set_option linter.all false
set_option maxRecDepth 100000
set_option maxHeartbeats 1000000
set_option autoImplicit false
namespace En
open PySem PySem.Spec PyProof.Rows L2

def NT (K : PySem.W.Frag) (g : TG) (is : List Nat) (f : Val → Rho → Option Rho) : Prop :=
  ∀ (w : Wd) (ρ ρ' : Rho) (σ : L2.St) (H : Hp) (x : V) (v : Val) (Q : L2.St → Hp → Prop), RelR K w ρ σ H → RepV K w H x v → f v ρ = some ρ' →
    (∀ σ', σ'.length = σ.length → (∀ i : Nat, i ∉ is → σ'[i]? = σ[i]?) → RelR K w ρ' σ' H → Q σ' H) → g x σ H Q
def NTs (K : PySem.W.Frag) (g : TGs) (is : List Nat) (f : List Val → Rho → Option Rho) : Prop :=
  ∀ (w : Wd) (ρ ρ' : Rho) (σ : L2.St) (H : Hp) (xs : List V) (vs : List Val) (Q : L2.St → Hp → Prop), RelR K w ρ σ H → RepVs K w H xs vs → f vs ρ = some ρ' →
    (∀ σ', σ'.length = σ.length → (∀ i : Nat, i ∉ is → σ'[i]? = σ[i]?) → RelR K w ρ' σ' H → Q σ' H) → g xs σ H Q
structure JG (X : Cx) (tg : Expr) (is : List Nat) (f : Val → Rho → Option Rho) : Prop where
  ex : ∃ g, PG X tg g ∧ NT X.K g is f
structure JGs (X : Cx) (tg : List Expr) (is : List Nat) (f : List Val → Rho → Option Rho) : Prop where
  ex : ∃ g, PGs X tg g ∧ NTs X.K g is f
def gN (i : Nat) (v : Val) (ρ : Rho) : Option Rho := some (ρ.set i (some v))
def gT (n : Nat) (f : List Val → Rho → Option Rho) (v : Val) (ρ : Rho) : Option Rho := match asTup v with
  | some ds => if ds.length = n then f (ds.map Val.d) ρ else none
  | none => none
def gsNil (vs : List Val) (ρ : Rho) : Option Rho := match vs with
  | [] => some ρ
  | _ => none
def gsCons (f : Val → Rho → Option Rho) (fs : List Val → Rho → Option Rho) (vs : List Val) (ρ : Rho) : Option Rho := match vs with
  | v :: r => (f v ρ).bind fun ρ => fs r ρ
  | [] => none
theorem nt_name {K : PySem.W.Frag} (i : Nat) : NT K (gName i) [i] (gN i) := fun w ρ ρ' σ H x v Q rr rx e k => by
  cases e
  refine k _ (by simp) (fun j hj => ?_) (rr.set i rx)
  rw [List.getElem?_set_ne (fun z => hj (by simp [z]))]
theorem nts_nil {K : PySem.W.Frag} : NTs K gNil [] gsNil := fun w ρ ρ' σ H xs vs Q rr rx e k => by
  cases rx with
  | nil =>
    cases e
    exact ⟨rfl, k σ rfl (fun _ _ => rfl) rr⟩
  | cons _ _ => cases e
theorem nts_cons {K : PySem.W.Frag} {g : TG} {gs : TGs} {is js : List Nat} {f : Val → Rho → Option Rho} {fs : List Val → Rho → Option Rho} (h : NT K g is f) (hs : NTs K gs js fs) : NTs K (gCons g gs) (is ++ js) (gsCons f fs) := fun w ρ ρ' σ H xs vs Q rr rx e k => by
  cases rx with
  | nil => cases e
  | cons r1 r2 =>
    rename_i x xs v vs
    have e' : (f v ρ).bind (fun ρ => fs vs ρ) = some ρ' := e
    obtain ⟨ρ1, e1, e2⟩ := Option.bind_eq_some_iff.mp e'
    refine ⟨x, xs, rfl, h w ρ ρ1 σ H x v _ rr r1 e1 fun σ1 l1 o1 rr1 => ?_⟩
    refine hs w ρ1 ρ' σ1 H xs vs Q rr1 r2 e2 fun σ2 l2 o2 rr2 => k σ2 (l2.trans l1) (fun i hi => ?_) rr2
    rw [o2 i (fun z => hi (List.mem_append_right _ z)), o1 i (fun z => hi (List.mem_append_left _ z))]
theorem nt_tup {K : PySem.W.Frag} {gs : TGs} {is : List Nat} {n : Nat} {fs : List Val → Rho → Option Rho} (hs : NTs K gs is fs) : NT K (gTup K n gs) is (gT n fs) := fun w ρ ρ' σ H x v Q rr rx e k => by
  unfold gT at e
  split at e
  · rename_i ds ed
    split at e
    · rename_i hl
      obtain ⟨a, xs, rfl, h1, h2⟩ := asTup_rep rx ed
      exact ⟨a, xs, rfl, h1, by rw [h2.length]; exact hl, hs w ρ ρ' σ H xs _ Q rr (reps_vals h2) e k⟩
    · cases e
  · cases e
section
variable {X : Cx} {pos : Pos}
theorem jg_name {i : Nat} {x : Str} (hN : X.N.Nodup) (hi : X.N[i]? = some x) (hx : Loc X.env.scope x) (hf : X.fn x = true ∨ X.env.scope.names.lookup x = some .local := by first | exact .inl rfl | exact .inr rfl | assumption) : JG X (.Name x pos) [i] (gN i) := ⟨_, pg_name hN hi hx hf, nt_name i⟩
theorem jgs_nil : JGs X [] [] gsNil := ⟨_, pgs_nil, nts_nil⟩
theorem jgs_cons {e : Expr} {es : List Expr} {is js : List Nat} {f : Val → Rho → Option Rho} {fs : List Val → Rho → Option Rho} (h1 : JG X e is f) (h2 : JGs X es js fs) (hs : (assignEach (e :: es) X.env).map (·.2) = assign e X.env :: (assignEach es X.env).map (·.2) := by rfl) : JGs X (e :: es) (is ++ js) (gsCons f fs) := by
  obtain ⟨g, a, b⟩ := h1.ex
  obtain ⟨gs, c, d⟩ := h2.ex
  exact ⟨_, pgs_cons a c hs, nts_cons b d⟩
theorem jg_tup {es : List Expr} {k n : Nat} {is : List Nat} {fs : List Val → Rho → Option Rho} (hc : X.calm = true) (h : JGs X es is fs) (hn : (assignEach es X.env).length = n := by rfl) (hst : (assignEach es X.env).findIdx? (·.1) = none := by rfl) : JG X (.Tuple es k pos) is (gT n fs) := by
  obtain ⟨gs, c, d⟩ := h.ex
  exact ⟨_, pg_tup hc c hn hst, nt_tup d⟩
end
def oS (o : Option Rho) (t : T) : RS := match o with
  | some ρ => .nx ρ t
  | none => .stuck
def sAsg (f : Val → Rho → Option Rho) (m : ME Val) : MS := fun ρ t => (m ρ t).toS ρ fun v t => oS (f v ρ) t
theorem js_asg {X : Cx} {W : WX} {tg e : Expr} {is : List Nat} {f : Val → Rho → Option Rho} {m : ME Val} {pos : Pos} (hg : JG X tg is f) (he : JE X W e m) (hs : swapsWithSole [tg] e pos.line X.env = pure false := by rfl) (hw : swappedStores [tg] e X.env = pure none := by rfl)
    (h1 : (assignEach [tg] X.env).map (·.2) = [assign tg X.env] := by rfl) : JS X W (.Assign [tg] e pos) (sAsg f m) := by
  obtain ⟨g, pg, nt⟩ := hg.ex
  refine PS.imp (ps_asg he pg hs hw h1) fun D σ H ⟨w, ρ, t, rt, rr, p⟩ => ?_
  refine ⟨w, ρ, t, rt, rr, PostE.imp (PostS.expr rr p) fun w1 H1 v t1 e1 s1 r1 q x rx => ?_⟩
  have q1 := q t1 e1
  unfold oS at q1
  split at q1
  · rename_i ρ' ef
    exact nt w1 ρ ρ' σ H1 x v _ (rr.mono s1) rx ef fun σ' _ _ rr' => q1 w1 H1 σ' (Step.refl _ _) r1 rr'
  · exact q1.elim
def sAsgT (fs : List Val → Rho → Option Rho) (n : Nat) (m : ME (List Val)) : MS := fun ρ t => (m ρ t).toS ρ fun vs t => if vs.length = n ∧ n ≤ lim then oS (fs vs ρ) t else .stuck
theorem js_asgT {X : Cx} {W : WX} {es vs : List Expr} {is : List Nat} {fs : List Val → Rho → Option Rho} {m : ME (List Val)} {kt k2 n : Nat} {pt pt2 pos : Pos} (hc : X.calm = true) (hg : JGs X es is fs) (he : JA X W vs m)
    (hs : swapsWithSole [.Tuple es kt pt] (.Tuple vs k2 pt2) pos.line X.env = pure false := by rfl) (hw : swappedStores [.Tuple es kt pt] (.Tuple vs k2 pt2) X.env = pure none := by rfl)
    (h1 : (assignEach [.Tuple es kt pt] X.env).map (·.2) = [assign (.Tuple es kt pt) X.env] := by rfl) (hn : (assignEach es X.env).length = n := by rfl) (hst : (assignEach es X.env).findIdx? (·.1) = none := by rfl) : JS X W (.Assign [.Tuple es kt pt] (.Tuple vs k2 pt2) pos) (sAsgT fs n m) := by
  obtain ⟨g, pg, nt⟩ := hg.ex
  refine PS.imp (ps_asg (pe_tup he) (pg_tup hc pg hn hst) hs hw h1) fun D σ H ⟨w, ρ, t, rt, rr, p⟩ => ?_
  refine ⟨w, ρ, t, rt, rr, PostE.imp (PostS.expr rr p) fun w1 H1 v t1 e1 s1 r1 q xs rx => ?_⟩
  have q1 := q t1 e1
  split at q1
  · rename_i hl
    unfold oS at q1
    split at q1
    · rename_i ρ' ef
      refine ⟨by rw [rx.length, hl.1]; exact lim_ok hl.2, fun a ha => ⟨a, xs, rfl, SqT.of upd_same, by rw [rx.length]; exact hl.1, ?_⟩⟩
      have s2 := step_new (o := .tup xs) r1 ha
      exact nt w1 ρ ρ' σ _ xs v _ ((rr.mono s1).mono s2) (rx.mono s2) ef fun σ' _ _ rr' => q1 w1 _ σ' s2 (r1.new ha) rr'
    · exact q1.elim
  · exact q1.elim
def sPar (i j : Nat) (m : ME (List Val)) : MS := fun ρ t => (m ρ t).toS ρ fun vs t => match vs with
  | [u, v] => .nx ((ρ.set i (some u)).set j (some v)) t
  | _ => .stuck
theorem js_par {X : Cx} {W : WX} {i j : Nat} {x y : Str} {a b : Expr} {m : ME (List Val)} {px py pt pt2 pos : Pos} {kt k2 : Nat} (hc : X.calm = true) (hN : X.N.Nodup) (ha : JA X W [a, b] m) (hi : X.N[i]? = some x := by rfl) (hj : X.N[j]? = some y := by rfl) (hij : i ≠ j := by decide)
    (hx : X.env.scope.names.lookup x = some .local := by rfl) (hy : X.env.scope.names.lookup y = some .local := by rfl)
    (hw : swappedStores [.Tuple [.Name x px, .Name y py] kt pt] (.Tuple [a, b] k2 pt2) X.env = pure (some [x, y]) := by rfl)
    (hs : swapsWithSole [.Tuple [.Name x px, .Name y py] kt pt] (.Tuple [a, b] k2 pt2) pos.line X.env = pure false := by rfl) :
    JS X W (.Assign [.Tuple [.Name x px, .Name y py] kt pt] (.Tuple [a, b] k2 pt2) pos) (sPar i j m) :=
  PS.imp (ps_par hc hN hi hj hij hx hy ha hw hs) fun D σ H ⟨w, ρ, t, rt, rr, p⟩ => by
    refine ⟨w, ρ, t, rt, rr, PostE.imp (PostS.expr rr p) fun w1 H1 v t1 e1 s1 r1 q xs rx => ?_⟩
    have q1 := q t1 e1
    split at q1
    · cases rx with
      | cons ra rb =>
        cases rb with
        | cons rb rc =>
          cases rc
          exact ⟨_, _, rfl, q1 w1 H1 _ (Step.refl _ _) r1 (((rr.mono s1).set i ra).set j rb)⟩
    · exact q1.elim
def sPar3 (i j l : Nat) (m : ME (List Val)) : MS := fun ρ t => (m ρ t).toS ρ fun vs t => match vs with
  | [u, v, z] => .nx (((ρ.set i (some u)).set j (some v)).set l (some z)) t
  | _ => .stuck
theorem js_par3 {X : Cx} {W : WX} {i j l : Nat} {x y z : Str} {a b c : Expr} {m : ME (List Val)} {px py pz pt pt2 pos : Pos} {kt k2 : Nat} (hc : X.calm = true) (hN : X.N.Nodup) (ha : JA X W [a, b, c] m) (hi : X.N[i]? = some x := by rfl) (hj : X.N[j]? = some y := by rfl) (hl : X.N[l]? = some z := by rfl)
    (hij : i ≠ j := by decide) (hil : i ≠ l := by decide) (hjl : j ≠ l := by decide)
    (hx : X.env.scope.names.lookup x = some .local := by rfl) (hy : X.env.scope.names.lookup y = some .local := by rfl) (hz : X.env.scope.names.lookup z = some .local := by rfl)
    (hw : swappedStores [.Tuple [.Name x px, .Name y py, .Name z pz] kt pt] (.Tuple [a, b, c] k2 pt2) X.env = pure (some [x, y, z]) := by rfl)
    (hs : swapsWithSole [.Tuple [.Name x px, .Name y py, .Name z pz] kt pt] (.Tuple [a, b, c] k2 pt2) pos.line X.env = pure false := by rfl) :
    JS X W (.Assign [.Tuple [.Name x px, .Name y py, .Name z pz] kt pt] (.Tuple [a, b, c] k2 pt2) pos) (sPar3 i j l m) :=
  PS.imp (ps_par3 hc hN hi hj hl hij hil hjl hx hy hz ha hw hs) fun D σ H ⟨w, ρ, t, rt, rr, p⟩ => by
    refine ⟨w, ρ, t, rt, rr, PostE.imp (PostS.expr rr p) fun w1 H1 v t1 e1 s1 r1 q xs rx => ?_⟩
    have q1 := q t1 e1
    split at q1
    · cases rx with
      | cons ra rb =>
        cases rb with
        | cons rb rc =>
          cases rc with
          | cons rc rd =>
            cases rd
            exact ⟨_, _, _, rfl, q1 w1 H1 _ (Step.refl _ _) r1 ((((rr.mono s1).set i ra).set j rb).set l rc)⟩
    · exact q1.elim

structure ItOk (K : PySem.W.Frag) (w : Wd) (H : Hp) (J : It) (vs : List Val) : Prop where
  go : ∀ (i : Nat) (v : Val) (w' : Wd) (H' : Hp) (t' : T), vs[i]? = some v → Ex (Fz w H) (Fz w' H') → RelT K w' t' H' → J.go i H' ∧ ∀ x H'', J.yld i H' x H'' → (H'' = H' ∨ ∃ T o, H' T = none ∧ H'' = upd H' T o) ∧ RepV K w' H'' x v
  stop : ∀ (w' : Wd) (H' : Hp) (t' : T), Ex (Fz w H) (Fz w' H') → RelT K w' t' H' → J.stop vs.length H'
def tMI (K : PySem.W.Frag) (W : WX) (m : ME (List Val)) : TI := fun σ H R => ∃ w ρ t, RelT K w t H ∧ RelR K w ρ σ H ∧ PostE K W σ w H (fun w' H' vs => ∀ J, ItOk K w' H' J vs → R J H') (m ρ t)
def JI (X : Cx) (W : WX) (tg iter : Expr) (m : ME (List Val)) : Prop := PI X tg iter (tMI X.K W m)
theorem PI.imp {X : Cx} {tg e : Expr} {t t' : TI} (h : PI X tg e t) (k : ∀ σ H R, t' σ H R → t σ H R) : PI X tg e t' := ⟨fun pins s σ H R I q => h.run pins s σ H R I (k σ H R q)⟩
theorem pi_or {X : Cx} {tg e : Expr} {t t' : TI} (h : PI X tg e t) (h' : PI X tg e t') : PI X tg e (fun σ H R => t σ H R ∨ t' σ H R) := ⟨fun pins s σ H R I q => by
  rcases q with q | q
  · exact h.run pins s σ H R I q
  · exact h'.run pins s σ H R I q⟩
theorem ItOk.seqL {K : PySem.W.Frag} {w : Wd} {H : Hp} {a : Addr} {xs : List V} {ds : List D} (h : Fz w H a = some (.lst xs)) (hs : Reps K (Fz w H) xs ds) : ItOk K w H (Itl K a) (ds.map Val.d) where
  go := fun i v w' H' t' e s r => by
    have h' := (Fz.of (s _ _ h)).1
    have hs' := reps_vals (hs.mono s)
    obtain ⟨x, ex, rx⟩ := hs'.get e
    refine ⟨⟨xs, x, SqL.of h', ex⟩, fun y H'' q => ?_⟩
    obtain ⟨rfl, q⟩ := q
    have ey := q xs (SqL.of h')
    rw [ex] at ey
    cases ey
    exact ⟨.inl rfl, rx⟩
  stop := fun w' H' t' s r => ⟨xs, SqL.of (Fz.of (s _ _ h)).1, by rw [hs.length]; simp⟩
theorem ItOk.seqT {K : PySem.W.Frag} {w : Wd} {H : Hp} {a : Addr} {xs : List V} {ds : List D} (h : SqT K (Fz w H) a xs) (hs : Reps K (Fz w H) xs ds) : ItOk K w H (Itt K a) (ds.map Val.d) where
  go := fun i v w' H' t' e s r => by
    have h' : SqT K H' a xs := Fz.ex.sqT (s.sqT h)
    have hs' := reps_vals (hs.mono s)
    obtain ⟨x, ex, rx⟩ := hs'.get e
    refine ⟨⟨xs, x, h', ex⟩, fun y H'' q => ?_⟩
    obtain ⟨rfl, q⟩ := q
    have ey := q xs h'
    rw [ex] at ey
    cases ey
    exact ⟨.inl rfl, rx⟩
  stop := fun w' H' t' s r => ⟨xs, Fz.ex.sqT (s.sqT h), by rw [hs.length]; simp⟩
theorem ItOk.script {K : PySem.W.Frag} {w : Wd} {H : Hp} {a : Addr} {ns : List Int} (h : SqL K (Fz w H) a (ns.map V.int)) : ItOk K w H (Itl K a) (ns.map fun n => .d (.int n)) where
  go := fun i v w' H' t' e s r => by
    have h' : SqL K H' a (ns.map V.int) := Fz.ex.sqL (s.sqL h)
    rw [List.getElem?_map] at e
    obtain ⟨n, en, ev⟩ := Option.map_eq_some_iff.mp e
    have ex : (ns.map V.int)[i]? = some (V.int n) := by rw [List.getElem?_map, en]; rfl
    refine ⟨⟨_, V.int n, h', ex⟩, fun y H'' q => ?_⟩
    obtain ⟨rfl, q⟩ := q
    have ey := q _ h'
    rw [ex] at ey
    cases ey
    subst ev
    exact ⟨.inl rfl, Rep.int _⟩
  stop := fun w' H' t' s r => ⟨_, Fz.ex.sqL (s.sqL h), by simp⟩
def chars (x : Str) : List Val := x.cps.toList.map fun c => .d (.str ⟨#[c]⟩)
theorem ItOk.text {K : PySem.W.Frag} {w : Wd} {H : Hp} {x : Str} : ItOk K w H (Its x) (chars x) where
  go := fun i v w' H' t' e s r => by
    unfold chars at e
    rw [List.getElem?_map] at e
    obtain ⟨c, ec, ev⟩ := Option.map_eq_some_iff.mp e
    have hi : i < x.cps.size := by
      have := (List.getElem?_eq_some_iff.mp ec).1
      simpa using this
    refine ⟨hi, fun y H'' q => ?_⟩
    obtain ⟨rfl, c', ec', rfl⟩ := q
    have e2 : x.cps.toList[i]? = some c' := by simpa using ec'
    rw [ec] at e2
    cases e2
    subst ev
    exact ⟨.inl rfl, Rep.str _⟩
  stop := fun w' H' t' s r => by
    show x.cps.size ≤ (chars x).length
    unfold chars
    simp
def intsV (lo : Int) (n : Nat) : List Val := (List.range n).map fun (i : Nat) => Val.d (.int (lo + (i : Int)))
theorem ItOk.range {K : PySem.W.Frag} {w : Wd} {H : Hp} {lo : Int} {n : Nat} : ItOk K w H (Itr lo n) (intsV lo n) where
  go := fun i v w' H' t' e s r => by
    unfold intsV at e
    rw [List.getElem?_map] at e
    obtain ⟨c, ec, ev⟩ := Option.map_eq_some_iff.mp e
    have hi : i < n := by
      have := (List.getElem?_eq_some_iff.mp ec).1
      simpa using this
    have ei : c = i := by
      rw [List.getElem?_range hi] at ec
      exact (Option.some.inj ec).symm
    subst ei
    refine ⟨hi, fun y H'' q => ?_⟩
    obtain ⟨rfl, rfl⟩ := q
    subst ev
    exact ⟨.inl rfl, Rep.int _⟩
  stop := fun w' H' t' s r => by
    show n ≤ (intsV lo n).length
    unfold intsV
    simp
def fIter (v : Val) (t : T) : R (List Val) := match v with
  | .d (.str x) => .ok (chars x) t
  | .d (.tup ds) => .ok (ds.map Val.d) t
  | .d (.scr ns) => .ok (ns.map fun n => .d (.int n)) t
  | v => (fFreeze v t).bind fun v t => match v with
    | .d (.lst ds) => .ok (ds.map Val.d) t
    | _ => .stuck
theorem ji_val {X : Cx} {W : WX} {tg e : Expr} {m : ME Val} (h : JE X W e m) : JI X W tg e (m1 fIter m) :=
  PI.imp (pi_or (pi_str (tg := tg) h) (pi_or (pi_tup (tg := tg) h) (pi_list (tg := tg) h))) fun σ H R ⟨w, ρ, t, rt, rr, p⟩ => by
    have p2 := PostE.bind p
    cases em : m ρ t with
    | stuck => rw [em] at p2; exact p2.elim
    | exc x tx =>
      refine .inl ⟨w, ρ, t, rt, rr, ?_⟩
      rw [em] at p2 ⊢
      exact p2
    | ok v tv =>
      have kind : (∃ s, v = .d (.str s)) ∨ (∃ ds, v = .d (.tup ds)) ∨ ((∀ s, v ≠ .d (.str s)) ∧ ∀ ds, v ≠ .d (.tup ds)) := by
        cases v with
        | box => exact .inr (.inr ⟨fun _ z => (nomatch z), fun _ z => (nomatch z)⟩)
        | loc n => exact .inr (.inr ⟨fun _ z => (nomatch z), fun _ z => (nomatch z)⟩)
        | d d =>
          cases d with
          | str s => exact .inl ⟨s, rfl⟩
          | tup ds => exact .inr (.inl ⟨ds, rfl⟩)
          | _ => exact .inr (.inr ⟨fun _ z => (nomatch z), fun _ z => (nomatch z)⟩)
      rcases kind with ⟨s, rfl⟩ | ⟨ds, rfl⟩ | ⟨n1, n2⟩
      · refine .inl ⟨w, ρ, t, rt, rr, PostE.imp p2 fun w1 H1 v t1 e1 s1 r1 q x rx => ?_⟩
        rw [em] at e1
        cases e1
        cases rx
        exact ⟨s, rfl, (q tv em r1).here r1 _ ItOk.text⟩
      · refine .inr (.inl ⟨w, ρ, t, rt, rr, PostE.imp p2 fun w1 H1 v t1 e1 s1 r1 q x rx => ?_⟩)
        rw [em] at e1
        cases e1
        have rx' : Rep X.K (Fz w1 H1) x (.tup ds) := rx
        cases rx' with
        | tup h hs => exact ⟨_, rfl, ⟨_, Fz.ex.sqT h⟩, (q tv em r1).here r1 _ (ItOk.seqT h hs)⟩
      · refine .inr (.inr ⟨w, ρ, t, rt, rr, PostE.imp p2 fun w1 H1 v' t1 e1 s1 r1 q x rx => ?_⟩)
        rw [em] at e1
        cases e1
        have q1 := q tv em r1
        unfold fIter at q1
        split at q1
        · exact absurd rfl (n1 _)
        · exact absurd rfl (n2 _)
        · rename_i ns
          have rx' : Rep X.K (Fz w1 H1) x (.scr ns) := rx
          cases rx' with
          | scr h => exact ⟨_, rfl, ⟨_, Fz.ex.sqL h⟩, q1.here r1 _ (ItOk.script h)⟩
        · obtain ⟨d, w2, t2, s2, r2, rd, q2⟩ := fFreeze_ok r1 rx q1
          split at q2
          · rename_i ds ed
            cases ed
            cases rd with
            | lst h hs => exact ⟨_, rfl, ⟨_, SqL.of (Fz.of h).1⟩, q2.here r2 _ (ItOk.seqL h hs)⟩
          · exact q2.elim
def big (i : Int) : Bool := decide (i.natAbs < 4611686018427387904)
theorem big_ok {i : Int} (h : big i = true) : -(2 ^ 62) ≤ i ∧ i < 2 ^ 62 := by
  have h1 : i.natAbs < 4611686018427387904 := of_decide_eq_true h
  omega
def fRange1 (vs : List Val) (t : T) : R (List Val) := match vs with
  | [.d (.int j)] => if big j then .ok (intsV 0 j.toNat) t else .stuck
  | _ => .stuck
def fRange2 (vs : List Val) (t : T) : R (List Val) := match vs with
  | [.d (.int i), .d (.int j)] => if big i && big j then .ok (intsV i (j - i).toNat) t else .stuck
  | _ => .stuck
theorem ji_range1 {X : Cx} {W : WX} {tg a : Expr} {m : ME (List Val)} {p pos : Pos} (hm : X.mg "range" = none) (ha : JA X W [a] m) (hg : Gl X "range" := by rfl) (hs : starEach [a] X.env = [(false, eval a X.env)] := by rfl) : JI X W tg (.Call (.Name "range" p) [a] [] pos) (mL fRange1 m) :=
  PI.imp (pi_range1 hg hm ha hs) fun σ H R ⟨w, ρ, t, rt, rr, p⟩ => by
    refine ⟨w, ρ, t, rt, rr, PostE.imp (PostE.bind p) fun w1 H1 v t1 e1 s1 r1 q xs rx => ?_⟩
    have q1 := q t1 e1 r1
    unfold fRange1 at q1
    split at q1
    · cases rx with
      | cons ra rb =>
        cases ra
        cases rb
        split at q1
        · rename_i hb
          obtain ⟨h1, h2⟩ := big_ok hb
          exact ⟨_, rfl, h1, h2, q1.here r1 _ ItOk.range⟩
        · exact q1.elim
    · exact q1.elim
theorem ji_range2 {X : Cx} {W : WX} {tg a b : Expr} {m : ME (List Val)} {p pos : Pos} (hm : X.mg "range" = none) (ha : JA X W [a, b] m) (hg : Gl X "range" := by rfl) (hs : starEach [a, b] X.env = [(false, eval a X.env), (false, eval b X.env)] := by rfl) (hs2 : starEach [b] X.env = [(false, eval b X.env)] := by rfl) : JI X W tg (.Call (.Name "range" p) [a, b] [] pos) (mL fRange2 m) :=
  PI.imp (pi_range2 hg hm ha hs hs2) fun σ H R ⟨w, ρ, t, rt, rr, p⟩ => by
    refine ⟨w, ρ, t, rt, rr, PostE.imp (PostE.bind p) fun w1 H1 v t1 e1 s1 r1 q xs rx => ?_⟩
    have q1 := q t1 e1 r1
    unfold fRange2 at q1
    split at q1
    · cases rx with
      | cons ra rb =>
        cases ra
        cases rb with
        | cons rb rc =>
          cases rb
          cases rc
          split at q1
          · rename_i hb
            obtain ⟨hb1, hb2⟩ := Bool.and_eq_true_iff.mp hb
            obtain ⟨h1, h2⟩ := big_ok hb1
            obtain ⟨h3, h4⟩ := big_ok hb2
            exact ⟨_, _, rfl, ⟨h1, h2, h3, h4⟩, q1.here r1 _ ItOk.range⟩
          · exact q1.elim
    · exact q1.elim

def turnS (r : RS) (f : Rho → T → RS) : RS := match r with
  | .nx ρ t => f ρ t
  | .ct ρ t => f ρ t
  | .bk ρ t => .nx ρ t
  | r => r
def forM (f : Val → Rho → Option Rho) (b : MS) : List Val → Rho → T → RS
  | [], ρ, t => .nx ρ t
  | v :: vs, ρ, t => match f v ρ with
    | none => .stuck
    | some ρ => turnS (b ρ t) (forM f b vs)
def sFor (f : Val → Rho → Option Rho) (mi : ME (List Val)) (b : MS) : MS := fun ρ t => (mi ρ t).toS ρ fun vs t => forM f b vs ρ t
theorem PostS.turn {K : PySem.W.Frag} {W : WX} {w : Wd} {H : Hp} {D : Ends} {N : L2.St → Hp → Prop} {r : RS} {f : Rho → T → RS}
    (h : ∀ ρ t, (r = .nx ρ t ∨ r = .ct ρ t) → ∀ w' H' σ', Step w H w' H' → RelT K w' t H' → RelR K w' ρ σ' H' → N σ' H')
    (k : PostS K W w H D (turnS r f)) : PostS K W w H { D with nx := N, ct := N, bk := D.nx } r := by
  cases r with
  | nx ρ t => exact h ρ t (.inl rfl)
  | ct ρ t => exact h ρ t (.inr rfl)
  | bk ρ t => exact k
  | rt v t => exact k
  | exc x ρ t => exact k
  | stuck => exact k
theorem js_for {X : Cx} {W : WX} {tg iter : Expr} {body : List Stmt} {is : List Nat} {f : Val → Rho → Option Rho} {mi : ME (List Val)} {b : MS} {pos : Pos} (hp : PassesOwn (model X.prog X.w) X.A X.env X.xe) (hc : X.calm = true) (hi : JI X W tg iter mi) (hg : JG X tg is f) (hb : JSs X W body b)
    (hs : ∀ x, foldedSetIterable iter X.env x = pure x := by intro _; rfl) : JS X W (.For tg iter body [] pos) (sFor f mi b) := by
  obtain ⟨g, pg, nt⟩ := hg.ex
  refine PS.imp (ps_for hp hc hi pg hb hs) fun D σ H ⟨w, ρ, t, rt, rr, p⟩ => ?_
  refine ⟨w, ρ, t, rt, rr, PostE.imp (PostS.expr rr p) fun w1 H1 vs t1 e1 s1 r1 q J ok => ?_⟩
  have q1 := q t1 e1
  refine ⟨fun i m σ' H' => m = vs.length - i ∧ i ≤ vs.length ∧ ∃ w' ρ' t', Step w1 H1 w' H' ∧ RelT X.K w' t' H' ∧ RelR X.K w' ρ' σ' H' ∧ PostS X.K W w' H' D (forM f b (vs.drop i) ρ' t'), ⟨_, rfl, Nat.zero_le _, w1, ρ, t1, Step.refl _ _, r1, rr.mono s1, by simpa using q1⟩, ?_⟩
  rintro i m σ' H' ⟨rfl, hi, w', ρ', t', s', r', rr', pp⟩
  by_cases hl : i < vs.length
  · right
    have ed : vs.drop i = vs[i] :: vs.drop (i + 1) := List.drop_eq_getElem_cons hl
    rw [ed] at pp
    unfold forM at pp
    obtain ⟨hg1, hy⟩ := ok.go i vs[i] w' H' t' (List.getElem?_eq_getElem hl) s'.fz r'
    refine ⟨hg1, fun σ2 H2 => ∃ m', m' < vs.length - i ∧ (m' = vs.length - (i + 1) ∧ i + 1 ≤ vs.length ∧ ∃ w2 ρ2 t2, Step w1 H1 w2 H2 ∧ RelT X.K w2 t2 H2 ∧ RelR X.K w2 ρ2 σ2 H2 ∧ PostS X.K W w2 H2 D (forM f b (vs.drop (i + 1)) ρ2 t2)), fun σ2 H2 h => h, fun x H'' hx => ?_⟩
    obtain ⟨hy1, vy⟩ := hy x H'' hx
    obtain ⟨sy, ry⟩ : Step w' H' w' H'' ∧ RelT X.K w' t' H'' := by
      rcases hy1 with rfl | ⟨T, o, hT, rfl⟩
      · exact ⟨Step.refl _ _, r'⟩
      · exact ⟨step_new r' hT, r'.new hT⟩
    split at pp
    · exact pp.elim
    · rename_i ρ3 ef
      refine nt w' ρ' ρ3 σ' H'' x vs[i] _ (rr'.mono sy) vy ef fun σ3 _ _ rr3 => ?_
      refine ⟨w', ρ3, t', ry, rr3, PostS.turn (f := forM f b (vs.drop (i + 1))) (fun ρ4 t4 h4 w4 H4 σ4 s4 r4 rr4 => ?_) (PostS.from sy pp)⟩
      refine ⟨_, by omega, rfl, hl, w4, ρ4, t4, s'.trans (sy.trans s4), r4, rr4, PostS.from (sy.trans s4) ?_⟩
      rcases h4 with h4 | h4 <;> (rw [h4] at pp; exact pp)
  · left
    have ei : i = vs.length := Nat.le_antisymm hi (Nat.le_of_not_lt hl)
    subst ei
    rw [List.drop_length] at pp
    exact ⟨ok.stop w' H' t' s'.fz r', pp w' H' σ' (Step.refl _ _) r' rr'⟩

def whileM (c : ME Bool) (b : MS) : Nat → Rho → T → RS
  | 0, _, _ => .stuck
  | n + 1, ρ, t => (c ρ t).toS ρ fun k t => if k then turnS (b ρ t) (whileM c b n) else .nx ρ t
theorem js_while {X : Cx} {W : WX} {c : Expr} {body : List Stmt} {mc : ME Bool} {b : MS} {pos : Pos} (n : Nat) (hp : PassesOwn (model X.prog X.w) X.A X.env X.xe) (hc : JT X W c mc) (hb : JSs X W body b) : JS X W (.While c body [] pos) (whileM mc b n) := by
  refine PS.imp (ps_while hp hc hb) fun D σ H ⟨w, ρ, t, rt, rr, p⟩ => ?_
  refine ⟨fun m σ' H' => ∃ w' ρ' t', RelT X.K w' t' H' ∧ RelR X.K w' ρ' σ' H' ∧ PostS X.K W w' H' D (whileM mc b m ρ' t'), ⟨n, w, ρ, t, rt, rr, p⟩, ?_⟩
  rintro m σ' H' ⟨w', ρ', t', r', rr', pp⟩
  cases m with
  | zero => exact pp.elim
  | succ m =>
    unfold whileM at pp
    refine ⟨w', ρ', t', r', rr', PostE.imp (PostS.expr rr' pp) fun w1 H1 k t1 e1 s1 r1 q => ?_⟩
    have q1 := q t1 e1
    cases k with
    | false => exact iteF (q1 w1 H1 σ' (Step.refl _ _) r1 (rr'.mono s1))
    | true =>
      refine iteT ⟨fun σ2 H2 => ∃ m', m' < m + 1 ∧ ∃ w2 ρ2 t2, RelT X.K w2 t2 H2 ∧ RelR X.K w2 ρ2 σ2 H2 ∧ PostS X.K W w2 H2 D (whileM mc b m' ρ2 t2), fun _ _ h => h, ?_⟩
      refine ⟨w1, ρ', t1, r1, rr'.mono s1, PostS.turn (f := whileM mc b m) (fun ρ4 t4 h4 w4 H4 σ4 s4 r4 rr4 => ?_) q1⟩
      refine ⟨m, Nat.lt_succ_self m, w4, ρ4, t4, r4, rr4, PostS.from s4 ?_⟩
      have q2 : PostS X.K W w1 H1 D (turnS (b ρ' t1) (whileM mc b m)) := q1
      rcases h4 with h4 | h4 <;> (rw [h4] at q2; exact q2)
end En
set_option Elab.async false
set_option linter.all false
set_option maxRecDepth 100000
set_option maxHeartbeats 1000000
set_option autoImplicit false
namespace En
open PySem PySem.Spec PyProof.Rows L2

open Classical in
noncomputable def rem (H : Hp) (D : Addr) : Hp := fun a => if a = D then none else H a
theorem rem_ne {H : Hp} {D a : Addr} (h : a ≠ D) : rem H D a = H a := if_neg h
theorem rem_self {H : Hp} {D : Addr} : rem H D D = none := if_pos rfl
theorem rem_some {H : Hp} {D a : Addr} {o : HO} (h : rem H D a = some o) : a ≠ D ∧ H a = some o := by
  by_cases e : a = D
  · rw [e, rem_self] at h; cases h
  · exact ⟨e, by rw [rem_ne e] at h; exact h⟩
theorem rem_upd {H : Hp} {D : Addr} {o : HO} : rem (upd H D o) D = rem H D := by
  funext a
  by_cases e : a = D
  · rw [e, rem_self, rem_self]
  · rw [rem_ne e, rem_ne e, upd_ne e]
theorem upd_rem {H : Hp} {D : Addr} {o : HO} (h : H D = some o) : upd (rem H D) D o = H := by
  funext a
  by_cases e : a = D
  · rw [e, upd_same, h]
  · rw [upd_ne e, rem_ne e]
theorem rem_none {H : Hp} {D : Addr} (h : H D = none) : rem H D = H := by
  funext a
  by_cases e : a = D
  · rw [e, rem_self, h]
  · rw [rem_ne e]
def Wd.hide (w : Wd) (D : Addr) : Wd := { w with hid := D :: w.hid }
theorem Fz.hide {w : Wd} {H : Hp} {D : Addr} : Fz (w.hide D) H = Fz w (rem H D) := by
  funext a
  unfold Fz
  by_cases e : a = D
  · subst e
    rw [if_pos (show (w.hide a).mut a from .inl (List.mem_cons_self ..)), rem_self]
    split <;> rfl
  · rw [rem_ne e]
    by_cases m : w.mut a
    · rw [if_pos m, if_pos (show (w.hide D).mut a from m.elim (fun z => .inl (List.mem_cons_of_mem _ z)) .inr)]
    · rw [if_neg m, if_neg (show ¬ (w.hide D).mut a from fun z => m (z.elim (fun z => (List.mem_cons.mp z).elim (fun z => absurd z e) .inl) .inr))]
section
variable {K : PySem.W.Frag} {w : Wd} {t : T} {H : Hp} {D : Addr}
theorem RepV.hide {x : V} {v : Val} : RepV K (w.hide D) H x v ↔ RepV K w (rem H D) x v := by
  cases v with
  | d d => show Rep K (Fz (w.hide D) H) x d ↔ Rep K (Fz w (rem H D)) x d; rw [Fz.hide]
  | loc n => exact Iff.rfl
  | box => exact Iff.rfl
theorem RepVs.hide {xs : List V} {vs : List Val} : RepVs K (w.hide D) H xs vs ↔ RepVs K w (rem H D) xs vs := by
  constructor
  · intro h
    induction h with
    | nil => exact .nil
    | cons h _ ih => exact .cons (RepV.hide.mp h) ih
  · intro h
    induction h with
    | nil => exact .nil
    | cons h _ ih => exact .cons (RepV.hide.mpr h) ih
theorem RepVK.hide {κ : Type} {xs : List (κ × V)} {vs : List (κ × Val)} : RepVK K (w.hide D) H xs vs ↔ RepVK K w (rem H D) xs vs := by
  constructor
  · intro h
    induction h with
    | nil => exact .nil
    | cons h _ ih => exact .cons (RepV.hide.mp h) ih
  · intro h
    induction h with
    | nil => exact .nil
    | cons h _ ih => exact .cons (RepV.hide.mpr h) ih
theorem CellOk.hide {a : Addr} {c : Cell} (n : a ≠ D) : CellOk K (w.hide D) H a c ↔ CellOk K w (rem H D) a c := by
  cases c with
  | dead => exact Iff.rfl
  | lst vs => unfold CellOk; dsimp only; rw [rem_ne n]; exact exists_congr fun xs => and_congr Iff.rfl RepVs.hide
  | ins c fs => unfold CellOk; dsimp only; rw [rem_ne n]; exact exists_congr fun dx => exists_congr fun xs => and_congr Iff.rfl RepVK.hide
  | dK kvs => unfold CellOk; dsimp only; rw [rem_ne n]; exact exists_congr fun xs => and_congr Iff.rfl RepVK.hide
  | dT kvs => unfold CellOk; dsimp only; rw [rem_ne n, Fz.hide]; exact exists_congr fun o => exists_congr fun es => exists_congr fun ep => exists_congr fun xs => and_congr Iff.rfl (and_congr Iff.rfl (and_congr Iff.rfl RepVK.hide))
theorem BoxOk.rem {b : Box} {x l : Addr} (h : BoxOk (rem H D) b x l) : x ≠ D ∧ l ≠ D ∧ BoxOk H b x l := ⟨(rem_some h.2).1, (rem_some h.1).1, (rem_some h.1).2, (rem_some h.2).2⟩
theorem RelT.hide {o : HO} (r : RelT K w t (rem H D)) (h : H D = some o) : RelT K (w.hide D) t H where
  hidn := fun a ha => by
    rcases List.mem_cons.mp ha with e | ha
    · subst e; exact ⟨o, h⟩
    · obtain ⟨u, e⟩ := r.hidn a ha
      exact ⟨u, (rem_some e).2⟩
  len := r.len
  inj := r.inj
  out := fun a ha => by
    obtain ⟨h1, h2⟩ := r.out a ha
    refine ⟨fun z => ?_, h2⟩
    rcases List.mem_cons.mp z with e | z
    · obtain ⟨n, hn⟩ := List.getElem?_of_mem ha
      obtain ⟨c, _, ok⟩ := r.live hn
      obtain ⟨u, eu⟩ := ok.some
      exact (rem_some eu).1 e
    · exact h1 z
  cell := fun n c e => by
    rcases r.cell n c e with q | ⟨a, ha, ok⟩
    · exact .inl q
    · obtain ⟨u, eu⟩ := ok.some
      exact .inr ⟨a, ha, (CellOk.hide (rem_some eu).1).mpr ok⟩
  bon := r.bon
  box := fun b l e => by
    obtain ⟨h1, h2, h3, h4⟩ := r.box b l e
    obtain ⟨n1, n2, h5⟩ := h4.rem
    exact ⟨h1, fun z => (List.mem_cons.mp z).elim n1 h2, fun z => (List.mem_cons.mp z).elim n2 h3, h5⟩
theorem RelT.unhide (r : RelT K (w.hide D) t H) (hn : ∀ a ∈ w.hid, a ≠ D) : RelT K w t (rem H D) where
  hidn := fun a ha => by
    obtain ⟨u, e⟩ := r.hidn a (List.mem_cons_of_mem _ ha)
    exact ⟨u, by rw [rem_ne (hn a ha)]; exact e⟩
  len := r.len
  inj := r.inj
  out := fun a ha => by
    obtain ⟨h1, h2⟩ := r.out a ha
    exact ⟨fun z => h1 (List.mem_cons_of_mem _ z), h2⟩
  cell := fun n c e => by
    rcases r.cell n c e with q | ⟨a, ha, ok⟩
    · exact .inl q
    · exact .inr ⟨a, ha, (CellOk.hide (fun z => (r.out a (List.mem_of_getElem? ha)).1 (by rw [z]; exact List.mem_cons_self ..))).mp ok⟩
  bon := r.bon
  box := fun b l e => by
    obtain ⟨h1, h2, h3, h4⟩ := r.box b l e
    have n1 : b ≠ D := fun z => h2 (by rw [z]; exact List.mem_cons_self ..)
    have n2 : l ≠ D := fun z => h3 (by rw [z]; exact List.mem_cons_self ..)
    exact ⟨h1, fun z => h2 (List.mem_cons_of_mem _ z), fun z => h3 (List.mem_cons_of_mem _ z), h4.mono (rem_ne n2) (rem_ne n1)⟩
theorem Step.unhide {w' : Wd} {H' : Hp} (s : Step (w.hide D) H w' H') : ∃ w2 : Wd, w' = w2.hide D ∧ Step w (rem H D) w2 (rem H' D) := by
  obtain ⟨hid', as', bx'⟩ := w'
  have eh : hid' = D :: w.hid := s.hid
  subst eh
  refine ⟨⟨w.hid, as', bx'⟩, rfl, rfl, ?_, s.len, s.old, fun n a h e => ?_, s.bx, fun h b l e => ?_, fun a o h n => ?_, fun a o h => ?_⟩
  · have q := s.fz
    rw [Fz.hide, show (⟨D :: w.hid, as', bx'⟩ : Wd) = (⟨w.hid, as', bx'⟩ : Wd).hide D from rfl, Fz.hide] at q
    exact q
  · have q := s.new n a h e
    by_cases ea : a = D
    · rw [ea, rem_self]
    · rw [rem_ne ea]; exact q
  · obtain ⟨q1, q2⟩ := s.bnew h b l e
    refine ⟨?_, ?_⟩
    · by_cases ea : b = D
      · rw [ea, rem_self]
      · rw [rem_ne ea]; exact q1
    · by_cases ea : l = D
      · rw [ea, rem_self]
      · rw [rem_ne ea]; exact q2
  · obtain ⟨na, h⟩ := rem_some h
    rw [rem_ne na]
    exact s.keep a o h n
  · obtain ⟨na, h⟩ := rem_some h
    obtain ⟨o', e⟩ := s.there a o h
    exact ⟨o', by rw [rem_ne na]; exact e⟩
end

def wipeR (ρ : Rho) : List Nat → Rho
  | [] => ρ
  | v :: vs => (wipeR ρ vs).set v none
theorem RelR.wipe {K : PySem.W.Frag} {w : Wd} {H : Hp} {ρ : Rho} {σ : L2.St} (h : RelR K w ρ σ H) : ∀ vs : List Nat, RelR K w (wipeR ρ vs) (L2.wipe σ vs) H
  | [] => h
  | v :: vs => by
    have ih := RelR.wipe h vs
    refine ⟨by show ((wipeR ρ vs).set v none).length = ((L2.wipe σ vs).set v none).length; simp [ih.len], fun i u e => ?_⟩
    have e' : ((wipeR ρ vs).set v none)[i]? = some (some u) := e
    by_cases hv : v = i
    · subst hv
      have hl := (List.getElem?_eq_some_iff.mp e').1
      rw [List.length_set] at hl
      rw [List.getElem?_set_self hl] at e'
      cases e'
    · rw [List.getElem?_set_ne hv] at e'
      obtain ⟨x, e1, r⟩ := ih.at_ i u e'
      refine ⟨x, ?_, r⟩
      show ((L2.wipe σ vs).set v none)[i]? = _
      rw [List.getElem?_set_ne hv]
      exact e1
theorem wipe_get {σ : L2.St} {i : Nat} : ∀ {vs : List Nat}, (L2.wipe σ vs)[i]? = if i ∈ vs then (if i < σ.length then some none else none) else σ[i]?
  | [] => by simp [L2.wipe]
  | v :: vs => by
    have ih := wipe_get (σ := σ) (i := i) (vs := vs)
    unfold L2.wipe
    by_cases hv : v = i
    · subst hv
      rw [if_pos (List.mem_cons_self ..)]
      by_cases hl : v < σ.length
      · rw [if_pos hl, List.getElem?_set_self (by rw [L2.wipe_length]; exact hl)]
      · rw [if_neg hl, List.getElem?_eq_none_iff.mpr]
        rw [List.length_set, L2.wipe_length]
        exact Nat.le_of_not_lt hl
    · rw [List.getElem?_set_ne hv, ih]
      by_cases hm : i ∈ vs
      · rw [if_pos hm, if_pos (List.mem_cons_of_mem _ hm)]
      · rw [if_neg hm, if_neg (fun z => (List.mem_cons.mp z).elim (fun z => hv z.symm) hm)]
theorem wipe_same {σ σ' : L2.St} {is vs : List Nat} (hl : σ'.length = (L2.wipe σ vs).length) (ho : ∀ i : Nat, i ∉ is → σ'[i]? = (L2.wipe σ vs)[i]?) (hs : ∀ i ∈ is, i ∈ vs) : L2.wipe σ' vs = L2.wipe σ vs := by
  rw [L2.wipe_length] at hl
  apply List.ext_getElem?
  intro i
  rw [wipe_get, wipe_get]
  by_cases hm : i ∈ vs
  · rw [if_pos hm, if_pos hm, hl]
  · rw [if_neg hm, if_neg hm, ho i (fun z => hm (hs i z)), wipe_get, if_neg hm]
def R.bindN {α β : Type} (r : R α) (f : α → T → R β) : R β := match r with
  | .ok a t => f a t
  | _ => .stuck
abbrev W0 : WX := fun _ _ _ _ => False
def lcM (f : Val → Rho → Option Rho) (tt : ME Bool) (te : ME Val) (ρ : Rho) : List Val → List Val → T → R (List Val)
  | [], acc, t => .ok acc t
  | v :: vs, acc, t => match f v ρ with
    | none => .stuck
    | some ρ1 => (tt ρ1 t).bindN fun k t => if k then (te ρ1 t).bindN fun y t => if acc.length < lim then lcM f tt te ρ vs (acc ++ [y]) t else .stuck else lcM f tt te ρ vs acc t
def mLc (own : List Nat) (f : Val → Rho → Option Rho) (mi : ME (List Val)) (tt : ME Bool) (te : ME Val) : ME (List Val) := fun ρ t => (mi ρ t).bind fun vs t => lcM f tt te (wipeR ρ own) vs [] t
theorem PostE.bindN {K : PySem.W.Frag} {σ : L2.St} {α β : Type} {w : Wd} {H : Hp} {r : R α} {f : α → T → R β} (Q : R β → Prop) (hq : ¬ Q .stuck) (h : Q (r.bindN f)) : PostE K W0 σ w H (fun w1 H1 a => ∀ t, r = .ok a t → Q (f a t)) r := by
  cases r with
  | stuck => exact hq h
  | exc x t => exact (hq h).elim
  | ok a t =>
    intro w1 H1 s1 r1 t' et
    cases et
    exact h
theorem tlc_sim {K : PySem.W.Frag} {W : WX} {g : TG} {is own : List Nat} {f : Val → Rho → Option Rho} {mi : ME (List Val)} {tt : ME Bool} {te : ME Val} (nt : NT K g is f) (hs : ∀ i ∈ is, i ∈ own) :
    ∀ σ H Q, tML K W (mLc own f mi tt te) σ H Q → tLc (tMI K W mi) g (tMT K W0 tt) (tM K W0 te) own σ H Q := fun σ H Q ⟨w, ρ, t, rt, rr, p⟩ => by
  refine ⟨w, ρ, t, rt, rr, PostE.imp (PostE.bind p) fun w1 H1 vs t1 e1 s1 r1 q J ok D hD => ?_⟩
  have q1 := q t1 e1 r1
  have stk : ∀ (w' : Wd) (H' : Hp), ¬ PostE K W σ w' H' (fun w' H' vs => ∀ p xs, H' p = none → RepVs K w' H' xs vs → Q (.ref p) (upd H' p (.lst xs))) .stuck := fun _ _ z => z
  refine ⟨fun i m H' => m = vs.length - i ∧ i ≤ vs.length ∧ ∃ w' t' acc xs, Step w1 H1 w' (rem H' D) ∧ RelT K w' t' (rem H' D) ∧ H' D = some (.lst xs) ∧ RepVs K w' (rem H' D) xs acc ∧
    PostE K W σ w' (rem H' D) (fun w' H' vs => ∀ p xs, H' p = none → RepVs K w' H' xs vs → Q (.ref p) (upd H' p (.lst xs))) (lcM f tt te (wipeR ρ own) (vs.drop i) acc t'), ?_, ?_⟩
  · refine ⟨_, rfl, Nat.zero_le _, w1, t1, [], [], ?_⟩
    rw [rem_upd, rem_none hD]
    exact ⟨Step.refl _ _, r1, upd_same, .nil, by simpa using q1⟩
  · rintro i m H' ⟨rfl, hi, w', t', acc, xs, s', r', hx, rx, pp⟩
    have eu := upd_rem hx
    have rfull : RelT K w' t' H' := by rw [← eu]; exact r'.new rem_self
    have sfull : Step w' (rem H' D) w' H' := by
      have z := step_new (o := .lst xs) r' (p := D) rem_self
      rw [eu] at z
      exact z
    by_cases hl : i < vs.length
    · right
      have ed : vs.drop i = vs[i] :: vs.drop (i + 1) := List.drop_eq_getElem_cons hl
      rw [ed] at pp
      have rh : RelT K (w'.hide D) t' H' := r'.hide hx
      have exh : Ex (Fz w1 H1) (Fz (w'.hide D) H') := by rw [Fz.hide]; exact s'.fz
      obtain ⟨hg1, hy⟩ := ok.go i vs[i] (w'.hide D) H' t' (List.getElem?_eq_getElem hl) exh rh
      unfold lcM at pp
      refine ⟨hg1, fun H2 => ∃ m', m' < vs.length - i ∧ (m' = vs.length - (i + 1) ∧ i + 1 ≤ vs.length ∧ ∃ w' t' acc xs, Step w1 H1 w' (rem H2 D) ∧ RelT K w' t' (rem H2 D) ∧ H2 D = some (.lst xs) ∧ RepVs K w' (rem H2 D) xs acc ∧
        PostE K W σ w' (rem H2 D) (fun w' H' vs => ∀ p xs, H' p = none → RepVs K w' H' xs vs → Q (.ref p) (upd H' p (.lst xs))) (lcM f tt te (wipeR ρ own) (vs.drop (i + 1)) acc t')), fun _ h => h, fun x H'' hyx => ?_⟩
      obtain ⟨hy1, vy⟩ := hy x H'' hyx
      obtain ⟨sy, ry⟩ : Step (w'.hide D) H' (w'.hide D) H'' ∧ RelT K (w'.hide D) t' H'' := by
        rcases hy1 with rfl | ⟨T, o, hT, rfl⟩
        · exact ⟨Step.refl _ _, rh⟩
        · exact ⟨step_new rh hT, rh.new hT⟩
      split at pp
      · exact pp.elim
      · rename_i ρ1 ef
        have rrw : RelR K (w'.hide D) (wipeR ρ own) (L2.wipe σ own) H'' := by
          have z : RelR K w' ρ σ (rem H' D) := (rr.mono s1).mono s'
          have z2 : RelR K (w'.hide D) ρ σ H' := ⟨z.len, fun j v e => let ⟨y, e1, r⟩ := z.at_ j v e; ⟨y, e1, RepV.hide.mpr r⟩⟩
          exact (z2.mono sy).wipe own
        refine nt (w'.hide D) (wipeR ρ own) ρ1 (L2.wipe σ own) H'' x vs[i] _ rrw vy ef fun σ2 hl2 ho2 rr2 => ?_
        refine ⟨wipe_same hl2 ho2 hs, ?_⟩
        refine ⟨w'.hide D, ρ1, t', ry, rr2, PostE.imp (PostE.bindN (fun r => PostE K W σ w' (rem H' D) _ r) (stk _ _) pp) fun w3 H3 k t3 e3 s3 r3 q3 => ?_⟩
        have q4 := q3 t3 e3
        obtain ⟨w3', rfl, s3'⟩ := (sy.trans s3).unhide
        have hnD : ∀ a ∈ w3'.hid, a ≠ D := fun a ha => by
          rw [s3'.hid] at ha
          intro z
          obtain ⟨o, eo⟩ := r'.hidn a ha
          rw [z, rem_self] at eo; cases eo
        have r3' : RelT K w3' t3 (rem H3 D) := r3.unhide hnD
        have hD3 : H3 D = some (.lst xs) := (sy.trans s3).keep D _ hx fun z => by
          rcases z with z | z
          · obtain ⟨b, l, e, z⟩ := z
            obtain ⟨_, n1, n2, _⟩ := rh.box b l e
            rcases z with rfl | rfl
            · exact n1 (List.mem_cons_self ..)
            · exact n2 (List.mem_cons_self ..)
          · exact (rh.out D z).1 (List.mem_cons_self ..)
        cases k with
        | false =>
          refine iteF ⟨_, by omega, rfl, hl, w3', t3, acc, xs, s'.trans s3', r3', hD3, rx.mono s3', ?_⟩
          have z : PostE K W σ w' (rem H' D) (fun w' H' vs => ∀ p xs, H' p = none → RepVs K w' H' xs vs → Q (.ref p) (upd H' p (.lst xs))) (lcM f tt te (wipeR ρ own) (vs.drop (i + 1)) acc t3) := q4
          revert z
          cases lcM f tt te (wipeR ρ own) (vs.drop (i + 1)) acc t3 with
          | stuck => exact fun z => z
          | ok b tb => exact fun z w5 H5 s5 r5 => z w5 H5 (s3'.trans s5) r5
          | exc b tb => exact fun z w5 H5 cls d s5 r5 => z w5 H5 cls d (s3'.trans s5) r5
        | true =>
          refine iteT ?_
          refine ⟨w3'.hide D, ρ1, t3, r3, rr2.mono s3, PostE.imp (PostE.bindN (fun r => PostE K W σ w' (rem H' D) _ r) (stk _ _) q4) fun w5 H5 y t5 e5 s5 r5 q5 yv ry5 => ?_⟩
          have q6 := q5 t5 e5
          split at q6
          · rename_i hlen
            obtain ⟨w5', rfl, s5'⟩ := s5.unhide
            have hnD5 : ∀ a ∈ w5'.hid, a ≠ D := fun a ha => hnD a (by rw [← s5'.hid]; exact ha)
            have r5' : RelT K w5' t5 (rem H5 D) := r5.unhide hnD5
            have hD5 : H5 D = some (.lst xs) := s5.keep D _ hD3 fun z => by
              rcases z with z | z
              · obtain ⟨b, l, e, z⟩ := z
                obtain ⟨_, n1, n2, _⟩ := r3.box b l e
                rcases z with rfl | rfl
                · exact n1 (List.mem_cons_self ..)
                · exact n2 (List.mem_cons_self ..)
              · exact (r3.out D z).1 (List.mem_cons_self ..)
            refine ⟨xs, hD5, by rw [rx.length]; exact lim_lt hlen, _, by omega, rfl, hl, w5', t5, acc ++ [y], xs ++ [yv], ?_⟩
            rw [rem_upd]
            refine ⟨s'.trans (s3'.trans s5'), r5', upd_same, (rx.mono (s3'.trans s5')).app (.cons (RepV.hide.mp ry5) .nil), ?_⟩
            revert q6
            cases lcM f tt te (wipeR ρ own) (vs.drop (i + 1)) (acc ++ [y]) t5 with
            | stuck => exact fun z => z
            | ok b tb => exact fun z w6 H6 s6 r6 => z w6 H6 ((s3'.trans s5').trans s6) r6
            | exc b tb => exact fun z w6 H6 cls d s6 r6 => z w6 H6 cls d ((s3'.trans s5').trans s6) r6
          · exact q6.elim
    · left
      have ei : i = vs.length := Nat.le_antisymm hi (Nat.le_of_not_lt hl)
      subst ei
      rw [List.drop_length] at pp
      have exh : Ex (Fz w1 H1) (Fz (w'.hide D) H') := by rw [Fz.hide]; exact s'.fz
      refine ⟨ok.stop (w'.hide D) H' t' exh (r'.hide hx), ?_⟩
      have z : Q (.ref D) (upd (rem H' D) D (.lst xs)) := pp w' (rem H' D) (Step.refl _ _) r' D xs rem_self rx
      rw [eu] at z
      exact z
theorem ofL_sim {K : PySem.W.Frag} {W : WX} {m : ME (List Val)} : ∀ σ H Q, tM K W (mL fFz m) σ H Q → tML K W m σ H Q := fun σ H Q ⟨w, ρ, t, rt, rr, p⟩ => by
  refine ⟨w, ρ, t, rt, rr, PostE.imp (PostE.bind p) fun w1 H1 v t1 e1 s1 r1 q1 a xs ha rx => ?_⟩
  have q := q1 t1 e1 r1
  unfold fFz at q
  split at q
  · rename_i ds ed
    exact new_lst r1 (datas_rep ed rx) q a ha
  · exact q.elim
theorem new_sim {K : PySem.W.Frag} {W : WX} {m : ME (List Val)} : ∀ σ H Q, tM K W (mL fNew m) σ H Q → tML K W m σ H Q := fun σ H Q ⟨w, ρ, t, rt, rr, p⟩ => by
  refine ⟨w, ρ, t, rt, rr, PostE.imp (PostE.bind p) fun w1 H1 v t1 e1 s1 r1 q1 a xs ha rx => ?_⟩
  have q := q1 t1 e1 r1
  have ok : CellOk K (w1.add a) (upd H1 a (.lst xs)) a (.lst v) := ⟨xs, upd_same, rx.mono (step_add r1 ha)⟩
  exact q (w1.add a) _ (step_add r1 ha) (r1.add ha ok) _ (.inr ⟨a, by rw [← r1.len]; exact add_last w1 a, rfl⟩)
def JTs (X : Cx) (W : WX) (es : List Expr) (m : ME Bool) : Prop := PTs X es (tMT X.K W m)
def mYes : ME Bool := fun _ t => .ok true t
theorem PTs.imp {X : Cx} {e : List Expr} {t t' : TT} (h : PTs X e t) (k : ∀ σ H Q, t' σ H Q → t σ H Q) : PTs X e t' := ⟨fun pins s σ H Q I q => h.run pins s σ H Q I (k σ H Q q)⟩
theorem jts_nil {X : Cx} {W : WX} : JTs X W [] mYes := PTs.imp pts_nil fun σ H Q ⟨w, ρ, t, rt, rr, p⟩ => p.here rt
theorem jts_one {X : Cx} {W : WX} {c : Expr} {m : ME Bool} (h : JT X W c m) : JTs X W [c] m := pts_one h
theorem jl_lc {X : Cx} {W : WX} {elt tg iter : Expr} {ifs : List Expr} {scope : Scope} {pos : Pos} (own : List (Str × Nat)) {is : List Nat} {f : Val → Rho → Option Rho} {mi : ME (List Val)} {tt : ME Bool} {te : ME Val} (hc : X.calm = true) (hN : X.N.Nodup) (hi : JI X W tg iter mi) (ok : BlkOk X.N X.env.scope scope own)
    (hg : ∃ g, NT X.K g is f ∧ ∀ (s : Shared) (H : Hp) (C : Addr) (cl : List (Str × Addr)) (fp : List Addr), PG (X.blk s H scope (compEnvC scope cl C X.env) fp) tg g)
    (ht : ∀ (s : Shared) (H : Hp) (C : Addr) (cl : List (Str × Addr)) (fp : List Addr), JTs (X.blk s H scope (compEnvC scope cl C X.env) fp) W0 ifs tt)
    (he : ∀ (s : Shared) (H : Hp) (C : Addr) (cl : List (Str × Addr)) (fp : List Addr), JE (X.blk s H scope (compEnvC scope cl C X.env) fp) W0 elt te)
    (ho : ∀ i ∈ is, i ∈ own.map (·.2) := by decide) (hs : ∀ x, foldedSetIterable iter X.env x = pure x := by intro _; rfl) : JL X W (.ListComp elt [⟨tg, iter, ifs, 0⟩] scope pos) (mLc (own.map (·.2)) f mi tt te) := by
  obtain ⟨g, nt, pg⟩ := hg
  exact PE.imp (pe_lc (tt := tMT X.K W0 tt) (te := tM X.K W0 te) hc hN hi ok pg ht he hs) (tlc_sim nt ho)
theorem js_setLc {X : Cx} {W : WX} {i : Nat} {y : Str} {py : Pos} {elt tg iter : Expr} {ifs : List Expr} {scope : Scope} {pos spos : Pos} (own : List (Str × Nat)) {is : List Nat} {f : Val → Rho → Option Rho} {mi : ME (List Val)} {tt : ME Bool} {te : ME Val} (nw : Bool) (hc : X.calm = true) (hN : X.N.Nodup) (hy : X.N[i]? = some y) (hyl : X.env.scope.names.lookup y = some .local)
    (hsw : swapsWith (.ListComp elt [⟨tg, iter, ifs, 0⟩] scope pos) (some (.Name y py)) spos.line X.env = pure true) (hi : JI X W tg iter mi) (ok : BlkOk X.N X.env.scope scope own)
    (hg : ∃ g, NT X.K g is f ∧ ∀ (s : Shared) (H : Hp) (C : Addr) (cl : List (Str × Addr)) (fp : List Addr), PG (X.blk s H scope (compEnvC scope cl C X.env) fp) tg g)
    (ht : ∀ (s : Shared) (H : Hp) (C : Addr) (cl : List (Str × Addr)) (fp : List Addr), JTs (X.blk s H scope (compEnvC scope cl C X.env) fp) W0 ifs tt)
    (he : ∀ (s : Shared) (H : Hp) (C : Addr) (cl : List (Str × Addr)) (fp : List Addr), JE (X.blk s H scope (compEnvC scope cl C X.env) fp) W0 elt te)
    (ho : ∀ i ∈ is, i ∈ own.map (·.2) := by decide) (hs : ∀ x, foldedSetIterable iter X.env x = pure x := by intro _; rfl) :
    JS X W (.Assign [.Name y py] (.ListComp elt [⟨tg, iter, ifs, 0⟩] scope pos) spos) (sSet i (mL (if nw then fNew else fFz) (mLc (own.map (·.2)) f mi tt te))) := by
  obtain ⟨g, nt, pg⟩ := hg
  refine PS.imp (ps_setLc (i := i) (tt := tMT X.K W0 tt) (te := tM X.K W0 te) hc hN hy hyl hsw hi ok pg ht he hs) fun D σ H h => ?_
  refine tlc_sim (W := W) nt ho σ H _ ?_
  have z : tM X.K W (mL (if nw then fNew else fFz) (mLc (own.map (·.2)) f mi tt te)) σ H (fun x H1 => D.nx (σ.set i (some x)) H1) := by
    obtain ⟨w, ρ, t, rt, rr, p⟩ := h
    exact ⟨w, ρ, t, rt, rr, PostE.imp (PostS.expr rr p) fun w1 H1 v t1 e1 s1 r1 q x rx => q t1 e1 w1 H1 _ (Step.refl _ _) r1 ((rr.mono s1).set i rx)⟩
  cases nw with
  | true => exact new_sim σ H _ z
  | false => exact ofL_sim σ H _ z
end En
set_option Elab.async false
set_option linter.all false
set_option maxRecDepth 100000
set_option maxHeartbeats 1000000
set_option autoImplicit false
namespace En
open PySem PySem.Spec PyProof.Rows L2

abbrev MF := List Val → Box → R Val
def argOk : Val → Bool
  | .d _ => true
  | .box => true
  | .loc _ => false
def runG (n : Nat) (ms : MS) (vs : List Val) (t : T) : R Val := match ms (vs.map some ++ List.replicate (n - vs.length) none) t with
  | .rt v t => .ok v t
  | .nx _ t => .ok (.d .non) t
  | .exc x _ t => .exc x t
  | _ => .stuck
def runF (n : Nat) (ms : MS) : MF := fun vs b => runG n ms vs ⟨[], b⟩
def PostF (K : PySem.W.Frag) (w : Wd) (H : Hp) (Q : VK) (E : XK) : R Val → Prop
  | .ok v t => ∀ w' H' x, Step w H w' H' → RelT K w' t H' → RepV K w' H' x v → Q x H'
  | .exc x t => ∀ w' H' cls d, Step w H w' H' → RelT K w' t H' → ExcRep K (Fz w' H') cls d x → E cls d H'
  | .stuck => False
def spF (K : PySem.W.Frag) (n : Nat) (mf : MF) : Sp := fun vs H Q E => ∃ (w : Wd) (b : Box) (us : List Val), vs.length = n ∧ w.as = [] ∧ RelT K w ⟨[], b⟩ H ∧ RepVs K w H vs us ∧ PostF K w H Q E (mf us b)
def spG (K : PySem.W.Frag) (n : Nat) (mg : List Val → T → R Val) : Sp := fun vs H Q E => ∃ (w : Wd) (t : T) (us : List Val), vs.length = n ∧ RelT K w t H ∧ RepVs K w H vs us ∧ PostF K w H Q E (mg us t)
def Wd.inner (w : Wd) : Wd := ⟨w.hid ++ w.as.filterMap id, [], w.bx⟩
theorem inner_mem {w : Wd} {a : Addr} : a ∈ w.as.filterMap id ↔ some a ∈ w.as := by
  simp [List.mem_filterMap]
theorem inner_mut {w : Wd} {a : Addr} : w.inner.mut a ↔ w.mut a := by
  constructor
  · rintro (z | z | z)
    · rcases List.mem_append.mp z with z | z
      · exact .inl z
      · exact .inr (.inr (inner_mem.mp z))
    · exact .inr (.inl z)
    · exact absurd (show some a ∈ ([] : List (Option Addr)) from z) (by simp)
  · rintro (z | z | z)
    · exact .inl (List.mem_append_left _ z)
    · exact .inr (.inl z)
    · exact .inl (List.mem_append_right _ (inner_mem.mpr z))
theorem inner_fz {w : Wd} {H : Hp} : Fz w.inner H = Fz w H := by
  funext a
  unfold Fz
  by_cases m : w.mut a
  · rw [if_pos m, if_pos (inner_mut.mpr m)]
  · rw [if_neg m, if_neg (fun z => m (inner_mut.mp z))]
section
variable {K : PySem.W.Frag} {w : Wd} {t : T} {H : Hp}
theorem RelT.inner (r : RelT K w t H) : RelT K w.inner ⟨[], t.b⟩ H where
  hidn := fun a ha => by
    rcases List.mem_append.mp ha with z | z
    · exact r.hidn a z
    · obtain ⟨n, hn⟩ := List.getElem?_of_mem (inner_mem.mp z)
      obtain ⟨c, _, ok⟩ := r.live hn
      exact ok.some
  len := rfl
  inj := fun i j a h => by have h' : ([] : List (Option Addr))[i]? = some (some a) := h; simp at h'
  out := fun a h => by have h' : some a ∈ ([] : List (Option Addr)) := h; simp at h'
  cell := fun n c e => by have h' : ([] : List Cell)[n]? = some c := e; simp at h'
  bon := r.bon
  box := fun b l e => by
    obtain ⟨h1, h2, h3, h4⟩ := r.box b l e
    refine ⟨h1, fun z => ?_, fun z => ?_, h4⟩
    · rcases List.mem_append.mp z with z | z
      · exact h2 z
      · exact (r.out b (inner_mem.mp z)).2 ⟨b, l, e, .inl rfl⟩
    · rcases List.mem_append.mp z with z | z
      · exact h3 z
      · exact (r.out l (inner_mem.mp z)).2 ⟨b, l, e, .inr rfl⟩
theorem RepV.inner {x : V} {v : Val} (ok : argOk v = true) (h : RepV K w H x v) : RepV K w.inner H x v := by
  cases v with
  | d d => show Rep K (Fz w.inner H) x d; rw [inner_fz]; exact h
  | box => exact h
  | loc n => cases ok
theorem RepVs.inner {xs : List V} {vs : List Val} (ok : vs.all argOk = true) (h : RepVs K w H xs vs) : RepVs K w.inner H xs vs := by
  induction h with
  | nil => exact .nil
  | cons h _ ih =>
    rw [List.all_cons] at ok
    obtain ⟨o1, o2⟩ := Bool.and_eq_true_iff.mp ok
    exact .cons (h.inner o1) (ih o2)
theorem Step.outer {w' : Wd} {H' : Hp} (r : RelT K w t H) (s : Step w.inner H w' H') : Step w H w H' ∧ Ex (Fz w' H') (Fz w H') := by
  have sub : ∀ a, w.mut a → (∃ o, H a = some o) → w'.mut a := fun a m he => by
    rcases inner_mut.mpr m with z | z | z
    · exact .inl (by rw [s.hid]; exact z)
    · obtain ⟨b, l, e, z⟩ := z
      exact .inr (.inl ⟨b, l, s.bx _ e, z⟩)
    · exact absurd (show some a ∈ ([] : List (Option Addr)) from z) (by simp)
  have there : ∀ a, w.mut a → ∃ o, H a = some o := fun a m => by
    cases h : H a with
    | none => exact absurd m (r.mutn h)
    | some o => exact ⟨o, rfl⟩
  have ex : Ex (Fz w' H') (Fz w H') := fun a o e => by
    obtain ⟨h1, h2⟩ := Fz.of e
    exact Fz.to h1 fun m => h2 (sub a m (there a m))
  refine ⟨⟨rfl, fun a o e => ?_, Nat.le_refl _, fun _ _ _ h => h, fun n a h e => absurd (as_len e) (Nat.not_lt.mpr h), fun _ h => h, fun h b l e => (by rw [h] at e; cases e), fun a o h n => s.keep a o h fun z => ?_, s.there⟩, ex⟩
  · rw [← inner_fz] at e
    exact ex a o (s.fz a o e)
  · rcases z with z | z
    · exact n (.inl z)
    · exact absurd (show some a ∈ ([] : List (Option Addr)) from z) (by simp)
theorem RelT.outer {w' : Wd} {H' : Hp} {t' : T} (r : RelT K w t H) (s : Step w.inner H w' H') (r' : RelT K w' t' H') (hon : t'.b.on = t.b.on) : RelT K w { t with b := t'.b } H' where
  hidn := fun a ha => by
    obtain ⟨o, e⟩ := r.hidn a ha
    exact s.there a o e
  len := r.len
  inj := r.inj
  out := r.out
  cell := fun n c e => by
    rcases r.cell n c e with q | ⟨a, ha, ok⟩
    · exact .inl q
    · obtain ⟨u, eu⟩ := ok.some
      have ek : H' a = H a := by
        rw [eu]
        refine s.keep a u eu fun z => ?_
        rcases z with z | z
        · exact (r.out a (List.mem_of_getElem? ha)).2 z
        · exact absurd (show some a ∈ ([] : List (Option Addr)) from z) (by simp)
      exact .inr ⟨a, ha, ok.mono (Step.outer r s).1 ek⟩
  bon := hon.trans r.bon
  box := fun b l e => by
    obtain ⟨h1, h2, h3, _⟩ := r.box b l e
    obtain ⟨_, _, _, h4⟩ := r'.box b l (s.bx _ e)
    exact ⟨h1, h2, h3, h4⟩
end
mutual
theorem Rep.exc {K : PySem.W.Frag} {F F' : Hp} (e : Ex F F') {cls : Value} {d : Option Addr} {x : Exn} (h : ExcRep K F cls d x) : ExcRep K F' cls d x := by
  obtain ⟨h1, h2⟩ := h
  refine ⟨h1, ?_⟩
  rcases h2 with h2 | ⟨dd, xs, e1, e2, e3⟩
  · exact .inl h2
  · exact .inr ⟨dd, xs, e1, e _ _ e2, e3.mono e⟩
end
def fCall (mf : MF) (vs : List Val) (t : T) : R Val := if vs.all argOk then match mf vs t.b with
  | .ok (.d d) t' => if t'.b.on = t.b.on then .ok (.d d) { t with b := t'.b } else .stuck
  | .exc x t' => if t'.b.on = t.b.on then .exc x { t with b := t'.b } else .stuck
  | _ => .stuck
  else .stuck
theorem call_sim {K : PySem.W.Frag} {W : WX} {w : Wd} {t : T} {H : Hp} {σ : L2.St} {xs : List V} {vs : List Val} {n : Nat} {mf : MF} {Q : VK} (hn : xs.length = n) (r : RelT K w t H) (rx : RepVs K w H xs vs) (p : PostE K W σ w H (fun w' H' v => ∀ z, RepV K w' H' z v → Q z H') (fCall mf vs t)) : spF K n mf xs H Q (WE W σ) := by
  unfold fCall at p
  split at p
  · rename_i ok
    refine ⟨w.inner, t.b, vs, hn, rfl, r.inner, rx.inner ok, ?_⟩
    split at p
    · rename_i d t' e
      rw [e]
      split at p
      · rename_i hon
        intro w' H' x s r' rv
        obtain ⟨s1, ex⟩ := Step.outer r s
        exact p w H' s1 (r.outer s r' hon) x (Rep.mono ex rv)
      · exact p.elim
    · rename_i x t' e
      rw [e]
      split at p
      · rename_i hon
        intro w' H' cls dd s r' rv
        obtain ⟨s1, ex⟩ := Step.outer r s
        exact p w H' cls dd s1 (r.outer s r' hon) (Rep.exc ex rv)
      · exact p.elim
    · exact p.elim
  · exact p.elim
section
variable {X : Cx} {W : WX} {k n : Nat} {f : Addr} {fd : FuncData} {ps : List Str} {mf : MF} {x : Str} {p pos : Pos} {e : Expr} {es : List Expr} {m : ME (List Val)}
theorem je_call (F : FnOk X.prog X.w X.K X.mg X.base (L2.CX X.prog X.w) k f fd ps (spF X.K n mf)) (hr : Room k X.A) (hm : X.mg x = some (.ref f)) (hk : PySem.W.keepIn X.K (.ref f) = true) (hb : Binds X.K fd ps []) (tk : Takes X W) (ha : JA X W (e :: es) m) (hl : (e :: es).length = n := by rfl)
    (hg : Gl X x := by rfl) (hdb : (x == ("__debug__" : Str)) = false := by decide) (he : starEach (e :: es) X.env = (false, eval e X.env) :: starEach es X.env := by rfl) (hpl : (backTo pos (starEach es X.env)).any (·.1) = false := by rfl)
    (hla : ∀ ρ t vs t', m ρ t = .ok vs t' → vs.length = n) : JE X W (.Call (.Name x p) (e :: es) [] pos) (mL (fCall mf) m) :=
  PE.imp (pe_callSD (E := WE W) (dvs := []) F hr hg hm hk hb .nil (fun σ => passAt tk σ) ha hdb he hpl) fun σ H Q ⟨w, ρ, t, rt, rr, pp⟩ => by
    refine ⟨w, ρ, t, rt, rr, PostE.imp (PostE.bind pp) fun w1 H1 v t1 e1 s1 r1 q1 xs rx => ?_⟩
    show spF X.K n mf (xs ++ []) H1 Q (WE W σ)
    rw [List.append_nil]
    exact call_sim (by rw [rx.length]; exact hla ρ t v t1 e1) r1 rx (q1 t1 e1 r1)
end
theorem mCons_len {ma : ME Val} {mr : ME (List Val)} {n : Nat} (h : ∀ ρ t vs t', mr ρ t = .ok vs t' → vs.length = n) : ∀ ρ t vs t', mCons ma mr ρ t = .ok vs t' → vs.length = n + 1 := fun ρ t vs t' e => by
  unfold mCons at e
  cases h1 : ma ρ t with
  | stuck => rw [h1] at e; cases e
  | exc x y => rw [h1] at e; cases e
  | ok a t1 =>
    rw [h1] at e
    have e2 : (mr ρ t1).bind (fun xs t => .ok (a :: xs) t) = .ok vs t' := e
    cases h2 : mr ρ t1 with
    | stuck => rw [h2] at e2; cases e2
    | exc x y => rw [h2] at e2; cases e2
    | ok b t2 =>
      rw [h2] at e2
      cases e2
      simp [h ρ t1 b _ h2]
theorem mNil_len : ∀ ρ t vs t', mNil ρ t = .ok vs t' → vs.length = 0 := fun ρ t vs t' e => by
  cases e
  rfl
theorem start_rel {K : PySem.W.Frag} {w : Wd} {H : Hp} {N : List Str} {vs : List V} {us : List Val} (h : RepVs K w H vs us) : RelR K w (us.map some ++ List.replicate (N.length - us.length) none) (L2.start N vs) H := by
  unfold L2.start
  rw [h.length]
  refine ⟨by simp [h.length], fun i v e => ?_⟩
  by_cases hl : i < us.length
  · rw [List.getElem?_append_left (by simpa using hl)] at e
    rw [List.getElem?_map] at e
    obtain ⟨u, e1, e2⟩ := Option.map_eq_some_iff.mp e
    cases e2
    obtain ⟨x, ex, rx⟩ := h.get e1
    refine ⟨x, ?_, rx⟩
    rw [List.getElem?_append_left (by simp [h.length]; exact hl), List.getElem?_map, ex]
    rfl
  · rw [List.getElem?_append_right (by simpa using hl), List.getElem?_replicate] at e
    split at e <;> cases e
theorem jdG {P : Program} {wd : World} {K : PySem.W.Frag} {mg : Str → Option Value} {base : Heap} {x qual : Str} {params : Arguments} {body : List Stmt} {scope : Scope} {dvs : List V} {kws : List (Str × V)} {f : Addr} {fd : FuncData} {N ps : List Str} {k : Nat} {ms : MS}
    (F : FunD K x qual params body scope dvs kws f fd) (S : FnScope N ps scope)
    (hb : ∀ (cdv : Value) (A : Around) (outer : List Env) (s : Shared) (H : Hp) (E : XK), Room k (A.deeper (envOfC qual scope s.heap.objs.size f cdv)) → JSs (cxOf (L2.CX P wd) P wd K mg base N qual scope f cdv A outer s H E) (fun cls d _ H => E cls d H) body ms) :
    FnOk P wd K mg base (L2.CX P wd) (k + 1) f fd ps (spG K ps.length (runG N.length ms)) := by
  refine F.ok S (fun vs H Q E ⟨w, t, us, hl, _⟩ => hl) fun cdv A outer s H vs Q E hr ⟨w, t, us, hl, r, rv, p⟩ => ⟨_, hb cdv A outer s H E hr, ?_⟩
  refine ⟨w, us.map some ++ List.replicate (N.length - us.length) none, t, r, start_rel rv, ?_⟩
  unfold runG at p
  revert p
  cases ms (us.map some ++ List.replicate (N.length - us.length) none) t with
  | nx ρ t => exact fun p w' H' σ' s' r' _ => p w' H' .non s' r' Rep.non
  | rt v t => exact fun p w' H' x s' r' rx => p w' H' x s' r' rx
  | exc x ρ t => exact fun p w' H' σ' cls d s' r' _ ex => p w' H' cls d s' r' ex
  | bk ρ t => exact fun p => p.elim
  | ct ρ t => exact fun p => p.elim
  | stuck => exact fun p => p.elim
theorem jd {P : Program} {wd : World} {K : PySem.W.Frag} {mg : Str → Option Value} {base : Heap} {x qual : Str} {params : Arguments} {body : List Stmt} {scope : Scope} {dvs : List V} {kws : List (Str × V)} {f : Addr} {fd : FuncData} {N ps : List Str} {k : Nat} {ms : MS}
    (F : FunD K x qual params body scope dvs kws f fd) (S : FnScope N ps scope)
    (hb : ∀ (cdv : Value) (A : Around) (outer : List Env) (s : Shared) (H : Hp) (E : XK), Room k (A.deeper (envOfC qual scope s.heap.objs.size f cdv)) → JSs (cxOf (L2.CX P wd) P wd K mg base N qual scope f cdv A outer s H E) (fun cls d _ H => E cls d H) body ms) :
    FnOk P wd K mg base (L2.CX P wd) (k + 1) f fd ps (spF K ps.length (runF N.length ms)) :=
  (jdG F S hb).imp fun vs H Q E ⟨w, b, us, hl, _, r, rv, p⟩ => ⟨w, ⟨[], b⟩, us, hl, r, rv, p⟩
end En
set_option Elab.async false
set_option linter.all false
set_option maxRecDepth 100000
set_option maxHeartbeats 1000000
set_option autoImplicit false
namespace En
open PySem PySem.Spec PyProof.Rows L2

section
variable {K : PySem.W.Frag} {W : WX}
theorem RepVs.one {w : Wd} {H : Hp} {xs : List V} {v : Val} (h : RepVs K w H xs [v]) : ∃ x, xs = [x] ∧ RepV K w H x v := by
  cases h with
  | cons a b => cases b; exact ⟨_, rfl, a⟩
theorem RepVs.two {w : Wd} {H : Hp} {xs : List V} {u v : Val} (h : RepVs K w H xs [u, v]) : ∃ x y, xs = [x, y] ∧ RepV K w H x u ∧ RepV K w H y v := by
  cases h with
  | cons a b =>
    cases b with
    | cons b c => cases c; exact ⟨_, _, rfl, a, b⟩
def fLenB (vs : List Val) (t : T) : R Val := match vs with
  | [.d (.str x)] => if x.length ≤ lim then retI x.length t else .stuck
  | [.d (.scr ns)] => retI ns.length t
  | [v] => match asSeq v t with
    | some us => retI us.length t
    | none => .stuck
  | _ => .stuck
theorem c_len {X : Cx} : CallS X.K W (fun xs H Q => ∃ x n, xs = [x] ∧ LenV X.K x H n ∧ Q (.int n) H) fLenB := by
  intro w t σ H xs vs Q r rx p
  unfold fLenB at p
  split at p
  · obtain ⟨x, rfl, r1⟩ := rx.one
    cases r1
    split at p
    · rename_i hl
      exact ⟨_, _, rfl, ⟨lim_ok hl, rfl⟩, p.here r _ (Rep.int _)⟩
    · exact p.elim
  · rename_i ns
    obtain ⟨x, rfl, r1⟩ := rx.one
    have r1' : Rep X.K (Fz w H) x (.scr ns) := r1
    cases r1' with
    | scr h => exact ⟨_, ns.length, rfl, .inl ⟨_, Fz.ex.sqL h, by simp⟩, p.here r _ (Rep.int _)⟩
  · obtain ⟨x, rfl, r1⟩ := rx.one
    split at p
    · rename_i us eu
      obtain ⟨a, ys, rfl, hq, hs⟩ := asSeq_rep r r1 eu
      refine ⟨_, us.length, rfl, ?_, p.here r _ (Rep.int _)⟩
      rcases hq with hq | hq
      · exact .inl ⟨ys, hq, hs.length.symm⟩
      · exact .inr ⟨ys, hq, hs.length.symm⟩
    · exact p.elim
  · exact p.elim
def b2n (b : Bool) : Int := if b then 1 else 0
def fIntB (vs : List Val) (t : T) : R Val := match vs with
  | [.d (.int i)] => retI i t
  | [.d (.bl b)] => retI (if b then 1 else 0) t
  | [.d (.str x)] => (match PySem.intText? x with
    | some n => if x.length ≤ 640 then retI n t else .stuck
    | none => .stuck)
  | _ => .stuck
def rIntB : List V → Hp → VK → Prop := fun xs H Q => ((∃ i, xs = [.int i] ∧ Q (.int i) H) ∨ ∃ k, xs = [.bl k] ∧ Q (.int (if k then 1 else 0)) H) ∨ ∃ a n, xs = [.str a] ∧ PySem.intText? a = some n ∧ a.length ≤ 640 ∧ Q (.int n) H
theorem call_intB {X : Cx} : CallR X (.type "int") rIntB := CallR.or call_int1 call_int_str
theorem c_int : CallS K W rIntB fIntB := by
  intro w t σ H xs vs Q r rx p
  unfold fIntB at p
  split at p
  · obtain ⟨x, rfl, r1⟩ := rx.one
    cases r1
    exact .inl (.inl ⟨_, rfl, p.here r _ (Rep.int _)⟩)
  · obtain ⟨x, rfl, r1⟩ := rx.one
    cases r1
    exact .inl (.inr ⟨_, rfl, p.here r _ (Rep.int _)⟩)
  · obtain ⟨x, rfl, r1⟩ := rx.one
    cases r1
    split at p
    · rename_i n en
      split at p
      · rename_i hl
        exact .inr ⟨_, n, rfl, en, hl, p.here r _ (Rep.int _)⟩
      · exact p.elim
    · exact p.elim
  · exact p.elim
def fAbs (vs : List Val) (t : T) : R Val := match vs with
  | [.d (.int i)] => retI (if i < 0 then -i else i) t
  | _ => .stuck
def rAbs : List V → Hp → VK → Prop := fun xs H Q => ∃ i, xs = [.int i] ∧ Q (.int (if i < 0 then -i else i)) H
theorem c_abs : CallS K W rAbs fAbs := by
  intro w t σ H xs vs Q r rx p
  unfold fAbs at p
  split at p
  · obtain ⟨x, rfl, r1⟩ := rx.one
    cases r1
    exact ⟨_, rfl, p.here r _ (Rep.int _)⟩
  · exact p.elim
def fMin2 (vs : List Val) (t : T) : R Val := match vs with
  | [.d (.int i), .d (.int j)] => retI (if j < i then j else i) t
  | _ => .stuck
def rMin2 : List V → Hp → VK → Prop := fun xs H Q => ∃ i j, xs = [.int i, .int j] ∧ Q (.int (if j < i then j else i)) H
theorem c_min2 : CallS K W rMin2 fMin2 := by
  intro w t σ H xs vs Q r rx p
  unfold fMin2 at p
  split at p
  · obtain ⟨x, y, rfl, r1, r2⟩ := rx.two
    cases r1; cases r2
    exact ⟨_, _, rfl, p.here r _ (Rep.int _)⟩
  · exact p.elim
def fMax2 (vs : List Val) (t : T) : R Val := match vs with
  | [.d (.int i), .d (.int j)] => retI (if j > i then j else i) t
  | _ => .stuck
def rMax2 : List V → Hp → VK → Prop := fun xs H Q => ∃ i j, xs = [.int i, .int j] ∧ Q (.int (if j > i then j else i)) H
theorem c_max2 : CallS K W rMax2 fMax2 := by
  intro w t σ H xs vs Q r rx p
  unfold fMax2 at p
  split at p
  · obtain ⟨x, y, rfl, r1, r2⟩ := rx.two
    cases r1; cases r2
    exact ⟨_, _, rfl, p.here r _ (Rep.int _)⟩
  · exact p.elim
def fTuple (vs : List Val) (t : T) : R Val := match vs with
  | [.d (.tup ds)] => .ok (.d (.tup ds)) t
  | [v] => match asList v t with
    | some us => match datas us with
      | some ds => .ok (.d (.tup ds)) t
      | none => .stuck
    | none => .stuck
  | _ => .stuck
def rTuple (K : PySem.W.Frag) : List V → Hp → VK → Prop := fun xs H Q => ∃ p ys, xs = [.ref p] ∧ ((SqL K H p ys ∧ ∀ l, H l = none → Q (.ref l) (upd H l (.tup ys))) ∨ (SqT K H p ys ∧ Q (.ref p) H))
theorem c_tuple : CallS K W (rTuple K) fTuple := by
  intro w t σ H xs vs Q r rx p
  unfold fTuple at p
  split at p
  · rename_i ds
    obtain ⟨x, rfl, r1⟩ := rx.one
    obtain ⟨a, us, rfl, h1, h2⟩ := asTup_rep (v := .d (.tup ds)) r1 rfl
    exact ⟨a, us, rfl, .inr ⟨h1, p.here r _ r1⟩⟩
  · obtain ⟨x, rfl, r1⟩ := rx.one
    split at p
    · rename_i us eu
      split at p
      · rename_i ds ed
        obtain ⟨a, ys, rfl, h1, h2⟩ := asList_rep r r1 eu
        exact ⟨a, ys, rfl, .inl ⟨SqL.of h1, new_tup r (datas_rep ed h2) p⟩⟩
      · exact p.elim
    · exact p.elim
  · exact p.elim
def fListL (vs : List Val) (t : T) : R (List Val) := match vs with
  | [.d (.scr ns)] => .ok (ns.map fun n => .d (.int n)) t
  | [v] => match asSeq v t with
    | some us => .ok us t
    | none => .stuck
  | _ => .stuck
theorem repvs_ints {w : Wd} {H : Hp} : ∀ ns : List Int, RepVs K w H (ns.map V.int) (ns.map fun n => .d (.int n))
  | [] => .nil
  | n :: ns => .cons (Rep.int n) (repvs_ints ns)
end
theorem jl_list {X : Cx} {W : WX} {e : Expr} {m : ME (List Val)} {p pos : Pos} (hm : X.mg "list" = none) (ha : JA X W [e] m) (hg : Gl X "list" := by rfl) (he : starEach [e] X.env = (false, eval e X.env) :: starEach [] X.env := by rfl) (hpl : (backTo pos (starEach [] X.env)).any (·.1) = false := by rfl) : JL X W (.Call (.Name "list" p) [e] [] pos) (mL fListL m) :=
  PE.imp (pe_callTy call_list_of hg hm (by decide +kernel) ha (by decide) (by decide) he hpl) fun σ H Q ⟨w, ρ, t, rt, rr, pp⟩ => by
    refine ⟨w, ρ, t, rt, rr, PostE.imp (PostE.bind pp) fun w1 H1 v t1 e1 s1 r1 q1 xs rx => ?_⟩
    have q := q1 t1 e1 r1
    unfold fListL at q
    split at q
    · rename_i ns
      obtain ⟨x, rfl, ra⟩ := rx.one
      have ra' : Rep X.K (Fz w1 H1) x (.scr ns) := ra
      cases ra' with
      | scr h => exact ⟨_, _, rfl, .inl (Fz.ex.sqL h), fun l hl => q.here r1 l _ hl (repvs_ints ns)⟩
    · obtain ⟨x, rfl, ra⟩ := rx.one
      split at q
      · rename_i us eu
        obtain ⟨a, ys, rfl, hq, hs⟩ := asSeq_rep r1 ra eu
        exact ⟨a, ys, rfl, hq, fun l hl => q.here r1 l ys hl hs⟩
      · exact q.elim
    · exact q.elim
def fAddL (a b : Val) (t : T) : R (List Val) := match asList a t, asList b t with
  | some xs, some ys => if xs.length + ys.length ≤ lim then .ok (xs ++ ys) t else .stuck
  | _, _ => .stuck
theorem jl_add {X : Cx} {W : WX} {a b : Expr} {ma mb : ME Val} {pos : Pos} (ha : JE X W a ma) (hb : JE X W b mb) : JL X W (.BinOp a .Add b pos) (m2 fAddL ma mb) :=
  PE.imp (pe_op op_cat ha hb) fun σ H Q ⟨w, ρ, t, rt, rr, p⟩ => by
    refine ⟨w, ρ, t, rt, rr, PostE.imp (PostE.bind p) fun w1 H1 v t1 e1 s1 r1 q1 x rx => ?_⟩
    refine ⟨w1, ρ, t1, r1, rr.mono s1, PostE.imp (PostE.bind (q1 t1 e1 r1)) fun w2 H2 u t2 e2 s2 r2 q2 y ry => ?_⟩
    have q := q2 t2 e2 r2
    unfold fAddL at q
    split at q
    · rename_i xs ys ex ey
      split at q
      · rename_i hl
        obtain ⟨a1, us, rfl, h1, hs1⟩ := asList_rep r2 (rx.mono s2) ex
        obtain ⟨a2, us2, rfl, h2, hs2⟩ := asList_rep r2 ry ey
        exact ⟨a1, a2, us, us2, rfl, rfl, h1, h2, by rw [hs1.length, hs2.length]; exact lim_ok hl, fun l hl => q.here r2 l _ hl (hs1.app hs2)⟩
      · exact q.elim
    · exact q.elim
def fSlL (a : Val) (lo hi : Option Int) (t : T) : R (List Val) := match asList a t with
  | some vs => .ok (cut vs lo hi) t
  | none => .stuck
def mSlL (ma : ME Val) (ml mh : ME (Option Int)) : ME (List Val) := fun ρ t => (ma ρ t).bind fun x t => (ml ρ t).bind fun l t => (mh ρ t).bind fun h t => fSlL x l h t
theorem jl_sl {X : Cx} {W : WX} {e : Expr} {lo hi : Option Expr} {ma : ME Val} {ml mh : ME (Option Int)} {p2 pos : Pos} (he : JE X W e ma) (hl : JO X W lo ml) (hu : JO X W hi mh) : JL X W (.Subscript e (.Slice lo hi none p2) pos) (mSlL ma ml mh) :=
  PE.imp (pe_slice sl_list he hl hu) fun σ H Q ⟨w, ρ, t, rt, rr, p⟩ => by
    refine ⟨w, ρ, t, rt, rr, PostE.imp (PostE.bind p) fun w1 H1 v t1 e1 s1 r1 q1 x rx => ?_⟩
    refine ⟨w1, ρ, t1, r1, rr.mono s1, PostE.imp (PostE.bind (q1 t1 e1 r1)) fun w2 H2 l t2 e2 s2 r2 q2 => ?_⟩
    refine ⟨w2, ρ, t2, r2, (rr.mono s1).mono s2, PostE.imp (PostE.bind (q2 t2 e2 r2)) fun w3 H3 h t3 e3 s3 r3 q3 => ?_⟩
    have q := q3 t3 e3 r3
    unfold fSlL at q
    split at q
    · rename_i vs ev
      obtain ⟨a1, us, rfl, h1, hs1⟩ := asList_rep r3 ((rx.mono s2).mono s3) ev
      exact ⟨a1, us, rfl, SqL.of h1, fun l hl => q.here r3 l _ hl hs1.cut⟩
    · exact q.elim

def MtS (K : PySem.W.Frag) (W : WX) (r : V → List V → Hp → VK → Prop) (f : Val → List Val → T → R Val) : Prop :=
  ∀ (w : Wd) (t : T) (σ : L2.St) (H : Hp) (x : V) (xs : List V) (v : Val) (vs : List Val) (Q : VK), RelT K w t H → RepV K w H x v → RepVs K w H xs vs → PostE K W σ w H (fun w' H' v => ∀ z, RepV K w' H' z v → Q z H') (f v vs t) → r x xs H Q
def TyS (K : PySem.W.Frag) (ty : String) (tb : Val → T → Bool) : Prop := ∀ (w : Wd) (t : T) (H : Hp) (x : V) (v : Val), RelT K w t H → RepV K w H x v → tb v t = true → tyV K ty x H
def mMeth (tb : Val → T → Bool) (f : Val → List Val → T → R Val) (mo : ME Val) (ma : ME (List Val)) : ME Val := fun ρ t => (mo ρ t).bind fun v t => if tb v t then (ma ρ t).bind fun vs t => f v vs t else .stuck
def isStrB (v : Val) (_ : T) : Bool := match v with
  | .d (.str _) => true
  | _ => false
def isLstB (v : Val) (t : T) : Bool := (asList v t).isSome
theorem ty_str {K : PySem.W.Frag} : TyS K "str" isStrB := fun w t H x v r rx e => by
  unfold isStrB at e
  split at e
  · cases rx; rfl
  · cases e
theorem ty_lst {K : PySem.W.Frag} : TyS K "list" isLstB := fun w t H x v r rx e => by
  unfold isLstB at e
  obtain ⟨us, eu⟩ := Option.isSome_iff_exists.mp e
  obtain ⟨a, xs, rfl, h, _⟩ := asList_rep r rx eu
  exact .inl ⟨rfl, xs, SqL.of h⟩
section
variable {X : Cx} {W : WX} {o e : Expr} {es : List Expr} {ty id : String} {name : Str} {r : V → List V → Hp → VK → Prop} {f : Val → List Val → T → R Val} {tb : Val → T → Bool} {mo : ME Val} {ma : ME (List Val)} {apos cpos : Pos}
theorem je_bm (pa : PlainAttrs ty) (slot : Slot ty name id) (hty : typeOf (.builtin id) = pure (.type "method_descriptor")) (hm : MtR X id r) (hs : MtS X.K W r f) (ht : TyS X.K ty tb) (ho : JE X W o mo) (ha : JA X W (e :: es) ma)
    (hbase : attributeBase o name X.env (eval o X.env) = eval o X.env := by rfl)
    (hfew : ((backTo cpos (starEach (e :: es) X.env)).all (fun x => !x.1) && (backToKw cpos (keywordEach [] X.env)).all (fun x => x.1.isSome)
      && decide ((e :: es).length + ([] : List Keyword).length + (if ([] : List Keyword).isEmpty then 0 else 1) < 30)) = true := by rfl)
    (hline : (apos.endLine == cpos.line) = true := by rfl) (hs1 : starEach (e :: es) X.env = (false, eval e X.env) :: starEach es X.env := by rfl) (hplain : (backTo cpos (starEach es X.env)).any (·.1) = false := by rfl) :
    JE X W (.Call (.Attribute o name apos) (e :: es) [] cpos) (mMeth tb f mo ma) :=
  PE.imp (pe_bm pa slot hty hm ho ha hbase hfew hline hs1 hplain) fun σ H Q ⟨w, ρ, t, rt, rr, p⟩ => by
    refine ⟨w, ρ, t, rt, rr, PostE.imp (PostE.bind p) fun w1 H1 v t1 e1 s1 r1 q1 x rx => ?_⟩
    have q := q1 t1 e1 r1
    split at q
    · rename_i hb
      refine ⟨ht w1 t1 H1 x v r1 rx hb, w1, ρ, t1, r1, rr.mono s1, PostE.imp (PostE.bind q) fun w2 H2 vs t2 e2 s2 r2 q2 xs rxs => ?_⟩
      exact hs w2 t2 σ H2 x xs v vs Q r2 (rx.mono s2) rxs (q2 t2 e2 r2)
    · exact q.elim
theorem je_bm0 (pa : PlainAttrs ty) (slot : Slot ty name id) (hty : typeOf (.builtin id) = pure (.type "method_descriptor")) (hm : MtR X id r) (hs : MtS X.K W r f) (ht : TyS X.K ty tb) (ho : JE X W o mo)
    (hbase : attributeBase o name X.env (eval o X.env) = eval o X.env := by rfl) (hline : (apos.endLine == cpos.line) = true := by rfl) :
    JE X W (.Call (.Attribute o name apos) [] [] cpos) (mMeth tb f mo mNil) :=
  PE.imp (pe_bm0 pa slot hty hm ho hbase hline) fun σ H Q ⟨w, ρ, t, rt, rr, p⟩ => by
    refine ⟨w, ρ, t, rt, rr, PostE.imp (PostE.bind p) fun w1 H1 v t1 e1 s1 r1 q1 x rx => ?_⟩
    have q := q1 t1 e1 r1
    split at q
    · rename_i hb
      exact ⟨ht w1 t1 H1 x v r1 rx hb, hs w1 t1 σ H1 x [] v [] Q r1 rx .nil q⟩
    · exact q.elim
end
section
variable {K : PySem.W.Frag} {W : WX}
def putL (n : Nat) (vs : List Val) (t : T) : T := { t with st := t.st.set n (.lst vs) }
theorem loc_list {w : Wd} {t : T} {H : Hp} {x : V} {n : Nat} {vs : List Val} (r : RelT K w t H) (rx : RepV K w H x (.loc n)) (e : t.st[n]? = some (.lst vs)) : ∃ a xs, x = .ref a ∧ w.as[n]? = some (some a) ∧ H a = some (.lst xs) ∧ RepVs K w H xs vs := by
  obtain ⟨a, rfl, ha, xs, h1, h2⟩ := loc_live r rx e (fun z => by cases z)
  exact ⟨a, xs, rfl, ha, h1, h2⟩
theorem put_list {w : Wd} {t : T} {H : Hp} {n : Nat} {a : Addr} {ys : List V} {us : List Val} (r : RelT K w t H) (ha : w.as[n]? = some (some a)) (h : RepVs K w H ys us) : Step w H w (upd H a (.lst ys)) ∧ RelT K w (putL n us t) (upd H a (.lst ys)) :=
  ⟨step_wr r ha, r.wr ha ⟨ys, upd_same, h.mono (step_wr r ha)⟩⟩
def fAppend (v : Val) (vs : List Val) (t : T) : R Val := match v, vs with
  | .loc n, [u] => (match t.st[n]? with
    | some (.lst xs) => if xs.length < lim then .ok (.d .non) (putL n (xs ++ [u]) t) else .stuck
    | _ => .stuck)
  | _, _ => .stuck
theorem m_append : MtS K W rAppend fAppend := by
  intro w t σ H x xs v vs Q r rx rxs p
  unfold fAppend at p
  split at p
  · rename_i n u
    split at p
    · rename_i us eu
      split at p
      · rename_i hl
        obtain ⟨a, zs, rfl, ha, h1, h2⟩ := loc_list r rx eu
        obtain ⟨y, rfl, ry⟩ := rxs.one
        obtain ⟨s1, r1⟩ := put_list r ha (h2.app (.cons ry .nil))
        exact ⟨a, zs, y, rfl, rfl, h1, by rw [h2.length]; exact lim_lt hl, p w _ s1 r1 _ Rep.non⟩
      · exact p.elim
    · exact p.elim
  · exact p.elim
def fExtend (v : Val) (vs : List Val) (t : T) : R Val := match v, vs with
  | .loc n, [u] => (match t.st[n]?, asList u t with
    | some (.lst xs), some ys => if xs.length + ys.length ≤ lim then .ok (.d .non) (putL n (xs ++ ys) t) else .stuck
    | _, _ => .stuck)
  | _, _ => .stuck
theorem m_extend : MtS K W rExtend fExtend := by
  intro w t σ H x xs v vs Q r rx rxs p
  unfold fExtend at p
  split at p
  · rename_i n u
    split at p
    · rename_i us ys eu ey
      split at p
      · rename_i hl
        obtain ⟨a, zs, rfl, ha, h1, h2⟩ := loc_list r rx eu
        obtain ⟨y, rfl, ry⟩ := rxs.one
        obtain ⟨b, zs2, rfl, h3, h4⟩ := asList_rep r ry ey
        obtain ⟨s1, r1⟩ := put_list r ha (h2.app h4)
        exact ⟨a, b, zs, zs2, rfl, rfl, h1, h3, by rw [h2.length, h4.length]; exact lim_ok hl, p w _ s1 r1 _ Rep.non⟩
      · exact p.elim
    · exact p.elim
  · exact p.elim
theorem RepVs.dropLast {w : Wd} {H : Hp} : ∀ {xs : List V} {vs : List Val}, RepVs K w H xs vs → RepVs K w H xs.dropLast vs.dropLast
  | _, _, .nil => .nil
  | _, _, .cons _ .nil => .nil
  | _, _, .cons h (.cons h2 hs) => .cons h (RepVs.dropLast (.cons h2 hs))
theorem RepVs.eraseIdx {w : Wd} {H : Hp} : ∀ {xs : List V} {vs : List Val} (i : Nat), RepVs K w H xs vs → RepVs K w H (xs.eraseIdx i) (vs.eraseIdx i)
  | _, _, _, .nil => .nil
  | _, _, 0, .cons _ hs => hs
  | _, _, i + 1, .cons h hs => .cons h (RepVs.eraseIdx i hs)
theorem RepVs.set {w : Wd} {H : Hp} {x : V} {v : Val} (r : RepV K w H x v) : ∀ {xs : List V} {vs : List Val} (i : Nat), RepVs K w H xs vs → RepVs K w H (xs.set i x) (vs.set i v)
  | _, _, _, .nil => .nil
  | _, _, 0, .cons _ hs => .cons r hs
  | _, _, i + 1, .cons h hs => .cons h (RepVs.set r i hs)
def fPop (v : Val) (vs : List Val) (t : T) : R Val := match v, vs with
  | .loc n, [] => (match t.st[n]? with
    | some (.lst xs) => (match xs[xs.length - 1]? with
      | some u => .ok u (putL n xs.dropLast t)
      | none => .stuck)
    | _ => .stuck)
  | _, _ => .stuck
theorem m_pop : MtS K W rPop fPop := by
  intro w t σ H x xs v vs Q r rx rxs p
  unfold fPop at p
  split at p
  · rename_i n
    split at p
    · rename_i us eu
      split at p
      · rename_i u ei
        obtain ⟨a, zs, rfl, ha, h1, h2⟩ := loc_list r rx eu
        cases rxs
        obtain ⟨y, ey, ry⟩ := h2.get ei
        obtain ⟨s1, r1⟩ := put_list r ha h2.dropLast
        exact ⟨a, zs, y, rfl, rfl, h1, by rw [h2.length]; exact ey, p w _ s1 r1 _ (ry.mono s1)⟩
      · exact p.elim
    · exact p.elim
  · exact p.elim
def fPopAt (v : Val) (vs : List Val) (t : T) : R Val := match v, vs with
  | .loc n, [.d (.int i)] => (match t.st[n]? with
    | some (.lst xs) => if big i then (match seqIndex? i xs.length with
      | some k => (match xs[k]? with
        | some u => .ok u (putL n (xs.eraseIdx k) t)
        | none => .stuck)
      | none => .stuck) else .stuck
    | _ => .stuck)
  | _, _ => .stuck
theorem m_popAt : MtS K W rPopAt fPopAt := by
  intro w t σ H x xs v vs Q r rx rxs p
  unfold fPopAt at p
  split at p
  · rename_i n i
    split at p
    · rename_i us eu
      split at p
      · rename_i hb
        split at p
        · rename_i k ek
          split at p
          · rename_i u ei
            obtain ⟨a, zs, rfl, ha, h1, h2⟩ := loc_list r rx eu
            obtain ⟨y0, rfl, r0⟩ := rxs.one
            cases r0
            obtain ⟨y, ey, ry⟩ := h2.get ei
            obtain ⟨s1, r1⟩ := put_list r ha (h2.eraseIdx k)
            obtain ⟨b1, b2⟩ := big_ok hb
            exact ⟨a, zs, i, k, y, rfl, rfl, h1, by omega, by omega, by rw [h2.length]; exact ek, ey, p w _ s1 r1 _ (ry.mono s1)⟩
          · exact p.elim
        · exact p.elim
      · exact p.elim
    · exact p.elim
  · exact p.elim
def strsV : List Val → Option (List Str)
  | [] => some []
  | .d (.str x) :: r => match strsV r with
    | some xs => some (x :: xs)
    | none => none
  | _ :: _ => none
theorem strs_rep {w : Wd} {H : Hp} : ∀ {vs : List Val} {xs : List V} {ss : List Str}, strsV vs = some ss → RepVs K w H xs vs → xs = ss.map V.str
  | [], _, _, e, .nil => by cases e; rfl
  | v :: r, _, _, e, .cons h hs => by
    unfold strsV at e
    split at e
    · rename_i z
      cases z
    · rename_i x r' eq
      cases eq
      split at e
      · rename_i ys ey
        cases e
        cases h
        rw [strs_rep ey hs]
        rfl
      · cases e
    · cases e
def fJoin (v : Val) (vs : List Val) (t : T) : R Val := match v, vs with
  | .d (.str a), [u] => (match asSeq u t with
    | some us => (match strsV us with
      | some ss => if (ss.map (·.length)).sum + ss.length * a.length ≤ 16777216 then .ok (.d (.str (Txt.join a ss))) t else .stuck
      | none => .stuck)
    | none => .stuck)
  | _, _ => .stuck
def rJoin (K : PySem.W.Frag) : V → List V → Hp → VK → Prop := fun x xs H Q => ∃ a p, ∃ ys : List Str, x = .str a ∧ xs = [.ref p] ∧ (SqL K H p (ys.map V.str) ∨ SqT K H p (ys.map V.str)) ∧ (ys.map (·.length)).sum + ys.length * a.length ≤ 16777216 ∧ Q (.str (Txt.join a ys)) H
theorem m_join : MtS K W (rJoin K) fJoin := by
  intro w t σ H x xs v vs Q r rx rxs p
  unfold fJoin at p
  split at p
  · rename_i a u
    cases rx
    split at p
    · rename_i us eu
      split at p
      · rename_i ss es
        split at p
        · rename_i hl
          obtain ⟨y, rfl, ry⟩ := rxs.one
          obtain ⟨b, zs, rfl, hq, hs⟩ := asSeq_rep r ry eu
          have ez := strs_rep es hs
          subst ez
          exact ⟨a, b, ss, rfl, rfl, hq, hl, p.here r _ (Rep.str _)⟩
        · exact p.elim
      · exact p.elim
    · exact p.elim
  · exact p.elim
end
def sSub (mo mi mv : ME Val) : MS := fun ρ t => (mv ρ t).toS ρ fun v t => (mo ρ t).toS ρ fun o t => (mi ρ t).toS ρ fun i t => match o, i with
  | .loc n, .d (.int k) => (match t.st[n]? with
    | some (.lst xs) => (match ixN xs.length k with
      | some j => .nx ρ (putL n (xs.set j v) t)
      | none => .stuck)
    | _ => .stuck)
  | _, _ => .stuck
theorem js_sub {X : Cx} {W : WX} {o i e : Expr} {mo mi mv : ME Val} {pos' pos : Pos} (ho : JE X W o mo) (hi : JE X W i mi) (he : JE X W e mv)
    (ha : ∀ v, assign (.Subscript o i pos') X.env v = (do
      let ov ← holding [v] (eval o X.env)
      let iv ← holding [v, ov] (eval i X.env)
      standAt pos'
      holding [v, ov, iv] (setItem ov iv v)
      release [v, ov, iv] []) := by intro _; rfl)
    (hs : swapsWithSole [.Subscript o i pos'] e pos.line X.env = pure false := by rfl) (hw : swappedStores [.Subscript o i pos'] e X.env = pure none := by rfl) (h1 : (assignEach [.Subscript o i pos'] X.env).map (·.2) = [assign (.Subscript o i pos') X.env] := by rfl) :
    JS X W (.Assign [.Subscript o i pos'] e pos) (sSub mo mi mv) :=
  PS.imp (ps_asg he (pg_sub ho hi set_list ha) hs hw h1) fun D σ H ⟨w, ρ, t, rt, rr, p⟩ => by
    refine ⟨w, ρ, t, rt, rr, PostE.imp (PostS.expr rr p) fun w1 H1 v t1 e1 s1 r1 q x rx => ?_⟩
    refine ⟨w1, ρ, t1, r1, rr.mono s1, PostE.imp (PostS.expr (rr.mono s1) (q t1 e1)) fun w2 H2 ov t2 e2 s2 r2 q2 ox rox => ?_⟩
    refine ⟨w2, ρ, t2, r2, (rr.mono s1).mono s2, PostE.imp (PostS.expr ((rr.mono s1).mono s2) (q2 t2 e2)) fun w3 H3 iv t3 e3 s3 r3 q3 ix rix => ?_⟩
    have q4 := q3 t3 e3
    split at q4
    · rename_i n k
      split at q4
      · rename_i us eu
        split at q4
        · rename_i j ej
          obtain ⟨a, zs, rfl, hla, h1, h2⟩ := loc_list r3 (rox.mono s3) eu
          cases rix
          have rv := (rx.mono s2).mono s3
          obtain ⟨s5, r5⟩ := put_list r3 hla (h2.set rv j)
          exact ⟨a, zs, k, j, rfl, rfl, h1, by rw [h2.length]; exact ej, q4 w3 _ σ s5 r5 ((((rr.mono s1).mono s2).mono s3).mono s5)⟩
        · exact q4.elim
      · exact q4.elim
    · exact q4.elim
end En
set_option Elab.async false
set_option linter.all false
set_option maxRecDepth 100000
set_option maxHeartbeats 1000000
set_option autoImplicit false
namespace En
open PySem PySem.Spec PyProof.Rows L2

def dints (ns : List Int) : List Val := ns.map fun n => .d (.int n)
def boxCells (b : Box) : List Cell := [.lst (dints b.ns), .lst (if b.v then [.loc 0, .d (.int b.st)] else [.d (.int b.st), .loc 0, .d (.int b.ix)])]
def box0 : Box := ⟨false, true, 0, [], 0⟩
theorem ints_of {K : PySem.W.Frag} {w : Wd} {H : Hp} : ∀ {ns : List Int} {xs : List V}, RepVs K w H xs (dints ns) → xs = ns.map V.int
  | [], _, .nil => rfl
  | n :: ns, _, .cons h hs => by
    cases h
    rw [ints_of (ns := ns) hs]
    rfl
theorem box_of {K : PySem.W.Frag} {w : Wd} {H : Hp} {b : Box} {x l : Addr} (h0 : w.as[0]? = some (some l)) (c0 : CellOk K w H l (.lst (dints b.ns))) (c1 : CellOk K w H x (.lst (if b.v then [.loc 0, .d (.int b.st)] else [.d (.int b.st), .loc 0, .d (.int b.ix)]))) : BoxOk H b x l := by
  obtain ⟨xs, e0, r0⟩ := c0
  obtain ⟨ys, e1, r1⟩ := c1
  refine ⟨by rw [e0, ints_of r0], ?_⟩
  rw [e1]
  have lo : ∀ {y : V}, RepV K w H y (.loc 0) → y = .ref l := fun {y} h => by
    rcases h with h | ⟨a, h, e⟩
    · rw [h0] at h; cases h
    · rw [h0] at h; cases h; exact e
  cases hv : b.v with
  | true =>
    rw [hv] at r1
    cases r1 with
    | cons ra rb =>
      cases rb with
      | cons rb rc =>
        cases rc
        cases rb
        rw [lo ra]
        rfl
  | false =>
    rw [hv] at r1
    cases r1 with
    | cons ra rb =>
      cases rb with
      | cons rb rc =>
        cases rc with
        | cons rc rd =>
          cases rd
          cases ra
          cases rc
          rw [lo rb]
          rfl
theorem RelT.unbox {K : PySem.W.Frag} {w : Wd} {t : T} {H : Hp} {x l : Addr} (r : RelT K w t H) (e : w.bx = some (x, l)) : RelT K ⟨w.inner.hid, [some l, some x], none⟩ ⟨boxCells t.b, box0⟩ H := by
  obtain ⟨h1, h2, h3, h4⟩ := r.inner.box x l e
  refine ⟨r.inner.hidn, rfl, fun i j a ei ej => ?_, fun a ha => ?_, fun n c ec => ?_, rfl, fun b l' e' => (by cases e')⟩
  · match i, j with
    | 0, 0 => rfl
    | 1, 1 => rfl
    | 0, 1 =>
      simp at ei ej
      exact absurd (ej.trans ei.symm) h1
    | 1, 0 =>
      simp at ei ej
      exact absurd (ei.trans ej.symm) h1
    | i + 2, _ => simp at ei
    | 0, j + 2 => simp at ej
    | 1, j + 2 => simp at ej
  · have ha' : a = l ∨ a = x := by simpa using ha
    refine ⟨?_, fun ⟨b, l', e', _⟩ => by cases e'⟩
    rcases ha' with rfl | rfl
    · exact h3
    · exact h2
  · right
    match n with
    | 0 =>
      have ec' : Cell.lst (dints t.b.ns) = c := by simpa [boxCells] using ec
      subst ec'
      exact ⟨l, rfl, _, h4.1, repvs_ints _⟩
    | 1 =>
      have ec' : Cell.lst (if t.b.v then [.loc 0, .d (.int t.b.st)] else [.d (.int t.b.st), .loc 0, .d (.int t.b.ix)]) = c := by simpa [boxCells] using ec
      subst ec'
      refine ⟨x, rfl, _, h4.2, ?_⟩
      cases hv : t.b.v with
      | true => exact .cons (.inr ⟨l, rfl, rfl⟩) (.cons (Rep.int _) .nil)
      | false => exact .cons (Rep.int _) (.cons (.inr ⟨l, rfl, rfl⟩) (.cons (Rep.int _) .nil))
    | n + 2 => simp [boxCells] at ec
structure Draw where
  v : Bool
  go : Box → Int → Int × Box
def okN (n : Int) : Bool := decide (0 < n) && decide (n < 1073741824)
def DrawOk (d : Draw) (mg : List Val → T → R Val) : Prop := ∀ (b : Box) (n : Int), b.v = d.v → okN n = true → b.ns.length ≤ 1000 → mg [.loc 1, .d (.int n)] ⟨boxCells b, box0⟩ = .ok (.d (.int (d.go b n).1)) ⟨boxCells (d.go b n).2, box0⟩ ∧ (d.go b n).2.v = b.v ∧ (d.go b n).2.on = b.on
def fDraw (d : Draw) (vs : List Val) (t : T) : R Val := match vs with
  | [.box, .d (.int n)] => if okN n && (t.b.v == d.v) && decide (t.b.ns.length ≤ 1000) then .ok (.d (.int (d.go t.b n).1)) { t with b := (d.go t.b n).2 } else .stuck
  | _ => .stuck
theorem box_live {K : PySem.W.Frag} {w : Wd} {t : T} {H : Hp} {b : Box} {n : Nat} {c : Cell} {a : Addr} (r : RelT K w t H) (ha : w.as[n]? = some (some a)) (ht : t.st[n]? = some c) : CellOk K w H a c := by
  obtain ⟨c', e, ok⟩ := r.live ha
  rw [ht] at e
  cases e
  exact ok
theorem draw_sim {K : PySem.W.Frag} {W : WX} {w : Wd} {t : T} {H : Hp} {σ : L2.St} {xs : List V} {vs : List Val} {d : Draw} {mg : List Val → T → R Val} {Q : VK} (hd : DrawOk d mg) (r : RelT K w t H) (rx : RepVs K w H xs vs) (p : PostE K W σ w H (fun w' H' v => ∀ z, RepV K w' H' z v → Q z H') (fDraw d vs t)) : spG K 2 mg xs H Q (WE W σ) := by
  unfold fDraw at p
  split at p
  · rename_i n
    split at p
    · rename_i hc
      obtain ⟨c12, c3⟩ := Bool.and_eq_true_iff.mp hc
      obtain ⟨c1, c2⟩ := Bool.and_eq_true_iff.mp c12
      obtain ⟨y, z, rfl, ry, rz⟩ := rx.two
      cases rz
      obtain ⟨b, l, eb, rfl⟩ := ry
      have hv : t.b.v = d.v := by simpa using c2
      obtain ⟨he, hv2, hon⟩ := hd t.b n hv c1 (of_decide_eq_true c3)
      refine ⟨⟨w.inner.hid, [some l, some b], none⟩, ⟨boxCells t.b, box0⟩, [.loc 1, .d (.int n)], rfl, r.unbox eb, .cons (.inr ⟨b, rfl, rfl⟩) (.cons (Rep.int n) .nil), ?_⟩
      rw [he]
      intro w' H' x s r' rv
      cases rv
      have a0 : w'.as[0]? = some (some l) := by
        rcases r'.cell 0 _ rfl with ⟨z, _⟩ | ⟨a, ha, _⟩
        · cases z
        · have q := s.old 0 a (show 0 < 2 from by decide) ha
          have q' : some (some l) = some (some a) := q
          cases q'
          exact ha
      have a1 : w'.as[1]? = some (some b) := by
        rcases r'.cell 1 _ rfl with ⟨z, _⟩ | ⟨a, ha, _⟩
        · cases z
        · have q := s.old 1 a (show 1 < 2 from by decide) ha
          have q' : some (some b) = some (some a) := q
          cases q'
          exact ha
      have bo : BoxOk H' (d.go t.b n).2 b l := box_of a0 (box_live (b := t.b) r' a0 rfl) (box_live (b := t.b) r' a1 rfl)
      have wrr : ∀ a, (⟨w.inner.hid, [some l, some b], none⟩ : Wd).wr a ↔ w.inner.wr a := fun a => by
        constructor
        · rintro (⟨_, _, e, _⟩ | z)
          · cases e
          · have z' : a = l ∨ a = b := by simpa using z
            exact .inl ⟨b, l, eb, z'.symm⟩
        · rintro (⟨b', l', e, z⟩ | z)
          · have e' : w.bx = some (b', l') := e
            rw [eb] at e'
            cases e'
            exact .inr (by rcases z with rfl | rfl <;> simp)
          · exact absurd (show some a ∈ ([] : List (Option Addr)) from z) (by simp)
      have mm : ∀ a, (⟨w.inner.hid, [some l, some b], none⟩ : Wd).mut a ↔ w.mut a := fun a => by
        refine Iff.trans ?_ (inner_mut (w := w) (a := a))
        exact or_congr Iff.rfl (wrr a)
      have fzz : Fz (⟨w.inner.hid, [some l, some b], none⟩ : Wd) H = Fz w H := by
        funext a
        unfold Fz
        by_cases m : w.mut a
        · rw [if_pos m, if_pos ((mm a).mpr m)]
        · rw [if_neg m, if_neg (fun z => m ((mm a).mp z))]
      have sub : ∀ a, w.mut a → w'.mut a := fun a m => by
        rcases (mm a).mpr m with z | ⟨_, _, e, _⟩ | z
        · exact .inl (by rw [s.hid]; exact z)
        · cases e
        · have z' : a = l ∨ a = b := by simpa using z
          rcases z' with rfl | rfl
          · exact .inr (.inr (List.mem_of_getElem? a0))
          · exact .inr (.inr (List.mem_of_getElem? a1))
      have ex : Ex (Fz w' H') (Fz w H') := fun a o e => by
        obtain ⟨h1, h2⟩ := Fz.of e
        exact Fz.to h1 fun m => h2 (sub a m)
      have st : Step w H w H' := by
        refine ⟨rfl, fun a o e => ex a o (s.fz a o (by rw [fzz]; exact e)), Nat.le_refl _, fun _ _ _ h => h, fun n a h e => absurd (as_len e) (Nat.not_lt.mpr h), fun _ h => h, fun h b l e => (by rw [h] at e; cases e), fun a o h nn => s.keep a o h fun z => ?_, s.there⟩
        rcases (wrr a).mp z with z | z
        · exact nn (.inl z)
        · exact absurd (show some a ∈ ([] : List (Option Addr)) from z) (by simp)
      have rt : RelT K w { t with b := (d.go t.b n).2 } H' := by
        refine ⟨fun a ha => ?_, r.len, r.inj, r.out, fun m c e => ?_, hon.trans r.bon, fun b' l' e => ?_⟩
        · obtain ⟨o, eo⟩ := r.hidn a ha
          exact s.there a o eo
        · rcases r.cell m c e with q | ⟨a, ha, ok⟩
          · exact .inl q
          · obtain ⟨u, eu⟩ := ok.some
            have nb := (r.out a (List.mem_of_getElem? ha)).2
            have ek : H' a = H a := by
              rw [eu]
              refine s.keep a u eu fun z => ?_
              rcases (wrr a).mp z with z | z
              · exact nb z
              · exact absurd (show some a ∈ ([] : List (Option Addr)) from z) (by simp)
            exact .inr ⟨a, ha, ok.mono st ek⟩
        · obtain ⟨h1, h2, h3, _⟩ := r.box b' l' e
          rw [eb] at e
          cases e
          exact ⟨h1, h2, h3, bo⟩
      exact p w H' st rt _ (Rep.int _)
    · exact p.elim
  · exact p.elim
section
variable {X : Cx} {W : WX} {k : Nat} {f : Addr} {fd : FuncData} {ps : List Str} {mg : List Val → T → R Val} {x : Str} {p pos : Pos} {e e2 : Expr} {es : List Expr} {m : ME (List Val)}
theorem je_draw {d : Draw} (hd : DrawOk d mg) (F : FnOk X.prog X.w X.K X.mg X.base (L2.CX X.prog X.w) k f fd ps (spG X.K 2 mg)) (hr : Room k X.A) (hm : X.mg x = some (.ref f)) (hk : PySem.W.keepIn X.K (.ref f) = true) (hb : Binds X.K fd ps []) (tk : Takes X W) (ha : JA X W [e, e2] m)
    (hg : Gl X x := by rfl) (hdb : (x == ("__debug__" : Str)) = false := by decide) (he : starEach [e, e2] X.env = (false, eval e X.env) :: starEach [e2] X.env := by rfl) (hpl : (backTo pos (starEach [e2] X.env)).any (·.1) = false := by rfl) : JE X W (.Call (.Name x p) [e, e2] [] pos) (mL (fDraw d) m) :=
  PE.imp (pe_callSD (E := WE W) (dvs := []) F hr hg hm hk hb .nil (fun σ => passAt tk σ) ha hdb he hpl) fun σ H Q ⟨w, ρ, t, rt, rr, pp⟩ => by
    refine ⟨w, ρ, t, rt, rr, PostE.imp (PostE.bind pp) fun w1 H1 v t1 e1 s1 r1 q1 xs rx => ?_⟩
    show spG X.K 2 mg (xs ++ []) H1 Q (WE W σ)
    rw [List.append_nil]
    exact draw_sim hd r1 rx (q1 t1 e1 r1)
def BegunOk (n : Nat) (bg : List Val → Option Box) (mg : List Val → T → R Val) : Prop := ∀ (vs : List Val) (b : Box), bg vs = some b → vs.length = n ∧ vs.all argOk = true ∧ b.on = true ∧ mg vs ⟨[], box0⟩ = .ok (.loc 1) ⟨boxCells b, box0⟩
def fBegun (bg : List Val → Option Box) (vs : List Val) (t : T) : R Val := match bg vs with
  | some b => if t.b.on then .stuck else .ok .box { t with b := b }
  | none => .stuck
theorem begun_sim {K : PySem.W.Frag} {W : WX} {w : Wd} {t : T} {H : Hp} {σ : L2.St} {xs : List V} {vs : List Val} {n : Nat} {bg : List Val → Option Box} {mg : List Val → T → R Val} {Q : VK} (hd : BegunOk n bg mg) (r : RelT K w t H) (rx : RepVs K w H xs vs) (p : PostE K W σ w H (fun w' H' v => ∀ z, RepV K w' H' z v → Q z H') (fBegun bg vs t)) : spG K n mg xs H Q (WE W σ) := by
  unfold fBegun at p
  split at p
  · rename_i b eb
    split at p
    · exact p.elim
    · rename_i hon
      obtain ⟨hn, hok, hbo, hq⟩ := hd vs b eb
      have hb0 : w.bx = none := by
        have z := r.bon
        cases q : w.bx with
        | none => rfl
        | some y => rw [q] at z; exact absurd z hon
      have rin : RelT K w.inner ⟨[], box0⟩ H := by
        have z := r.inner
        exact ⟨z.hidn, z.len, z.inj, z.out, z.cell, by rw [show w.inner.bx = none from hb0]; rfl, fun b l e => by rw [show w.inner.bx = none from hb0] at e; cases e⟩
      refine ⟨w.inner, ⟨[], box0⟩, vs, by rw [rx.length]; exact hn, rin, rx.inner hok, ?_⟩
      rw [hq]
      intro w' H' x s r' rv
      obtain ⟨l, hl, c0⟩ : ∃ l, w'.as[0]? = some (some l) ∧ CellOk K w' H' l (.lst (dints b.ns)) := by
        rcases r'.cell 0 _ rfl with ⟨z, _⟩ | ⟨a, ha, ok⟩
        · cases z
        · exact ⟨a, ha, ok⟩
      obtain ⟨bb, hbb, c1⟩ : ∃ l, w'.as[1]? = some (some l) ∧ CellOk K w' H' l (.lst (if b.v then [.loc 0, .d (.int b.st)] else [.d (.int b.st), .loc 0, .d (.int b.ix)])) := by
        rcases r'.cell 1 _ rfl with ⟨z, _⟩ | ⟨a, ha, ok⟩
        · cases z
        · exact ⟨a, ha, ok⟩
      have bo : BoxOk H' b bb l := box_of hl c0 c1
      have nl : H l = none := s.new 0 l (Nat.zero_le _) hl
      have nb : H bb = none := s.new 1 bb (Nat.zero_le _) hbb
      have ex' : x = .ref bb := by
        rcases rv with z | ⟨a, ha, e⟩
        · rw [hbb] at z; cases z
        · rw [hbb] at ha; cases ha; exact e
      subst ex'
      obtain ⟨s1, ex⟩ := Step.outer r s
      have nbl : bb ≠ l := fun z => by
        have q := r'.inj 1 0 l (by rw [← z]; exact hbb) hl
        cases q
      have w2mut : ∀ a, (⟨w.hid, w.as, some (bb, l)⟩ : Wd).mut a → w.mut a ∨ a = bb ∨ a = l := fun a m => by
        rcases m with z | ⟨b', l', e, z⟩ | z
        · exact .inl (.inl z)
        · have e' : some (bb, l) = some (b', l') := e
          cases e'
          exact .inr z
        · exact .inl (.inr (.inr z))
      have st : Step w H ⟨w.hid, w.as, some (bb, l)⟩ H' := by
        refine ⟨rfl, fun a o e => ?_, Nat.le_refl _, fun _ _ _ h => h, fun n a h e => absurd (as_len e) (Nat.not_lt.mpr h), fun p h => (by rw [hb0] at h; cases h), fun _ b' l' e => ?_, fun a o h nn => s1.keep a o h nn, s1.there⟩
        · obtain ⟨h1, h2⟩ := Fz.of (s1.fz a o e)
          obtain ⟨h3, _⟩ := Fz.of e
          refine Fz.to h1 fun m => ?_
          rcases w2mut a m with z | z | z
          · exact h2 z
          · rw [z, nb] at h3; cases h3
          · rw [z, nl] at h3; cases h3
        · have e' : some (bb, l) = some (b', l') := e
          cases e'
          exact ⟨nb, nl⟩
      refine p ⟨w.hid, w.as, some (bb, l)⟩ H' st ?_ _ ⟨bb, l, rfl, rfl⟩
      refine ⟨fun a ha => ?_, r.len, r.inj, fun a ha => ?_, fun m c e => ?_, hbo, fun b' l' e => ?_⟩
      · obtain ⟨o, eo⟩ := r.hidn a ha
        exact s.there a o eo
      · refine ⟨(r.out a ha).1, fun ⟨b', l', e, z⟩ => ?_⟩
        have e' : some (bb, l) = some (b', l') := e
        cases e'
        obtain ⟨n, hn⟩ := List.getElem?_of_mem ha
        obtain ⟨c, _, ok⟩ := r.live hn
        obtain ⟨u, eu⟩ := ok.some
        rcases z with rfl | rfl
        · rw [nb] at eu; cases eu
        · rw [nl] at eu; cases eu
      · rcases r.cell m c e with q | ⟨a, ha, ok⟩
        · exact .inl q
        · obtain ⟨u, eu⟩ := ok.some
          have ek : H' a = H a := by
            rw [eu]
            refine s.keep a u eu fun z => ?_
            rcases z with ⟨b', l', e, z⟩ | z
            · rw [show w.inner.bx = none from hb0] at e; cases e
            · exact absurd (show some a ∈ ([] : List (Option Addr)) from z) (by simp)
          exact .inr ⟨a, ha, ok.mono st ek⟩
      · have e' : some (bb, l) = some (b', l') := e
        cases e'
        refine ⟨nbl, fun z => ?_, fun z => ?_, bo⟩
        · obtain ⟨o, eo⟩ := r.hidn bb z
          rw [nb] at eo; cases eo
        · obtain ⟨o, eo⟩ := r.hidn l z
          rw [nl] at eo; cases eo
  · exact p.elim
theorem je_begun {n : Nat} {bg : List Val → Option Box} (hd : BegunOk n bg mg) (F : FnOk X.prog X.w X.K X.mg X.base (L2.CX X.prog X.w) k f fd ps (spG X.K n mg)) (hr : Room k X.A) (hm : X.mg x = some (.ref f)) (hk : PySem.W.keepIn X.K (.ref f) = true) (hb : Binds X.K fd ps []) (tk : Takes X W) (ha : JA X W (e :: es) m)
    (hg : Gl X x := by rfl) (hdb : (x == ("__debug__" : Str)) = false := by decide) (he : starEach (e :: es) X.env = (false, eval e X.env) :: starEach es X.env := by rfl) (hpl : (backTo pos (starEach es X.env)).any (·.1) = false := by rfl) : JE X W (.Call (.Name x p) (e :: es) [] pos) (mL (fBegun bg) m) :=
  PE.imp (pe_callSD (E := WE W) (dvs := []) F hr hg hm hk hb .nil (fun σ => passAt tk σ) ha hdb he hpl) fun σ H Q ⟨w, ρ, t, rt, rr, pp⟩ => by
    refine ⟨w, ρ, t, rt, rr, PostE.imp (PostE.bind pp) fun w1 H1 v t1 e1 s1 r1 q1 xs rx => ?_⟩
    show spG X.K n mg (xs ++ []) H1 Q (WE W σ)
    rw [List.append_nil]
    exact begun_sim hd r1 rx (q1 t1 e1 r1)
end
end En
set_option Elab.async false
set_option linter.all false
set_option maxRecDepth 100000
set_option maxHeartbeats 1000000
set_option autoImplicit false
namespace En
open PySem PySem.Spec PyProof.Rows L2

section
variable {K : PySem.W.Frag} {w : Wd} {t : T} {H : Hp}
theorem make_rel {x dx : Addr} {c : Str} (r : RelT K w t H) (hx : H x = none) (hdx : H dx = none) (ne : dx ≠ x) :
    Step w.inner H (w.inner.add x) (upd (upd H dx (.own x)) x (.ins (He.ga K c) dx [])) ∧ RelT K (w.inner.add x) ⟨[.ins c []], t.b⟩ (upd (upd H dx (.own x)) x (.ins (He.ga K c) dx [])) := by
  have r0 := r.inner
  have s1 := step_new (o := .own x) r0 hdx
  have r1 := r0.new (o := .own x) hdx
  have hx1 : upd H dx (.own x) x = none := by rw [upd_ne (Ne.symm ne)]; exact hx
  exact ⟨s1.trans (step_add r1 hx1), r1.add hx1 ⟨dx, [], upd_same, .nil⟩⟩
end
def fMake (c : Str) (mg : List Val → T → R Val) (vs : List Val) (t : T) : R Val := if vs.all argOk then match mg (.loc 0 :: vs) ⟨[.ins c []], t.b⟩ with
  | .ok (.d .non) t' => if t'.b.on = t.b.on then (match (t'.st)[0]? with
    | some (Cell.ins c' fs) => (match datas (fs.map (·.2)) with
      | some ds => if c' = c then .ok (.d (.ins c ((fs.map (·.1)).zip ds))) { t with b := t'.b } else .stuck
      | none => .stuck)
    | _ => .stuck) else .stuck
  | .exc x t' => if t'.b.on = t.b.on then .exc x { t with b := t'.b } else .stuck
  | _ => .stuck
  else .stuck
theorem add_inner_as {w : Wd} {x : Addr} : (w.inner.add x).as = [some x] := rfl
theorem make_sim {K : PySem.W.Frag} {W : WX} {w : Wd} {t : T} {H : Hp} {σ : L2.St} {xs : List V} {vs : List Val} {n : Nat} {c : Str} {mg : List Val → T → R Val} {Q : VK} (hn : xs.length = n) (r : RelT K w t H) (rx : RepVs K w H xs vs) (p : PostE K W σ w H (fun w' H' v => ∀ z, RepV K w' H' z v → Q z H') (fMake c mg vs t))
    {x dx : Addr} (hx : H x = none) (hdx : H dx = none) (ne : dx ≠ x) : spG K (n + 1) mg (.ref x :: xs) (upd (upd H dx (.own x)) x (.ins (He.ga K c) dx [])) (fun v H2 => v = .non ∧ Q (.ref x) H2) (WE W σ) := by
  unfold fMake at p
  split at p
  · rename_i ok
    obtain ⟨s0, r0⟩ := make_rel (c := c) r hx hdx ne
    refine ⟨w.inner.add x, ⟨[.ins c []], t.b⟩, .loc 0 :: vs, by simp [hn], r0, .cons (.inr ⟨x, rfl, rfl⟩) ((rx.inner ok).mono s0), ?_⟩
    split at p
    · rename_i t' e
      rw [e]
      intro w' H' y s r' rv
      cases rv
      split at p
      · rename_i hon
        split at p
        · rename_i c' fs ec
          split at p
          · rename_i ds ed
            split at p
            · rename_i hcc
              subst hcc
              have sT := s0.trans s
              obtain ⟨s1, ex⟩ := Step.outer r sT
              have a0 : w'.as[0]? = some (some x) := by
                rcases r'.cell 0 _ ec with ⟨z, _⟩ | ⟨a, ha, _⟩
                · cases z
                · have q := s.old 0 a (show 0 < 1 from by decide) ha
                  have q' : some (some x) = some (some a) := q
                  cases q'
                  exact ha
              obtain ⟨dx', ys, h1, h2⟩ := box_live (b := t.b) r' a0 ec
              have hfz : Fz w H' x = some (.ins (He.ga K c') dx' ys) := by
                refine Fz.to h1 fun m => ?_
                exact r.mutn hx m
              have hrep : Rep K (Fz w H') (.ref x) (.ins c' ((fs.map (·.1)).zip ds)) := by
                refine Rep.ins hfz ?_
                have z := repVK_F ed h2
                exact z.mono ex
              exact ⟨rfl, p w H' s1 (r.outer sT r' hon) _ hrep⟩
            · exact p.elim
          · exact p.elim
        · exact p.elim
      · exact p.elim
    · rename_i y t' e
      rw [e]
      split at p
      · rename_i hon
        intro w' H' cls dd s r' rv
        have sT := s0.trans s
        obtain ⟨s1, ex⟩ := Step.outer r sT
        exact p w H' cls dd s1 (r.outer sT r' hon) (Rep.exc ex rv)
      · exact p.elim
    · exact p.elim
  · exact p.elim
section
variable {X : Cx} {W : WX} {k n : Nat} {f C : Addr} {fd : FuncData} {ps : List Str} {mg : List Val → T → R Val} {x : Str} {p pos : Pos} {e : Expr} {es : List Expr} {m : ME (List Val)} {c : Str}
theorem run_makeS {pins : List (Addr × Obj)} {σ : L2.St} {H : Hp} {s : Shared} {Q : VK} {us : List Value} {vs : List V} {sp : Sp} (M : Mk X.K C f) (F : FnOk X.prog X.w X.K X.mg X.base (L2.CX X.prog X.w) k f fd ps sp) (hr : Room (k + 1) X.A) (hb : Binds X.K fd ps []) (tk : Takes X W)
    (I : Inv X pins σ H s) (r : Vals vs us) (h : ∀ x dx, H x = none → H dx = none → dx ≠ x → sp (.ref x :: vs) (upd (upd H dx (.own x)) x (.ins C dx [])) (fun v H2 => v = .non ∧ Q (.ref x) H2) (WE W σ)) :
    wpAny (model X.prog X.w) X.A (call (.ref C) us) (EP X pins σ Q) X.xe s := by
  have hq := h (s.heap.objs.size + 1) s.heap.objs.size (I.hok.fresh (Nat.le_succ _)) (I.hok.fresh (Nat.le_refl _)) (Nat.ne_of_lt (Nat.lt_succ_self _))
  have I2 := Inv.made (C := C) I
  have r1 : Vals (V.ref (s.heap.objs.size + 1) :: vs) (Value.ref (s.heap.objs.size + 1) :: us) := .cons rfl r
  have hl : (Value.ref (s.heap.objs.size + 1) :: us).length = ps.length := by rw [← r1.length]; exact F.len _ _ _ _ hq
  refine wpAny_call (make_map (f := f) I.kIn M.makes M.init (beq_iff_eq.mp M.fn) (codeAny_mono (F.run _ X.stack _ _ ⟨Value.ref (s.heap.objs.size + 1) :: us, []⟩ (Value.ref (s.heap.objs.size + 1) :: us) _ _ (WE W σ) (hr.make C us [])
    (I2.env0.make C us []) (by have z := hb _ (Value.ref (s.heap.objs.size + 1) :: us) I2.kIn (by rw [List.append_nil]; exact hl); rw [List.append_nil] at z; exact z) r1 hq) fun r s' hq' => ?_))
  cases r with
  | error e => exact passAt tk σ pins _ _ e s' I2 hq'
  | ok fl =>
    cases fl with
    | ret u =>
      obtain ⟨v, H', I3, rv, ev, q3⟩ := I2.after hq'
      subst ev
      exact ⟨rv, ⟨V.ref (s.heap.objs.size + 1), H', I3, rfl, q3⟩⟩
    | next => exact False.elim hq'
    | brk => exact False.elim hq'
    | cont => exact False.elim hq'
theorem je_make (M : Mk X.K (He.ga X.K c) f) (F : FnOk X.prog X.w X.K X.mg X.base (L2.CX X.prog X.w) k f fd ps (spG X.K (n + 1) mg)) (hr : Room (k + 1) X.A) (hm : X.mg c = some (.ref (He.ga X.K c))) (hb : Binds X.K fd ps []) (tk : Takes X W) (ha : JA X W (e :: es) m)
    (hla : ∀ ρ t vs t', m ρ t = .ok vs t' → vs.length = n)
    (hg : Gl X c := by rfl) (hdb : (c == ("__debug__" : Str)) = false := by decide) (he : starEach (e :: es) X.env = (false, eval e X.env) :: starEach es X.env := by rfl) (hpl : (backTo pos (starEach es X.env)).any (·.1) = false := by rfl) : JE X W (.Call (.Name c p) (e :: es) [] pos) (mL (fMake c mg) m) := by
  refine ⟨fun pins s σ H Q I ⟨w, ρ, t, rt, rr, pp⟩ => ?_⟩
  refine wpAny_Call_Name_kw (ld_glob I hg hm ?_ hdb)
  refine PySem.W.callWith_K (h₀ := X.base) I.ok.mod.kin M.kp (thn (ha.run pos pins s σ H (fun xs H1 => ∀ x dx, H1 x = none → H1 dx = none → dx ≠ x → spG X.K (n + 1) mg (.ref x :: xs) (upd (upd H1 dx (.own x)) x (.ins (He.ga X.K c) dx [])) (fun v H2 => v = .non ∧ Q (.ref x) H2) (WE W σ)) I
    ⟨w, ρ, t, rt, rr, PostE.imp (PostE.bind pp) fun w1 H1 v t1 e1 s1 r1 q1 xs rx x dx hx hdx ne => make_sim (by rw [rx.length]; exact hla ρ t v t1 e1) r1 rx (q1 t1 e1 r1) hx hdx ne⟩) fun us s1 ⟨vs, H1, I1, r, q⟩ => ⟨I1.kIn, ?_⟩) he hpl
  exact run_makeS M F hr hb tk I1 r q
end
def fldOf (f : Str) (v : Val) (t : T) : Option (Str × Val) := match v with
  | .d (.ins c fs) => (fs.lookup f).map fun d => (c, .d d)
  | .loc n => (match t.st[n]? with
    | some (.ins c fs) => (fs.lookup f).map fun u => (c, u)
    | _ => none)
  | _ => none
theorem repF_look {K : PySem.W.Frag} {F : Hp} {f : Str} : ∀ {xs : List (Str × V)} {fs : List (Str × D)} {d : D}, RepF K F xs fs → fs.lookup f = some d → ∃ x, xs.lookup f = some x ∧ Rep K F x d
  | _, _, _, .nil, e => by cases e
  | _, _, d, .cons (x := y) h hs, e => by
    rw [List.lookup_cons] at e ⊢
    cases q : (f == y) with
    | true => rw [q] at e; cases e; exact ⟨_, rfl, h⟩
    | false => rw [q] at e; exact repF_look hs e
theorem repVK_look {K : PySem.W.Frag} {w : Wd} {H : Hp} {f : Str} : ∀ {xs : List (Str × V)} {fs : List (Str × Val)} {d : Val}, RepVK K w H xs fs → fs.lookup f = some d → ∃ x, xs.lookup f = some x ∧ RepV K w H x d
  | _, _, _, .nil, e => by cases e
  | _, _, d, .cons (k := y) h hs, e => by
    rw [List.lookup_cons] at e ⊢
    cases q : (f == y) with
    | true => rw [q] at e; cases e; exact ⟨_, rfl, h⟩
    | false => rw [q] at e; exact repVK_look hs e
theorem fldOf_rep {K : PySem.W.Frag} {w : Wd} {t : T} {H : Hp} {x : V} {v u : Val} {f c : Str} (r : RelT K w t H) (rx : RepV K w H x v) (e : fldOf f v t = some (c, u)) : ∃ a dx fs y, x = .ref a ∧ H a = some (.ins (He.ga K c) dx fs) ∧ fs.lookup f = some y ∧ RepV K w H y u := by
  unfold fldOf at e
  split at e
  · rename_i c' fs
    obtain ⟨d, ed, e2⟩ := Option.map_eq_some_iff.mp e
    cases e2
    have rx' : Rep K (Fz w H) x (.ins c fs) := rx
    cases rx' with
    | ins h hs =>
      obtain ⟨y, ey, ry⟩ := repF_look hs ed
      exact ⟨_, _, _, y, rfl, (Fz.of h).1, ey, ry⟩
  · rename_i n
    split at e
    · rename_i c' fs en
      obtain ⟨d, ed, e2⟩ := Option.map_eq_some_iff.mp e
      cases e2
      obtain ⟨a, rfl, ha, dx, ys, h1, h2⟩ := loc_live r rx en (fun z => by cases z)
      obtain ⟨y, ey, ry⟩ := repVK_look h2 ed
      exact ⟨a, dx, ys, y, rfl, h1, ey, ry⟩
    · cases e
  · cases e
def fFld (cs : List Str) (f : Str) (v : Val) (t : T) : R Val := match fldOf f v t with
  | some (c, u) => if cs.contains c then .ok u t else .stuck
  | none => .stuck
theorem je_fld {X : Cx} {W : WX} {e : Expr} {f : Str} {m : ME Val} {pos : Pos} (cs : List Str) (hc : ∀ c ∈ cs, Cls X.K (He.ga X.K c) ∧ NoAttr X.K (He.ga X.K c) f) (he : JE X W e m) (hb : attributeBase e f X.env (eval e X.env) = eval e X.env := by rfl) : JE X W (.Attribute e f pos) (m1 (fFld cs f) m) :=
  PE.imp (pe_fld he hb) fun σ H Q ⟨w, ρ, t, rt, rr, p⟩ => by
    refine ⟨w, ρ, t, rt, rr, PostE.imp (PostE.bind p) fun w1 H1 v t1 e1 s1 r1 q1 x rx => ?_⟩
    have q := q1 t1 e1 r1
    unfold fFld at q
    split at q
    · rename_i c u eu
      split at q
      · rename_i hm
        obtain ⟨a, dx, fs, y, rfl, h1, h2, h3⟩ := fldOf_rep r1 rx eu
        obtain ⟨k1, k2⟩ := hc c (by simpa using hm)
        exact ⟨a, _, dx, fs, y, rfl, h1, k1, k2, h2, q.here r1 _ h3⟩
      · exact q.elim
    · exact q.elim
def putV (f : Str) (v : Val) : List (Str × Val) → List (Str × Val)
  | [] => [(f, v)]
  | (g, x) :: r => if g = f then (g, v) :: r else (g, x) :: putV f v r
theorem repVK_put {K : PySem.W.Frag} {w : Wd} {H : Hp} {f : Str} {x : V} {v : Val} (r : RepV K w H x v) : ∀ {xs : List (Str × V)} {fs : List (Str × Val)}, RepVK K w H xs fs → RepVK K w H (putF f x xs) (putV f v fs)
  | _, _, .nil => .cons r .nil
  | _, _, .cons (k := y) h hs => by
    unfold putF putV
    by_cases e : y = f
    · rw [if_pos e, if_pos e]; exact .cons r hs
    · rw [if_neg e, if_neg e]; exact .cons h (repVK_put r hs)
theorem RepVK.length {K : PySem.W.Frag} {w : Wd} {H : Hp} {κ : Type} {xs : List (κ × V)} {vs : List (κ × Val)} (h : RepVK K w H xs vs) : xs.length = vs.length := by
  induction h with
  | nil => rfl
  | cons _ _ ih => simp [ih]
def sFldV (cs : List Str) (f : Str) (mo mv : ME Val) : MS := fun ρ t => (mv ρ t).toS ρ fun v t => (mo ρ t).toS ρ fun o t => match o with
  | .loc n => (match t.st[n]? with
    | some (.ins c fs) => if cs.contains c && decide (fs.length < 1000) then .nx ρ { t with st := t.st.set n (.ins c (putV f v fs)) } else .stuck
    | _ => .stuck)
  | _ => .stuck
theorem js_fld {X : Cx} {W : WX} {o e : Expr} {f : Str} {mo mv : ME Val} {pos' pos : Pos} (cs : List Str) (hc : ∀ c ∈ cs, Cls X.K (He.ga X.K c) ∧ NoAttr X.K (He.ga X.K c) f) (ho : JE X W o mo) (hv : JE X W e mv) (hs : swapsWith e (some (.Attribute o f pos')) pos.line X.env = pure false := by rfl) : JS X W (.Assign [.Attribute o f pos'] e pos) (sFldV cs f mo mv) :=
  PS.imp (ps_fld ho hv hs) fun D σ H ⟨w, ρ, t, rt, rr, p⟩ => by
    refine ⟨w, ρ, t, rt, rr, PostE.imp (PostS.expr rr p) fun w1 H1 v t1 e1 s1 r1 q x rx => ?_⟩
    refine ⟨w1, ρ, t1, r1, rr.mono s1, PostE.imp (PostS.expr (rr.mono s1) (q t1 e1)) fun w2 H2 ov t2 e2 s2 r2 q2 ox rox => ?_⟩
    have q4 := q2 t2 e2
    split at q4
    · rename_i n
      split at q4
      · rename_i c fs en
        split at q4
        · rename_i hm
          obtain ⟨hm1, hm2⟩ := Bool.and_eq_true_iff.mp hm
          obtain ⟨k1, k2⟩ := hc c (by simpa using hm1)
          obtain ⟨a, rfl, ha, dx, ys, h1, h2⟩ := loc_live r2 rox en (fun z => by cases z)
          refine ⟨a, _, dx, ys, rfl, h1, k1, k2, by rw [h2.length]; exact of_decide_eq_true hm2, ?_⟩
          have s3 := step_wr (o := .ins (He.ga X.K c) dx (putF f x ys)) r2 ha
          have r3 := r2.wr (o := .ins (He.ga X.K c) dx (putF f x ys)) (c := .ins c (putV f v fs)) ha ⟨dx, _, upd_same, (repVK_put (rx.mono s2) h2).mono s3⟩
          exact q4 w2 _ σ s3 r3 (((rr.mono s1).mono s2).mono s3)
        · exact q4.elim
      · exact q4.elim
    · exact q4.elim
def clsOf : Val → Option Str
  | .d (.ins c _) => some c
  | _ => none
theorem clsOf_rep {K : PySem.W.Frag} {w : Wd} {H : Hp} {x : V} {v : Val} {c : Str} (rx : RepV K w H x v) (e : clsOf v = some c) : argOk v = true ∧ ∃ a dx fs, x = .ref a ∧ H a = some (.ins (He.ga K c) dx fs) := by
  unfold clsOf at e
  split at e
  · rename_i c' fs
    cases e
    have rx' : Rep K (Fz w H) x (.ins c fs) := rx
    cases rx' with
    | ins h hs => exact ⟨rfl, _, _, _, rfl, (Fz.of h).1⟩
  · cases e
def noX (r : R Val) : R Val := match r with
  | .ok a t => .ok a t
  | _ => .stuck
def fProp (c : Str) (mf : MF) (v : Val) (t : T) : R Val := match clsOf v with
  | some c' => if c' = c then noX (fCall mf [v] t) else .stuck
  | none => .stuck
theorem call_sim0 {K : PySem.W.Frag} {W : WX} {w : Wd} {t : T} {H : Hp} {σ : L2.St} {xs : List V} {vs : List Val} {n : Nat} {mf : MF} {Q : VK} (hn : xs.length = n) (r : RelT K w t H) (rx : RepVs K w H xs vs) (p : PostE K W σ w H (fun w' H' v => ∀ z, RepV K w' H' z v → Q z H') (noX (fCall mf vs t))) : spF K n mf xs H Q E0 := by
  have z : spF K n mf xs H Q (WE W0 σ) := by
    refine call_sim (W := W0) (σ := σ) hn r rx ?_
    revert p
    cases fCall mf vs t with
    | ok a t => exact fun p => p
    | exc a t => exact fun p => p.elim
    | stuck => exact fun p => p
  exact z
theorem je_prop {X : Cx} {W : WX} {e : Expr} {f c : Str} {pp g : Addr} {k : Nat} {fd : FuncData} {ps : List Str} {mf : MF} {m : ME Val} {pos : Pos} (hc : Cls X.K (He.ga X.K c)) (hp : PropOf X.K (He.ga X.K c) f pp g) (F : FnOk X.prog X.w X.K X.mg X.base (L2.CX X.prog X.w) k g fd ps (spF X.K 1 mf)) (hr : Room (k + 1) X.A) (hb : Binds X.K fd ps [])
    (he : JE X W e m) (hab : attributeBase e f X.env (eval e X.env) = eval e X.env := by rfl) : JE X W (.Attribute e f pos) (m1 (fProp c mf) m) :=
  PE.imp (pe_prop (dvs := []) (E := E0) he hc hp F hr hb .nil passL hab) fun σ H Q ⟨w, ρ, t, rt, rr, p⟩ => by
    refine ⟨w, ρ, t, rt, rr, PostE.imp (PostE.bind p) fun w1 H1 v t1 e1 s1 r1 q1 x rx => ?_⟩
    have q := q1 t1 e1 r1
    unfold fProp at q
    split at q
    · rename_i c' ec
      split at q
      · rename_i hcc
        subst hcc
        obtain ⟨_, a, dx, fs, rfl, ha⟩ := clsOf_rep rx ec
        exact ⟨a, dx, fs, rfl, ha, call_sim0 rfl r1 (.cons rx .nil) q⟩
      · exact q.elim
    · exact q.elim
def mMethO (c m : Str) (mf : MF) (mo : ME Val) (ma : ME (List Val)) : ME Val := fun ρ t => (mo ρ t).bind fun o t => match o with
  | .d (.ins c' fs) => if c' = c ∧ fs.lookup m = none then (ma ρ t).bind fun vs t => fCall mf (.d (.ins c' fs) :: vs) t else .stuck
  | _ => .stuck
theorem repF_none {K : PySem.W.Frag} {F : Hp} {f : Str} : ∀ {xs : List (Str × V)} {fs : List (Str × D)}, RepF K F xs fs → fs.lookup f = none → xs.lookup f = none
  | _, _, .nil, e => rfl
  | _, _, .cons (x := y) h hs, e => by
    rw [List.lookup_cons] at e ⊢
    cases q : (f == y) with
    | true => rw [q] at e; cases e
    | false => rw [q] at e; exact repF_none hs e
end En
set_option Elab.async false
set_option linter.all false
set_option maxRecDepth 100000
set_option maxHeartbeats 1000000
set_option autoImplicit false
namespace En
open PySem PySem.Spec PyProof.Rows L2

def sNever : MS := fun _ _ => .stuck
theorem js_never {X : Cx} {W : WX} {st : Stmt} : JS X W st sNever := PS.imp ps_never fun D σ H ⟨w, ρ, t, rt, rr, p⟩ => p
section
variable {X : Cx} {W : WX} {a b c : Expr} {ma mb mc : ME Val} {pos : Pos}
theorem chain_sim {r r' : R2} {f g : Val → Val → T → R Val} (hs : OpS X.K W r f) (hs' : OpS X.K W r' g) : ∀ σ H Q, tM X.K W (m3c f g ma mb mc) σ H Q → tChain r r' (tM X.K W ma) (tM X.K W mb) (tM X.K W mc) σ H Q := fun σ H Q ⟨w, ρ, t, rt, rr, p⟩ => by
  refine ⟨w, ρ, t, rt, rr, PostE.imp (PostE.bind p) fun w1 H1 v t1 e1 s1 r1 q1 x rx => ?_⟩
  refine ⟨w1, ρ, t1, r1, rr.mono s1, PostE.imp (PostE.bind (q1 t1 e1 r1)) fun w2 H2 u t2 e2 s2 r2 q2 y ry => ?_⟩
  refine hs w2 t2 σ H2 x y v u _ r2 (rx.mono s2) ry (PostE.imp (PostE.bind (q2 t2 e2 r2)) fun w3 H3 z t3 e3 s3 r3 q3 zz rz => ?_)
  obtain ⟨k, ek, q⟩ := asB_inv rz (q3 t3 e3 r3)
  refine ⟨k, ek, ?_⟩
  cases k with
  | false => exact iteF (q.here r3 _ (Rep.bl _))
  | true =>
    refine iteT ⟨w3, ρ, t3, r3, ((rr.mono s1).mono s2).mono s3, PostE.imp (PostE.bind q) fun w4 H4 o t4 e4 s4 r4 q4 oo ro => ?_⟩
    exact hs' w4 t4 σ H4 y oo u o Q r4 ((ry.mono s3).mono s4) ro (q4 t4 e4 r4)
theorem je_chain {op op' : CmpOp} {r r' : R2} {f g : Val → Val → T → R Val} (ho : OpR X (compareOp op) r) (hs : OpS X.K W r f) (ho' : OpR X (compareOp op') r') (hs' : OpS X.K W r' g) (ha : JE X W a ma) (hb : JE X W b mb) (hc : JE X W c mc)
    (hm : lastMarks [op, op'] [b, c] = false := by with_unfolding_all rfl) : JE X W (.Compare a [op, op'] [b, c] pos) (m3c f g ma mb mc) := PE.imp (pe_chain ho ho' ha hb hc hm) (chain_sim hs hs')
theorem jt_chain {op op' : CmpOp} {r r' : R2} {f g : Val → Val → T → R Val} (ho : OpR X (compareOp op) r) (hs : OpS X.K W r f) (ho' : OpR X (compareOp op') r') (hs' : OpS X.K W r' g) (ha : JE X W a ma) (hb : JE X W b mb) (hc : JE X W c mc)
    (hm : lastMarks [op, op'] [b, c] = false := by with_unfolding_all rfl) : JT X W (.Compare a [op, op'] [b, c] pos) (m1 asB (m3c f g ma mb mc)) := PT.imp (pt_chain ho ho' ha hb hc hm) (simB (chain_sim hs hs'))
end
def truB (v : Val) (t : T) : Option Bool := match v with
  | .d .non => some false
  | .d (.bl b) => some b
  | .d (.int i) => some (i != 0)
  | .d (.str x) => if x.length ≤ lim then some ((x.length : Int) != 0) else none
  | v => match asSeq v t with
    | some us => some (!us.isEmpty)
    | none => none
def fTru (v : Val) (t : T) : R Bool := match truB v t with
  | some b => .ok b t
  | none => .stuck
theorem RepVs.isEmpty {K : PySem.W.Frag} {w : Wd} {H : Hp} {xs : List V} {vs : List Val} (h : RepVs K w H xs vs) : (!vs.isEmpty) = !xs.isEmpty := by
  cases h <;> rfl
theorem jt_truth {X : Cx} {W : WX} {e : Expr} {m : ME Val} (h : JE X W e m) (he : ∀ whole, isTrue e X.env whole = (do let v ← whole; standAt e.pos; holding [v] (truthy v)) := by intro _; rfl) : JT X W e (m1 fTru m) :=
  PT.imp (pt_truth h he) fun σ H Q ⟨w, ρ, t, rt, rr, p⟩ => by
    refine ⟨w, ρ, t, rt, rr, PostE.imp (PostE.bind p) fun w1 H1 v t1 e1 s1 r1 q1 x rx => ?_⟩
    have q := q1 t1 e1 r1
    unfold fTru at q
    split at q
    · rename_i b eb
      refine ⟨b, ?_, q.here r1⟩
      unfold truB at eb
      split at eb
      · cases rx; cases eb; rfl
      · cases rx; cases eb; rfl
      · cases rx; cases eb; rfl
      · cases rx
        split at eb
        · rename_i hl
          cases eb
          exact ⟨lim_ok hl, rfl⟩
        · cases eb
      · split at eb
        · rename_i us eu
          cases eb
          obtain ⟨a, ys, rfl, hq, hs⟩ := asSeq_rep r1 rx eu
          rcases hq with hq | hq
          · exact .inl ⟨ys, hq, hs.isEmpty⟩
          · exact .inr (.inl ⟨ys, hq, hs.isEmpty⟩)
        · cases eb
    · exact q.elim
def strMul (x : Str) (n : Int) : Str := if n < 1 then Str.empty else if (n == 1 || x.length == 0) = true then x else ⟨(List.replicate n.toNat x.cps).foldl (· ++ ·) #[]⟩
def rMulS : R2 := fun x y H Q => ∃ z n, x = .str z ∧ y = .int n ∧ -1000 ≤ n ∧ n ≤ 1000 ∧ z.length ≤ 1000 ∧ Q (.str (strMul z n)) H
theorem op_mulS {X : Cx} : OpR X (binaryOp .Mult) rMulS := by
  intro pins s σ H x y v u Q I rx ry h
  obtain ⟨z, n, rfl, rfl, h1, h2, h3, q⟩ := h
  obtain ⟨t, rfl⟩ := rx
  obtain ⟨t', rfl⟩ := ry
  have bnd : ¬ n < 1 → z.length * n.toNat ≤ 1000000 := fun _ => by
    have : n.toNat ≤ 1000 := by omega
    calc z.length * n.toNat ≤ 1000 * 1000 := Nat.mul_le_mul h3 this
      _ = 1000000 := by decide
  refine PySem.P.mul_str (by
      have a1 : ¬ n < -(2 ^ 63 : Int) := by omega
      have a2 : ¬ n ≥ 2 ^ 63 := by omega
      rw [decide_eq_false a1, decide_eq_false a2]; rfl) (fun hn _ => ?_) (fun hn _ => ?_) ?_
  · have hn' : 1 ≤ n := by omega
    have z1 : (1000 : Int) ≤ (2 ^ 63 - 1) / n := by
      refine Int.le_ediv_of_mul_le (by omega) ?_
      have : (1000 : Int) * n ≤ 1000 * 1000 := Int.mul_le_mul_of_nonneg_left h2 (by decide)
      omega
    have z2 : (z.length : Int) ≤ 1000 := by omega
    omega
  · have := bnd hn
    unfold Builtin.Str.tooLong
    simp only [decide_eq_false_iff_not]
    first | omega | (rw [sizeLine_eq] ; omega) | (intro hh; have := lim_ok (n := 0) (by decide); simp_all; omega)
  · unfold strMul at q
    by_cases c1 : n < 1
    · rw [if_pos c1] at q ⊢
      exact ⟨by decide, ⟨.str Str.empty, H, I.tok _, ⟨_, rfl⟩, q⟩⟩
    · rw [if_neg c1] at q ⊢
      by_cases c2 : (n == 1 || z.length == 0) = true
      · rw [if_pos c2] at q ⊢
        exact ⟨.str z, H, I, ⟨_, rfl⟩, q⟩
      · rw [if_neg c2] at q ⊢
        refine ⟨?_, ⟨.str _, H, I.tok _, ⟨_, rfl⟩, q⟩⟩
        refine PySem.fits_reps ?_
        have := bnd c1
        unfold Builtin.Str.tooLong
        simp only [decide_eq_false_iff_not]
        first | omega | (rw [sizeLine_eq] ; omega) | (intro hh; have := lim_ok (n := 0) (by decide); simp_all; omega)
end En
set_option Elab.async false
set_option linter.all false
set_option maxRecDepth 100000
set_option maxHeartbeats 2000000
namespace En
open PySem PySem.Spec PyProof.Rows L2
theorem meets_enum1 {v : Value} {o : Obj} {H : Heap → Prop} (B : Begins v o H) :
    Meets (Builtin.«enumerate.__new__» ⟨[.type "enumerate", v], []⟩) (fun _ R s => H s.heap ∧
      R (.ok (.ret (.ref (s.heap.push o).objs.size))) { s with heap := (s.heap.push o).push { cls := .type "enumerate", data := .fields #[.none, .bool false, .ref s.heap.objs.size, rawInt 0, .none, .none] } }) :=
  .of_wp fun prog w A R s h => by
    obtain ⟨hp, g, d, tk, os⟩ := s; obtain ⟨h1, h⟩ := h
    have hsub := sub_enumerate
    have q1 : ∀ {A' : Around} {E : Value → Shared → Prop} {Q : Value → Shared → Prop}, Q (.ref hp.objs.size) ⟨hp.push o, g, d, tk, os⟩ → wpAny (model prog w) A' (pyIter v) Q E ⟨hp, g, d, tk, os⟩ :=
      fun q => B.iter prog w _ _ ⟨hp, g, d, tk, os⟩ _ h1 q
    wp_walk using q1
    refine wpAny_stack_any fun st => wpAny_pure ?_
    split
    · rename_i c _ _ _ _ _
      cases (c == Value.type "enumerate")
      · wp_walk using q1
        exact ⟨_, rfl, h⟩
      · wp_walk using q1
        exact ⟨_, rfl, h⟩
    · wp_walk using q1
      exact ⟨_, rfl, h⟩
theorem enum_begins1 {prog : Program} {w : World} {A : Around} {E : Value → Shared → Prop} {s : Shared} {v : Value} {o : Obj} {H : Heap → Prop} {Q : Value → Shared → Prop} (B : Begins v o H) (h1 : H s.heap)
    (h : ∀ h', IsEnum h' (s.heap.objs.size + 1) s.heap.objs.size 0 .none → h'.get? s.heap.objs.size = some o → h'.objs.size = s.heap.objs.size + 2 →
      (∀ b o, s.heap.get? b = some o → h'.get? b = some o) → Q (.ref (s.heap.objs.size + 1)) { s with heap := h' }) :
    wpAny (model prog w) A (call (.type "enumerate") [v]) Q E s := by
  refine callType_new F.called_enumerate (by decide) (F.typeCall_enumerate_1 _) (F.newCall_enumerate_1 _) (fun obj => F.args_object_init_2 obj _) F.entry_enumerate_new
    (meets_enum1 B) ⟨h1, ?_⟩
  have hz : (s.heap.push o).objs.size = s.heap.objs.size + 1 := Heap.size_push ..
  show _ ∧ _
  rw [hz]
  have he : IsEnum ((s.heap.push o).push { cls := .type "enumerate", data := .fields #[.none, .bool false, .ref s.heap.objs.size, rawInt 0, .none, .none] }) (s.heap.objs.size + 1) s.heap.objs.size 0 .none := by
    have := Heap.get?_push_size (s.heap.push o) (o := { cls := .type "enumerate", data := .fields #[.none, .bool false, .ref s.heap.objs.size, rawInt 0, .none, .none] }) rfl
    rw [hz] at this; exact this
  refine ⟨⟨_, he, rfl⟩, h _ he (Heap.get?_push_of_some _ (Heap.get?_push_size _ B.free)) (by rw [Heap.size_push, hz]) fun b o x => Heap.get?_push_of_some _ (Heap.get?_push_of_some _ x)⟩
structure Src (P : Program) (w : World) (K : PySem.W.Frag) (it : Addr) (go : Nat → Hp → Prop) (el : Nat → Hp → V → Prop) (stop : Nat → Hp → Prop) (S : Nat → Heap → Prop) : Prop where
  live : ∀ i h, S i h → ∃ o, h.get? it = some o ∧ ∀ v, o.data ≠ .cell v
  keep : ∀ i h h', S i h → (∀ o, h.get? it = some o → h'.get? it = some o) → S i h'
  item : ∀ (X : Cx), X.prog = P → X.w = w → X.K = K → X.calm = true → ∀ (i : Nat) (e : Addr) (pins : List (Addr × Obj)) (s : Shared) (σ : L2.St) (H : Hp) (c : Int) (old : Value), Inv X pins σ H s → IsEnum s.heap e it c old → e ≠ it → S i s.heap → go i H →
    ∃ (fp : List Addr) (n : Nat) (Pr : Nat → Value → Prop) (St : Nat → Heap → Prop), Draws P w X.A.in1 it fp n Pr St ∧ St i s.heap ∧ i < n ∧ e ∉ fp ∧ (∀ h', St (i + 1) h' → S (i + 1) h') ∧ ∀ u, Pr i u → ∃ x, RelV x u ∧ el i H x
  done : ∀ (X : Cx), X.prog = P → X.w = w → X.K = K → X.calm = true → ∀ (i : Nat) (pins : List (Addr × Obj)) (s : Shared) (σ : L2.St) (H : Hp), Inv X pins σ H s → S i s.heap → stop i H →
    ∃ (fp : List Addr) (n : Nat) (Pr : Nat → Value → Prop) (St : Nat → Heap → Prop), Draws P w X.A.in1 it fp n Pr St ∧ St n s.heap
def Ien (go : Nat → Hp → Prop) (el : Nat → Hp → V → Prop) (stop : Nat → Hp → Prop) : It :=
  ⟨go, fun i H v H' => ∃ T x, v = .ref T ∧ H T = none ∧ H' = upd H T (.tup [.int (i : Nat), x]) ∧ el i H x, stop⟩
theorem turn_en {P : Program} {w : World} {K : PySem.W.Frag} {elts : List Expr} {kk : Nat} {tpos : Pos} {e it : Addr} {go : Nat → Hp → Prop} {el : Nat → Hp → V → Prop} {stop : Nat → Hp → Prop} {S : Nat → Heap → Prop} (src : Src P w K it go el stop S) :
    Turn P w K (.Tuple elts kk tpos) (Ien go el stop) [e, it] e (fun i h => (∃ old, IsEnum h e it ((i : Nat) : Int) old) ∧ S i h ∧ e ≠ it) where
  mem := by simp
  obj := fun i h st b hb => by
    obtain ⟨⟨old, he⟩, hs, _⟩ := st
    have e' : b = e ∨ b = it := by simpa using hb
    rcases e' with z | z
    · rw [z]; exact ⟨_, he, fun v q => nomatch q⟩
    · rw [z]; exact src.live i h hs
  keep := fun i h h' st k => let ⟨⟨old, he⟩, hi, hne⟩ := st; ⟨⟨old, k e (by simp) _ he⟩, src.keep i h h' hi fun o q => k it (by simp) o q, hne⟩
  item := by
    intro X hP hw hK hc i pins s σ H E I hf st hg
    obtain ⟨⟨old, he⟩, hit, hne⟩ := st
    obtain ⟨fp, n, Pr, St, D, hst, hlt, hef, hS, hel⟩ := src.item X hP hw hK hc i e pins s σ H _ old I he hne hit hg
    subst hP hw hK
    have hel' : e < s.heap.objs.size := Heap.lt_size he
    have hil : it < s.heap.objs.size := by obtain ⟨_, q, _⟩ := src.live _ _ hit; exact Heap.lt_size q
    refine wpAny_pyNext_enum_itemC D he hst hlt hne hef fun u h' tk hP ho hst' hT hsz hk => ?_
    obtain ⟨x, ru, hx⟩ := hel u hP
    refine ⟨_, rfl, wpAny_letOwnedTupleGo_enum (s := { s with heap := h', toks := tk + 1 }) ho fun h'' he' sb => ?_⟩
    have hT2 : h''.get? s.heap.objs.size = some { cls := .type "tuple", data := .seq #[.int i tk, u] } := (sb.2 _ (Nat.ne_of_gt hel')).trans hT
    have new : ObjOk X.prog X.w (upd H s.heap.objs.size (.tup [.int (i : Nat), x])) h'' s.heap.objs.size (.tup [.int (i : Nat), x]) :=
      ⟨by show 2 ≤ sizeLine; decide, [.int i tk, u], .cons ⟨_, rfl⟩ (.cons ru .nil), ⟨_, hT2, rfl, _, rfl⟩⟩
    have I1 : Inv X pins σ (upd H s.heap.objs.size (.tup [.int (i : Nat), x])) { s with heap := h'', toks := tk + 1 } :=
      I.turnedNew (ch := [e, it]) (fun b ob hb q => (sb.2 b (fun z => hb (by simp [z]))).trans (hk b ob (fun z => hb (by simp [z])) (fun z => hb (by simp [z])) q)) hf (Nat.le_refl _) new
    refine ⟨.ref s.heap.objs.size, _, I1, rfl, ⟨_, x, rfl, I.hok.fresh (Nat.le_refl _), rfl, hx⟩, ⟨⟨u, ?_⟩, src.keep _ _ _ (hS _ hst') fun o q => (sb.2 it (Ne.symm hne)).trans q, hne⟩, fun b hb => ?_⟩
    · have e1 : ((i + 1 : Nat) : Int) = (i : Int) + 1 := by omega
      rw [e1]; exact he'
    · have hb' : b < s.heap.objs.size := by
        have e' : b = e ∨ b = it := by simpa using hb
        rcases e' with z | z
        · rw [z]; exact hel'
        · rw [z]; exact hil
      rw [upd_ne (Nat.ne_of_lt hb')]
      exact (hf b hb).1
  done := by
    intro X hP hw hK hc i pins s σ H E I hf st hg
    obtain ⟨⟨old, he⟩, hit, hne⟩ := st
    obtain ⟨fp, n, Pr, St, D, hst⟩ := src.done X hP hw hK hc i pins s σ H I hit hg
    subst hP hw hK
    obtain ⟨f0, f1, f2, f3, f4, f5⟩ := hf it (by simp)
    exact wpAny_pyNext_enum_endD D he hst fun h' eb => ⟨rfl, I.turned (t' := s.toks) (fun b o hb q => eb b o hb q) f0 f1 f3 f4 f5⟩
  self := fun A i s Q E st h => let ⟨⟨_, he⟩, _⟩ := st; wpAny_pyIter_enum he h
def goT (K : PySem.W.Frag) (a : Addr) (i : Nat) (H : Hp) : Prop := ∃ (xs : List V) (x : V), SqT K H a xs ∧ xs[i]? = some x
def elT (K : PySem.W.Frag) (a : Addr) (i : Nat) (H : Hp) (x : V) : Prop := ∀ xs, SqT K H a xs → xs[i]? = some x
def stT (K : PySem.W.Frag) (a : Addr) (i : Nat) (H : Hp) : Prop := ∃ xs : List V, SqT K H a xs ∧ xs.length = i
theorem src_tup {P : Program} {w : World} {K : PySem.W.Frag} (a it : Addr) : Src P w K it (goT K a) (elT K a) (stT K a) (fun i h => h.IsTupleIter it a i) where
  live := fun i h ⟨o, ho, hc, hd⟩ => ⟨o, ho, fun v q => by rw [hd] at q; cases q⟩
  keep := fun i h h' st k => st.at fun o q => k o q
  item := by
    intro X hP hw hK hc i e pins s σ H c old I he hne hit hg
    subst hP hw hK
    obtain ⟨xs, x, hq, hx⟩ := hg
    obtain ⟨its, rv, p, hz⟩ := I.tuple hq
    obtain ⟨u, hu, ru⟩ := rv.get hx
    obtain ⟨o2, ho2, hc2, n2, hd2⟩ := id p
    have hai : a ≠ it := fun z => by
      obtain ⟨o, ho, hc', hd⟩ := id hit
      subst z
      have e2 := ho.symm.trans ho2
      injection e2 with e2
      rw [← e2, hc'] at hc2
      exact absurd hc2 (by decide)
    have hea : e ≠ a := fun z => by
      subst z
      have e2 : _ = some o2 := he.symm.trans ho2
      injection e2 with e2
      rw [← e2] at hc2
      exact absurd (show Value.type "enumerate" = Value.type "tuple" from hc2) (by decide)
    refine ⟨_, _, _, _, Draws.tuple (A := X.A.in1) (I.ok.hd hc) it a hai its.toArray, ⟨hit, ⟨o2, ho2, hc2, n2, hd2⟩⟩, ?_, ?_, fun h' z => z.1, fun v hv => ?_⟩
    · have := (List.getElem?_eq_some_iff.mp hu).1
      simpa using this
    · simp [hne, hea]
    · have : v = u := by
        have h2 : its[i]? = some v := by simpa using hv
        rw [hu] at h2
        cases h2; rfl
      subst this
      exact ⟨x, ru, fun ys hy => by rw [I.tuple_inj hy hq]; exact hx⟩
  done := by
    intro X hP hw hK hc i pins s σ H I hit hg
    subst hP hw hK
    obtain ⟨xs, hq, hx⟩ := hg
    obtain ⟨its, rv, p, hz⟩ := I.tuple hq
    obtain ⟨o2, ho2, hc2, n2, hd2⟩ := id p
    have hai : a ≠ it := fun z => by
      obtain ⟨o, ho, hc', hd⟩ := id hit
      subst z
      have e2 := ho.symm.trans ho2
      injection e2 with e2
      rw [← e2, hc'] at hc2
      exact absurd hc2 (by decide)
    have hl : its.toArray.size = i := by rw [List.size_toArray, ← rv.length, hx]
    refine ⟨_, _, _, _, Draws.tuple (A := X.A.in1) (I.ok.hd hc) it a hai its.toArray, ?_, ⟨o2, ho2, hc2, n2, hd2⟩⟩
    rw [hl]; exact hit
def goS (x : Str) (i : Nat) (_ : Hp) : Prop := i < x.cps.size
def elS (x : Str) (i : Nat) (_ : Hp) (v : V) : Prop := ∃ c, x.cps[i]? = some c ∧ v = .str ⟨#[c]⟩
def stS (x : Str) (i : Nat) (_ : Hp) : Prop := i = x.cps.size
theorem src_str {P : Program} {w : World} {K : PySem.W.Frag} (it : Addr) (x : Str) (t : Tok) : Src P w K it (goS x) (elS x) (stS x) (fun i h => h.IsStrIter it (strIterType x) x t i) where
  live := fun i h ⟨o, ho, hc, hd⟩ => ⟨o, ho, fun v q => by rw [hd] at q; cases q⟩
  keep := fun i h h' st k => let ⟨o, ho, r⟩ := st; ⟨o, k o ho, r⟩
  item := by
    intro X hP hw hK hc i e pins s σ H c old I he hne hit hg
    subst hP hw hK
    refine ⟨_, _, _, _, Draws.text (A := X.A.in1) (I.ok.hd hc) it x t, hit, hg, by simpa using hne, fun h' z => z, fun v hv => ?_⟩
    obtain ⟨c, u, h1, rfl⟩ := hv
    exact ⟨.str ⟨#[c]⟩, ⟨u, rfl⟩, c, h1, rfl⟩
  done := by
    intro X hP hw hK hc i pins s σ H I hit hg
    subst hP hw hK
    have hg' : i = x.cps.size := hg
    subst hg'
    exact ⟨_, _, _, _, Draws.text (A := X.A.in1) (I.ok.hd hc) it x t, hit⟩
section
variable {X : Cx} {e : Expr} {ta : TA} {p pos tpos : Pos} {elts : List Expr} {kk : Nat}
def iEnumT (K : PySem.W.Frag) (ta : TA) : TI := fun σ H R => ta σ H fun vs H1 => ∃ a xs, vs = [.ref a] ∧ SqT K H1 a xs ∧ R (Ien (goT K a) (elT K a) (stT K a)) H1
def iEnumS (ta : TA) : TI := fun σ H R => ta σ H fun vs H1 => ∃ x, vs = [.str x] ∧ R (Ien (goS x) (elS x) (stS x)) H1
theorem pi_enumT (hg : Gl X "enumerate") (hm : X.mg "enumerate" = none) (ha : PA X [e] ta) (hs : starEach [e] X.env = [(false, eval e X.env)] := by rfl) :
    PI X (.Tuple elts kk tpos) (.Call (.Name "enumerate" p) [e] [] pos) (iEnumT X.K ta) := by
  refine ⟨fun pins s σ H R I h => ?_⟩
  refine Call_ (ld_blt I hg hm boot_enumerate (PyProof.Rows.callWith_type1 (thn (ha.run pos pins s σ H _ I h) fun us s1 ⟨vs, H1, I1, r1, q1⟩ => ?_) hs rfl))
  obtain ⟨a, xs, ex, hq, q⟩ := q1
  subst ex
  cases r1 with
  | cons r rr =>
    cases rr
    cases r
    obtain ⟨its, rv, p', hz⟩ := I1.tuple hq
    refine enum_begins1 (begins_tuple a its.toArray) p' fun h' he hit hsz hk => wpAny_pyIter_enum he ?_
    have I2 : Inv X pins σ H1 { s1 with heap := h' } := I1.kept (t' := s1.toks) hk
    refine ⟨s1.heap.objs.size + 1, [s1.heap.objs.size + 1, s1.heap.objs.size], _, _, H1, rfl, I2, turn_en (e := s1.heap.objs.size + 1) (src_tup a s1.heap.objs.size), ⟨⟨.none, he⟩, ⟨_, hit, rfl, rfl⟩, Nat.succ_ne_self _⟩, fun b hb => ?_, q⟩
    have e' : b = s1.heap.objs.size + 1 ∨ b = s1.heap.objs.size := by simpa using hb
    have hle : s1.heap.objs.size ≤ b := by
      rcases e' with z | z
      · rw [z]; exact Nat.le_add_right _ _
      · rw [z]; exact Nat.le_refl _
    exact I1.fpOk hle (I1.hok.fresh hle)
theorem pi_enumS (hg : Gl X "enumerate") (hm : X.mg "enumerate" = none) (ha : PA X [e] ta) (hs : starEach [e] X.env = [(false, eval e X.env)] := by rfl) :
    PI X (.Tuple elts kk tpos) (.Call (.Name "enumerate" p) [e] [] pos) (iEnumS ta) := by
  refine ⟨fun pins s σ H R I h => ?_⟩
  refine Call_ (ld_blt I hg hm boot_enumerate (PyProof.Rows.callWith_type1 (thn (ha.run pos pins s σ H _ I h) fun us s1 ⟨vs, H1, I1, r1, q1⟩ => ?_) hs rfl))
  obtain ⟨x, ex, q⟩ := q1
  subst ex
  cases r1 with
  | cons r rr =>
    cases rr
    obtain ⟨t, rfl⟩ := r
    refine enum_begins1 (begins_text x t) trivial fun h' he hit hsz hk => wpAny_pyIter_enum he ?_
    have I2 : Inv X pins σ H1 { s1 with heap := h' } := I1.kept (t' := s1.toks) hk
    refine ⟨s1.heap.objs.size + 1, [s1.heap.objs.size + 1, s1.heap.objs.size], _, _, H1, rfl, I2, turn_en (e := s1.heap.objs.size + 1) (src_str s1.heap.objs.size x t), ⟨⟨.none, he⟩, ⟨_, hit, rfl, rfl⟩, Nat.succ_ne_self _⟩, fun b hb => ?_, q⟩
    have e' : b = s1.heap.objs.size + 1 ∨ b = s1.heap.objs.size := by simpa using hb
    have hle : s1.heap.objs.size ≤ b := by
      rcases e' with z | z
      · rw [z]; exact Nat.le_add_right _ _
      · rw [z]; exact Nat.le_refl _
    exact I1.fpOk hle (I1.hok.fresh hle)
end
def pairsFrom : Nat → List D → List Val
  | _, [] => []
  | i, d :: ds => .d (.tup [.int i, d]) :: pairsFrom (i + 1) ds
theorem pairs_get : ∀ {ds : List D} {k i : Nat} {v : Val}, (pairsFrom k ds)[i]? = some v → ∃ d, ds[i]? = some d ∧ v = .d (.tup [.int ((k + i : Nat) : Int), d])
  | [], k, i, v, h => by simp [pairsFrom] at h
  | d :: ds, k, 0, v, h => by
    simp only [pairsFrom, List.getElem?_cons_zero, Option.some.injEq] at h
    exact ⟨d, rfl, h.symm⟩
  | d :: ds, k, i + 1, v, h => by
    simp only [pairsFrom, List.getElem?_cons_succ] at h
    obtain ⟨d', h1, h2⟩ := pairs_get h
    refine ⟨d', by simpa using h1, ?_⟩
    rw [h2]
    have : k + 1 + i = k + (i + 1) := by omega
    rw [this]
theorem pairs_length : ∀ (ds : List D) (k : Nat), (pairsFrom k ds).length = ds.length
  | [], _ => rfl
  | d :: ds, k => by simp only [pairsFrom, List.length_cons, pairs_length ds (k + 1)]
theorem pair_rep {K : PySem.W.Frag} {w' : Wd} {H' : Hp} {t' : T} (r : RelT K w' t' H') {T : Addr} {x : V} {d : D} {i : Nat} (hT : H' T = none) (rx : Rep K (Fz w' H') x d) : RepV K w' (upd H' T (.tup [.int (i : Nat), x])) (.ref T) (.d (.tup [.int ((i : Nat) : Int), d])) :=
  Rep.tup (SqT.of (Fz.new r hT)) (.cons (.int _) (.cons (rx.mono (step_new r hT).fz) .nil))
theorem reps_get {K : PySem.W.Frag} {F : Hp} : ∀ {xs : List V} {ds : List D} {i : Nat} {d : D}, Reps K F xs ds → ds[i]? = some d → ∃ x, xs[i]? = some x ∧ Rep K F x d
  | _, _, i, d, .nil, e => by simp at e
  | _, _, 0, d, .cons h hs, e => by
    simp only [List.getElem?_cons_zero, Option.some.injEq] at e
    subst e
    exact ⟨_, rfl, h⟩
  | _, _, i + 1, d, .cons h hs, e => by
    simp only [List.getElem?_cons_succ] at e ⊢
    exact reps_get hs e
theorem ItOk.enumL {K : PySem.W.Frag} {w : Wd} {H : Hp} {a : Addr} {xs : List V} {ds : List D} (h : Fz w H a = some (.lst xs)) (hs : Reps K (Fz w H) xs ds) : ItOk K w H (Ite K a) (pairsFrom 0 ds) where
  go := fun i v w' H' t' e s r => by
    have h' := (Fz.of (s _ _ h)).1
    obtain ⟨d, ed, rfl⟩ := pairs_get e
    obtain ⟨x, ex, rx⟩ := reps_get (hs.mono s) ed
    refine ⟨⟨xs, x, SqL.of h', ex⟩, fun y H'' q => ?_⟩
    obtain ⟨T, x2, rfl, hT, rfl, q⟩ := q
    have ey := q xs (SqL.of h')
    rw [ex] at ey
    cases ey
    rw [Nat.zero_add]
    exact ⟨.inr ⟨T, _, hT, rfl⟩, pair_rep r hT rx⟩
  stop := fun w' H' t' s r => ⟨xs, SqL.of (Fz.of (s _ _ h)).1, by rw [pairs_length, hs.length]; exact Nat.le_refl _⟩
theorem ItOk.enumT {K : PySem.W.Frag} {w : Wd} {H : Hp} {a : Addr} {xs : List V} {ds : List D} (h : SqT K (Fz w H) a xs) (hs : Reps K (Fz w H) xs ds) : ItOk K w H (Ien (goT K a) (elT K a) (stT K a)) (pairsFrom 0 ds) where
  go := fun i v w' H' t' e s r => by
    have h' : SqT K H' a xs := Fz.ex.sqT (s.sqT h)
    obtain ⟨d, ed, rfl⟩ := pairs_get e
    obtain ⟨x, ex, rx⟩ := reps_get (hs.mono s) ed
    refine ⟨⟨xs, x, h', ex⟩, fun y H'' q => ?_⟩
    obtain ⟨T, x2, rfl, hT, rfl, q⟩ := q
    have ey := q xs h'
    rw [ex] at ey
    cases ey
    rw [Nat.zero_add]
    exact ⟨.inr ⟨T, _, hT, rfl⟩, pair_rep r hT rx⟩
  stop := fun w' H' t' s r => ⟨xs, Fz.ex.sqT (s.sqT h), by rw [pairs_length, hs.length]⟩
def charsD (x : Str) : List D := x.cps.toList.map fun c => .str ⟨#[c]⟩
theorem ItOk.enumS {K : PySem.W.Frag} {w : Wd} {H : Hp} {x : Str} : ItOk K w H (Ien (goS x) (elS x) (stS x)) (pairsFrom 0 (charsD x)) where
  go := fun i v w' H' t' e s r => by
    obtain ⟨d, ed, rfl⟩ := pairs_get e
    simp only [charsD, List.getElem?_map, Option.map_eq_some_iff] at ed
    obtain ⟨c, ec, rfl⟩ := ed
    have hc : x.cps[i]? = some c := by simpa using ec
    refine ⟨(Array.getElem?_eq_some_iff.mp hc).1, fun y H'' q => ?_⟩
    obtain ⟨T, x2, rfl, hT, rfl, c2, q, rfl⟩ := q
    rw [hc] at q
    cases q
    rw [Nat.zero_add]
    exact ⟨.inr ⟨T, _, hT, rfl⟩, pair_rep r hT (.str _)⟩
  stop := fun w' H' t' s r => by
    show _ = _
    rw [pairs_length]
    simp [charsD]
def fEnum (vs : List Val) (t : T) : R (List Val) := match vs with
  | [.d (.str x)] => .ok (pairsFrom 0 (charsD x)) t
  | [.d (.tup ds)] => .ok (pairsFrom 0 ds) t
  | [v] => (fFreeze v t).bind fun v t => match v with
    | .d (.lst ds) => .ok (pairsFrom 0 ds) t
    | _ => .stuck
  | _ => .stuck
theorem ji_enum {X : Cx} {W : WX} {e : Expr} {m : ME (List Val)} {p pos tpos : Pos} {elts : List Expr} {kk : Nat} (hm : X.mg "enumerate" = none) (ha : JA X W [e] m) (hg : Gl X "enumerate" := by rfl) (hs : starEach [e] X.env = [(false, eval e X.env)] := by rfl) :
    JI X W (.Tuple elts kk tpos) (.Call (.Name "enumerate" p) [e] [] pos) (mL fEnum m) :=
  PI.imp (pi_or (pi_enumS hg hm ha hs) (pi_or (pi_enumT hg hm ha hs) (pi_enum hg hm ha hs))) fun σ H R ⟨w, ρ, t, rt, rr, p⟩ => by
    have p2 := PostE.bind p
    cases em : m ρ t with
    | stuck => rw [em] at p2; exact p2.elim
    | exc x tx =>
      refine .inl ⟨w, ρ, t, rt, rr, ?_⟩
      rw [em] at p2 ⊢
      exact p2
    | ok v tv =>
      have kind : (∃ s, v = [.d (.str s)]) ∨ (∃ ds, v = [.d (.tup ds)]) ∨ ((∀ s, v ≠ [.d (.str s)]) ∧ ∀ ds, v ≠ [.d (.tup ds)]) := by
        by_cases h1 : ∃ s, v = [.d (.str s)]
        · exact .inl h1
        · by_cases h2 : ∃ ds, v = [.d (.tup ds)]
          · exact .inr (.inl h2)
          · exact .inr (.inr ⟨fun s z => h1 ⟨s, z⟩, fun s z => h2 ⟨s, z⟩⟩)
      rcases kind with ⟨s, rfl⟩ | ⟨ds, rfl⟩ | ⟨n1, n2⟩
      · refine .inl ⟨w, ρ, t, rt, rr, PostE.imp p2 fun w1 H1 v t1 e1 s1 r1 q x rx => ?_⟩
        rw [em] at e1
        cases e1
        obtain ⟨y, rfl, ry⟩ := rx.one
        cases ry
        exact ⟨s, rfl, (q tv em r1).here r1 _ ItOk.enumS⟩
      · refine .inr (.inl ⟨w, ρ, t, rt, rr, PostE.imp p2 fun w1 H1 v t1 e1 s1 r1 q x rx => ?_⟩)
        rw [em] at e1
        cases e1
        obtain ⟨y, rfl, ry⟩ := rx.one
        have rx' : Rep X.K (Fz w1 H1) y (.tup ds) := ry
        cases rx' with
        | tup h hs => exact ⟨_, _, rfl, Fz.ex.sqT h, (q tv em r1).here r1 _ (ItOk.enumT h hs)⟩
      · refine .inr (.inr ⟨w, ρ, t, rt, rr, PostE.imp p2 fun w1 H1 v' t1 e1 s1 r1 q x rx => ?_⟩)
        rw [em] at e1
        cases e1
        have q1 := q tv em r1
        unfold fEnum at q1
        split at q1
        · exact absurd rfl (n1 _)
        · exact absurd rfl (n2 _)
        · obtain ⟨y, rfl, ry⟩ := rx.one
          obtain ⟨d, w2, t2, s2, r2, rd, q2⟩ := fFreeze_ok r1 ry q1
          split at q2
          · rename_i ds ed
            cases ed
            cases rd with
            | lst h hs => exact ⟨_, _, rfl, SqL.of (Fz.of h).1, q2.here r2 _ (ItOk.enumL h hs)⟩
          · exact q2.elim
        · exact q1.elim
end En
set_option Elab.async false
set_option linter.all false
set_option maxRecDepth 100000
set_option maxHeartbeats 2000000
namespace En
open PySem PySem.Spec PyProof.Rows L2
theorem Reps.flat {K : PySem.W.Frag} {F : Hp} {xs : List V} {ds : List D} (h : Reps K F xs ds) : ∀ n : Nat, Reps K F (List.replicate n xs).flatten (List.replicate n ds).flatten
  | 0 => .nil
  | n + 1 => by
    rw [List.replicate_succ, List.replicate_succ, List.flatten_cons, List.flatten_cons]
    exact h.app (Reps.flat h n)
theorem RepVs.flat {K : PySem.W.Frag} {w : Wd} {H : Hp} {xs : List V} {ds : List Val} (h : RepVs K w H xs ds) : ∀ n : Nat, RepVs K w H (List.replicate n xs).flatten (List.replicate n ds).flatten
  | 0 => .nil
  | n + 1 => by
    rw [List.replicate_succ, List.replicate_succ, List.flatten_cons, List.flatten_cons]
    exact h.app (RepVs.flat h n)
def rMulAll (K : PySem.W.Frag) : R2 := fun x y H Q => rI CMul (fun i j => .int (i * j)) x y H Q ∨ rMulS x y H Q ∨ rRep x y H Q ∨ rRepT K x y H Q
theorem op_mulAll {X : Cx} : OpR X (binaryOp .Mult) (rMulAll X.K) := op_mul.or (op_mulS.or (op_rep.or op_repT))
def okK (n : Nat) (k : Int) : Bool := decide (-1000 ≤ k) && decide (k ≤ 1000) && decide (n ≤ 1000)
theorem okK_of {n : Nat} {k : Int} (h : okK n k = true) : -1000 ≤ k ∧ k ≤ 1000 ∧ n ≤ 1000 := by
  unfold okK at h
  simp only [Bool.and_eq_true, decide_eq_true_eq] at h
  exact ⟨h.1.1, h.1.2, h.2⟩
theorem okK_mul {n : Nat} {k : Int} (h : okK n k = true) : n * k.toNat ≤ 1000000 := by
  obtain ⟨h1, h2, h3⟩ := okK_of h
  have : k.toNat ≤ 1000 := by omega
  calc n * k.toNat ≤ 1000 * 1000 := Nat.mul_le_mul h3 this
    _ = 1000000 := by decide
def fMul (a b : Val) (t : T) : R Val := match a, b with
  | .d (.int i), .d (.int j) => if cMul i j then retI (i * j) t else .stuck
  | .d (.str x), .d (.int k) => if okK x.length k then .ok (.d (.str (strMul x k))) t else .stuck
  | .d (.tup xs), .d (.int k) => if okK xs.length k && decide (2 ≤ k) && !xs.isEmpty then .ok (.d (.tup (List.replicate k.toNat xs).flatten)) t else .stuck
  | a, .d (.int k) => (match asList a t with
    | some vs => if okK vs.length k then (match datas (List.replicate k.toNat vs).flatten with
      | some ds => .ok (.d (.lst ds)) t
      | none => .stuck) else .stuck
    | none => .stuck)
  | _, _ => .stuck
theorem big_lim {n : Nat} (h : n ≤ 1000000) : n ≤ sizeLine := by
  rw [sizeLine_eq]; omega
theorem s_mul {K : PySem.W.Frag} {W : WX} : OpS K W (rMulAll K) fMul := by
  intro w t σ H x y a b Q r rx ry p
  unfold fMul at p
  split at p
  · cases rx; cases ry
    split at p
    · rename_i hc
      exact .inl ⟨_, _, rfl, rfl, cMulOk hc, p.here r _ (Rep.int _)⟩
    · exact p.elim
  · cases rx; cases ry
    split at p
    · rename_i hc
      obtain ⟨h1, h2, h3⟩ := okK_of hc
      exact .inr (.inl ⟨_, _, rfl, rfl, h1, h2, h3, p.here r _ (Rep.str _)⟩)
    · exact p.elim
  · rename_i xs k
    split at p
    · rename_i hc
      simp only [Bool.and_eq_true, decide_eq_true_eq] at hc
      obtain ⟨⟨hc, h4⟩, h5⟩ := hc
      obtain ⟨h1, h2, h3⟩ := okK_of hc
      obtain ⟨a1, us, rfl, q1, hs1⟩ := asTup_rep (v := .d (.tup xs)) rx rfl
      cases ry
      refine .inr (.inr (.inr ⟨a1, k, us, rfl, rfl, q1, ?_, h4, h2, by rw [hs1.length]; exact h3, new_tup r (hs1.flat _) p⟩))
      intro e
      subst e
      cases hs1
      simp at h5
    · exact p.elim
  · rename_i a' k _ _ _
    split at p
    · rename_i vs ev
      split at p
      · rename_i hc
        split at p
        · rename_i ds ed
          obtain ⟨a1, us, rfl, q1, hs1⟩ := asList_rep r rx ev
          cases ry
          obtain ⟨h1, h2, h3⟩ := okK_of hc
          refine .inr (.inr (.inl ⟨a1, k, us, rfl, rfl, q1, by omega, by omega, ?_, new_lst r (datas_rep ed (hs1.flat _)) p⟩))
          rw [hs1.length]
          exact big_lim (okK_mul hc)
        · exact p.elim
      · exact p.elim
    · exact p.elim
  · exact p.elim
def fMulL (a b : Val) (t : T) : R (List Val) := match b with
  | .d (.int k) => (match asList a t with
    | some vs => if okK vs.length k then .ok (List.replicate k.toNat vs).flatten t else .stuck
    | none => .stuck)
  | _ => .stuck
theorem jl_mul {X : Cx} {W : WX} {a b : Expr} {ma mb : ME Val} {pos : Pos} (ha : JE X W a ma) (hb : JE X W b mb) : JL X W (.BinOp a .Mult b pos) (m2 fMulL ma mb) :=
  PE.imp (pe_op op_rep ha hb) fun σ H Q ⟨w, ρ, t, rt, rr, p⟩ => by
    refine ⟨w, ρ, t, rt, rr, PostE.imp (PostE.bind p) fun w1 H1 x t1 e1 s1 r1 q1 vx rx => ?_⟩
    refine ⟨w1, ρ, t1, r1, rr.mono s1, PostE.imp (PostE.bind (q1 t1 e1 r1)) fun w2 H2 y t2 e2 s2 r2 q2 vy ry => ?_⟩
    have q := q2 t2 e2 r2
    have rx2 := rx.mono s2
    unfold fMulL at q
    split at q
    · rename_i k
      split at q
      · rename_i vs ev
        split at q
        · rename_i hc
          obtain ⟨a1, us, rfl, q1, hs1⟩ := asList_rep r2 rx2 ev
          cases ry
          obtain ⟨h1, h2, h3⟩ := okK_of hc
          refine ⟨a1, k, us, rfl, rfl, q1, by omega, by omega, ?_, fun p hp => q.here r2 p _ hp (hs1.flat _)⟩
          rw [hs1.length]
          exact big_lim (okK_mul hc)
        · exact q.elim
      · exact q.elim
    · exact q.elim
def cPow (i j : Int) : Bool := decide (0 ≤ j) && decide (j ≤ 1000000) && decide (i.natAbs < 2 ^ 64)
def fPow := fInt2 (fun i j => i ^ j.toNat) cPow
theorem s_pow {K : PySem.W.Frag} {W : WX} : OpS K W (rI CPow fun i j => .int (i ^ j.toNat)) fPow := s_int2 fun i j h => by
  unfold cPow at h
  simp only [Bool.and_eq_true, decide_eq_true_eq] at h
  exact ⟨h.1.1, h.1.2, h.2⟩
def tyS (v : Val) (t : T) : Option String := match v with
  | .d .non => some "NoneType"
  | .d (.bl _) => some "bool"
  | .d (.int _) => some "int"
  | .d (.str _) => some "str"
  | .d (.tup _) => some "tuple"
  | .d (.lst _) => some "list"
  | .d (.scr _) => some "list"
  | .loc n => (match t.st[n]? with
    | some (.lst _) => some "list"
    | some (.dK _) => some "dict"
    | _ => none)
  | _ => none
theorem sqL_ty {K : PySem.W.Frag} {H : Hp} {a : Addr} {xs : List V} (h : SqL K H a xs) : TyX K H (.ref a) (.type "list") := by
  rcases h with (h | ⟨o, h⟩) | ⟨o, its, n, hk, hc, _⟩
  · exact .base (.lst h)
  · exact .base (.frz h)
  · exact .kList hk hc
theorem sqT_ty {K : PySem.W.Frag} {H : Hp} {a : Addr} {xs : List V} (h : SqT K H a xs) : TyX K H (.ref a) (.type "tuple") := by
  rcases h with (h | ⟨o, h⟩) | ⟨o, its, n, hk, hc, _⟩
  · exact .base (.tup h)
  · exact .fTuple h
  · exact .kTuple hk hc
theorem tyS_ok {K : PySem.W.Frag} {w : Wd} {t : T} {H : Hp} {x : V} {v : Val} {n : String} (r : RelT K w t H) (rx : RepV K w H x v) (e : tyS v t = some n) : TyX K H x (.type n) := by
  unfold tyS at e
  split at e
  · cases rx; cases e; exact .base .non
  · cases rx; cases e; exact .base (.bl _)
  · cases rx; cases e; exact .base (.int _)
  · cases rx; cases e; exact .base (.str _)
  · rename_i ds
    cases e
    have rx' : Rep K (Fz w H) x (.tup ds) := rx
    cases rx' with
    | tup h hs => exact sqT_ty (Fz.ex.sqT h)
  · rename_i ds
    cases e
    have rx' : Rep K (Fz w H) x (.lst ds) := rx
    cases rx' with
    | lst h hs => exact .base (.lst (Fz.of h).1)
  · rename_i ds
    cases e
    have rx' : Rep K (Fz w H) x (.scr ds) := rx
    cases rx' with
    | scr h => exact sqL_ty (Fz.ex.sqL h)
  · split at e
    · rename_i xs ec
      cases e
      obtain ⟨a, rfl, _, ys, h, _⟩ := loc_live r rx ec (fun z => nomatch z)
      exact .base (.lst h)
    · rename_i xs ec
      cases e
      obtain ⟨a, rfl, _, ys, h, _⟩ := loc_live r rx ec (fun z => nomatch z)
      exact .base (.dK h)
    · cases e
  · cases e
def kitTab : List String := ["NoneType", "bool", "int", "str", "tuple", "list", "dict"]
def kitT (a b : String) : Bool := decide (a = b) || (decide (a = "bool") && decide (b = "int"))
theorem kitT_ok : ∀ a ∈ kitTab, ∀ b ∈ kitTab, kitB a b = some (kitT a b) := by decide +kernel
theorem tyS_mem {v : Val} {t : T} {n : String} (e : tyS v t = some n) : n ∈ kitTab := by
  unfold tyS at e
  split at e
  all_goals first
    | (cases e; decide)
    | (split at e <;> first | (cases e; decide) | cases e)
    | cases e
def kitAnyT (a : String) (bs : List String) : Bool := bs.any fun b => kitT a b
theorem kitAnyT_ok {K : PySem.W.Frag} {a : String} (ha : a ∈ kitTab) : ∀ {bs : List String}, (∀ b ∈ bs, b ∈ kitTab) → PySem.W.kitAny K (.type a) (bs.map Value.type) = some (kitAnyT a bs)
  | [], _ => rfl
  | b :: bs, h => by
    refine kitAny_cons (kit_ty (kitT_ok a ha b (h b (List.mem_cons_self ..)))) (fun e => ?_) fun e => ?_
    · rw [kitAnyT_ok ha fun c hc => h c (List.mem_cons_of_mem _ hc)]
      simp only [kitAnyT, List.any_cons, e, Bool.false_or]
    · simp only [kitAnyT, List.any_cons, e, Bool.true_or]
def fIsi (bs : List String) (v : Val) (t : T) : R Val := match tyS v t with
  | some a => retB (kitAnyT a bs) t
  | none => .stuck
theorem je_isi {X : Cx} {W : WX} {e : Expr} {m : ME Val} {b : String} {bn : Str} {p p2 pos : Pos} (hm : X.mg "isinstance" = none) (hmb : X.mg bn = none) (he : JE X W e m) (hb : b ∈ kitTab := by decide) (hg : Gl X "isinstance" := by rfl) (hgb : Gl X bn := by rfl) (hbn : bootBuiltins bn = some (.type b) := by decide +kernel)
    (hn : bn ≠ "__name__" := by decide) (hdb : (bn == ("__debug__" : Str)) = false := by decide)
    (hs1 : starEach [e, .Name bn p2] X.env = (false, eval e X.env) :: starEach [.Name bn p2] X.env := by rfl) (hs2 : starEach [.Name bn p2] X.env = (false, eval (.Name bn p2) X.env) :: starEach [] X.env := by rfl) (hpl : (backTo pos (starEach [.Name bn p2] X.env)).any (·.1) = false := by rfl) :
    JE X W (.Call (.Name "isinstance" p) [e, .Name bn p2] [] pos) (m1 (fIsi [b]) m) :=
  PE.imp (pe_callB call_isi hg hm (by decide +kernel) (pa_cons he (pa_cons (pe_bltn (v := .ty b) hgb hmb hbn rfl hn hdb) pa_nil hs2) hs1) (by decide) (by decide) hs1 hpl) fun σ H Q ⟨w, ρ, t, rt, rr, p⟩ => by
    refine ⟨w, ρ, t, rt, rr, PostE.imp (PostE.bind p) fun w1 H1 v t1 e1 s1 r1 q1 x rx => ?_⟩
    have q := q1 t1 e1 r1
    unfold fIsi at q
    split at q
    · rename_i a ea
      refine ⟨x, .ty b, .type a, .type b, kitAnyT a [b], rfl, .ty b, tyS_ok r1 rx ea, ?_, q.here r1 _ (Rep.bl _)⟩
      rw [kit_ty (kitT_ok a (tyS_mem ea) b hb)]
      simp [kitAnyT]
    · exact q.elim
theorem je_isi2 {X : Cx} {W : WX} {e : Expr} {m : ME Val} {b c : String} {bn cn : Str} {k : Nat} {p p2 p3 p4 pos : Pos} (hm : X.mg "isinstance" = none) (hmb : X.mg bn = none) (hmc : X.mg cn = none) (he : JE X W e m) (hb : b ∈ kitTab := by decide) (hc : c ∈ kitTab := by decide) (hg : Gl X "isinstance" := by rfl) (hgb : Gl X bn := by rfl) (hgc : Gl X cn := by rfl)
    (hbn : bootBuiltins bn = some (.type b) := by decide +kernel) (hcn : bootBuiltins cn = some (.type c) := by decide +kernel)
    (hn : bn ≠ "__name__" := by decide) (hdb : (bn == ("__debug__" : Str)) = false := by decide) (hnc : cn ≠ "__name__" := by decide) (hdc : (cn == ("__debug__" : Str)) = false := by decide)
    (hs1 : starEach [e, .Tuple [.Name bn p2, .Name cn p3] k p4] X.env = (false, eval e X.env) :: starEach [.Tuple [.Name bn p2, .Name cn p3] k p4] X.env := by rfl) (hs2 : starEach [.Tuple [.Name bn p2, .Name cn p3] k p4] X.env = (false, eval (.Tuple [.Name bn p2, .Name cn p3] k p4) X.env) :: starEach [] X.env := by rfl)
    (hpl : (backTo pos (starEach [.Tuple [.Name bn p2, .Name cn p3] k p4] X.env)).any (·.1) = false := by rfl)
    (hs3 : starEach [.Name bn p2, .Name cn p3] X.env = (false, eval (.Name bn p2) X.env) :: starEach [.Name cn p3] X.env := by rfl) (hs4 : starEach [.Name cn p3] X.env = (false, eval (.Name cn p3) X.env) :: starEach [] X.env := by rfl) :
    JE X W (.Call (.Name "isinstance" p) [e, .Tuple [.Name bn p2, .Name cn p3] k p4] [] pos) (m1 (fIsi [b, c]) m) :=
  PE.imp (pe_callB call_isiT hg hm (by decide +kernel) (pa_cons he (pa_cons (pe_tup (pa_cons (pe_bltn (v := .ty b) hgb hmb hbn rfl hn hdb) (pa_cons (pe_bltn (v := .ty c) hgc hmc hcn rfl hnc hdc) pa_nil hs4) hs3)) pa_nil hs2) hs1) (by decide) (by decide) hs1 hpl) fun σ H Q ⟨w, ρ, t, rt, rr, p⟩ => by
    refine ⟨w, ρ, t, rt, rr, PostE.imp (PostE.bind p) fun w1 H1 v t1 e1 s1 r1 q1 x rx => ?_⟩
    have q := q1 t1 e1 r1
    unfold fIsi at q
    split at q
    · rename_i a ea
      refine ⟨lim_ok (by show 2 ≤ lim; decide), fun tp htp => ?_⟩
      have st := step_new (o := .tup [.ty b, .ty c]) r1 htp
      have rn := r1.new (o := .tup [.ty b, .ty c]) htp
      refine ⟨x, tp, [.ty b, .ty c], .type a, [.type b, .type c], kitAnyT a [b, c], rfl, upd_same, .cons (.ty b) (.cons (.ty c) .nil), tyS_ok rn (rx.mono st) ea, kitAnyT_ok (tyS_mem ea) (bs := [b, c]) (fun z hz => ?_), q _ _ st rn _ (Rep.bl _)⟩
      have hz' : z = b ∨ z = c := by simpa using hz
      rcases hz' with rfl | rfl
      · exact hb
      · exact hc
    · exact q.elim
def rSortD (K : PySem.W.Frag) : List V → Hp → VK → Prop := fun vs H Q => ∃ (a : Addr) (bs : List (V × PyData)), vs = [.ref a] ∧ SqL K H a (bs.map (·.1)) ∧ (∀ b ∈ bs, Dp K H b.1 b.2) ∧ PySem.W.AllAlike (bs.map (·.2)) ∧ PySem.W.Sortable (bs.map (·.2)) ∧ (∀ b ∈ bs, b.2.depth ≤ 60) ∧
  ∀ p, H p = none → Q (.ref p) (upd H p (.lst ((bs.mergeSort (PySem.W.dataLe false (·.2))).map (·.1))))
theorem eachR {R : Value → (V × PyData) → Prop} : ∀ {bs : List (V × PyData)} {its : List Value}, Vals (bs.map (·.1)) its → (∀ b ∈ bs, ∀ u, RelV b.1 u → R u b) → PySem.W.EachIs R its bs
  | [], _, .nil, _ => .nil
  | b :: bs, _, .cons r rs, h => .cons (h b (List.mem_cons_self ..) _ r) (eachR rs fun c hc u ru => h c (List.mem_cons_of_mem _ hc) u ru)
theorem each_vals : ∀ {out : List Value} {cs : List (V × PyData)}, PySem.W.EachIs (fun u (b : V × PyData) => RelV b.1 u) out cs → Vals (cs.map (·.1)) out
  | _, _, .nil => .nil
  | _, _, .cons h hs => .cons h (each_vals hs)
theorem cr_sortD {X : Cx} (hu : X.A.units + 65 < cLine) : CallR X (.builtin "sorted") (rSortD X.K) := by
  intro pins s σ H vs us Q I r h
  obtain ⟨a, bs, rfl, hs, hd, hal, hk, hdep, q⟩ := h
  obtain ⟨its, rv, hl, hz⟩ := I.list hs
  rw [Vals.ref1 r]
  refine PySem.W.sorted_data (R := fun u (b : V × PyData) => RelV b.1 u) (enc := (·.2)) hl.isList (eachR rv fun b _ u ru => ru) (eachR rv fun b hb u ru => Dp.reads I b.2 b.1 u (hd b hb) ru) hal hk (by rw [List.length_map] at hz; exact hz) (fun b hb => by have := hdep b hb; show X.A.units + 2 + b.2.depth < cLine; omega) fun out ho eo => ?_
  obtain ⟨ep, he'⟩ := PyProof.Rows.sortedAll_at s.heap its out.toArray
  have hlen : ((bs.mergeSort (PySem.W.dataLe false (·.2))).map (·.1)).length ≤ sizeLine := by
    rw [List.length_map, List.length_mergeSort]
    rw [List.length_map] at hz
    exact hz
  exact ⟨.ref _, upd H (s.heap.objs.size + 1) (.lst ((bs.mergeSort (PySem.W.dataLe false (·.2))).map (·.1))), I.laid (t' := s.toks) (fun _ _ => PyProof.Rows.sortedAll_old) (Nat.le_succ _) ⟨hlen, out, ep, each_vals eo, he'⟩, rfl, q _ (I.hok.fresh (Nat.le_succ _))⟩
def withPy : List D → Option (List (D × PyData))
  | [] => some []
  | d :: ds => match toPy d, withPy ds with
    | some y, some ys => some ((d, y) :: ys)
    | _, _ => none
def alikeB (ds : List PyData) : Bool := ds.all fun d => ds.all fun d' => PySem.W.alike d d'
def isTup1 : PyData → Bool
  | .tuple (_ :: _) => true
  | _ => false
def notTN : PyData → Bool
  | .none => false
  | .tuple _ => false
  | _ => true
def sortB (ds : List PyData) : Bool := ds.all isTup1 || ds.all notTN
theorem alikeB_ok {ds : List PyData} (h : alikeB ds = true) : PySem.W.AllAlike ds := fun d hd d' hd' => by
  have := List.all_eq_true.mp (List.all_eq_true.mp h d hd) d' hd'
  exact this
theorem sortB_ok {ds : List PyData} (h : sortB ds = true) : PySem.W.Sortable ds := by
  rcases Bool.or_eq_true_iff.mp h with h | h
  · refine .inl fun d hd => ?_
    have := List.all_eq_true.mp h d hd
    unfold isTup1 at this
    split at this
    · exact ⟨_, _, rfl⟩
    · cases this
  · refine .inr fun d hd => ?_
    have := List.all_eq_true.mp h d hd
    unfold notTN at this
    split at this
    · cases this
    · cases this
    · rename_i n1 n2
      exact ⟨n1, fun xs e => n2 xs e⟩
def sortD (bs : List (D × PyData)) : List D := (bs.mergeSort (PySem.W.dataLe false (·.2))).map (·.1)
def okSort (bs : List (D × PyData)) : Bool := alikeB (bs.map (·.2)) && (sortB (bs.map (·.2)) && bs.all fun b => decide (b.2.depth ≤ 60))
def sortV (us : List Val) : Option (List D) := match datas us with
  | some ds => (match withPy ds with
    | some bs => if okSort bs then some (sortD bs) else none
    | none => none)
  | none => none
theorem withPy_rep {K : PySem.W.Frag} {F H : Hp} (e : Ex F H) : ∀ {ds : List D} {bs : List (D × PyData)} {xs : List V}, withPy ds = some bs → Reps K F xs ds → ∃ cs : List ((V × PyData) × D), cs.map (fun c => c.1.1) = xs ∧ cs.map (fun c => (c.2, c.1.2)) = bs ∧ ∀ c ∈ cs, Dp K H c.1.1 c.1.2 ∧ Rep K F c.1.1 c.2
  | [], _, _, h, .nil => by cases h; exact ⟨[], rfl, rfl, fun _ z => nomatch z⟩
  | d :: ds, _, _, h, .cons (v := x) hr hs => by
    simp only [withPy] at h
    split at h
    · rename_i y ys ey eys
      cases h
      obtain ⟨cs, h1, h2, h3⟩ := withPy_rep e eys hs
      refine ⟨((x, y), d) :: cs, by simp [h1], by simp [h2], fun c hc => ?_⟩
      rcases List.mem_cons.mp hc with rfl | hc
      · exact ⟨toPy_dp e ey hr, hr⟩
      · exact h3 c hc
    · cases h
theorem reps_of {K : PySem.W.Frag} {F : Hp} : ∀ {cs : List ((V × PyData) × D)}, (∀ c ∈ cs, Rep K F c.1.1 c.2) → Reps K F (cs.map fun c => c.1.1) (cs.map fun c => c.2)
  | [], _ => .nil
  | c :: cs, h => .cons (h c (List.mem_cons_self ..)) (reps_of fun d hd => h d (List.mem_cons_of_mem _ hd))
theorem sortV_ok {K : PySem.W.Frag} {w : Wd} {H : Hp} {us : List Val} {xs : List V} {ds : List D} {a : Addr} {Q : VK} (hs : RepVs K w H xs us) (hq : SqL K H a xs) (e : sortV us = some ds)
    (q : ∀ p ys, H p = none → Reps K (Fz w H) ys ds → Q (.ref p) (upd H p (.lst ys))) : rSortD K [.ref a] H Q := by
  unfold sortV at e
  split at e
  · rename_i es ee
    split at e
    · rename_i bs eb
      split at e
      · rename_i hok
        cases e
        obtain ⟨cs, h1, h2, h3⟩ := withPy_rep (Fz.ex (w := w) (H := H)) eb (datas_rep ee hs)
        unfold okSort at hok
        simp only [Bool.and_eq_true] at hok
        obtain ⟨o1, o2, o3⟩ := hok
        have m2 : (cs.map fun c => c.1).map (·.2) = bs.map (·.2) := by rw [← h2]; simp [Function.comp_def]
        have m1 : (cs.map fun c => c.1).map (·.1) = xs := by rw [← h1]; simp [Function.comp_def]
        refine ⟨a, cs.map fun c => c.1, rfl, by rw [m1]; exact hq, fun b hb => ?_, by rw [m2]; exact alikeB_ok o1, by rw [m2]; exact sortB_ok o2, fun b hb => ?_, fun p hp => ?_⟩
        · obtain ⟨c, hc, rfl⟩ := List.mem_map.mp hb
          exact (h3 c hc).1
        · obtain ⟨c, hc, rfl⟩ := List.mem_map.mp hb
          have hm : (c.2, c.1.2) ∈ bs := by rw [← h2]; exact List.mem_map.mpr ⟨c, hc, rfl⟩
          exact of_decide_eq_true (List.all_eq_true.mp o3 _ hm)
        · have e1 : ((cs.map fun c => c.1).mergeSort (PySem.W.dataLe false (·.2))) = (cs.mergeSort (PySem.W.dataLe false fun c => c.1.2)).map fun c => c.1 := (List.map_mergeSort (f := fun c : (V × PyData) × D => c.1) (fun _ _ _ _ => rfl)).symm
          have e2 : sortD bs = (cs.mergeSort (PySem.W.dataLe false fun c => c.1.2)).map fun c => c.2 := by
            unfold sortD
            rw [← h2, ← List.map_mergeSort (r := PySem.W.dataLe false fun c => c.1.2) (f := fun c : (V × PyData) × D => (c.2, c.1.2)) (fun _ _ _ _ => rfl), List.map_map]
            rfl
          rw [e1, List.map_map]
          refine q p _ hp ?_
          rw [e2]
          exact reps_of fun c hc => (h3 c ((List.mergeSort_perm ..).mem_iff.mp hc)).2
      · cases e
    · cases e
  · cases e
def fSorted (vs : List Val) (t : T) : R Val := match vs with
  | [v] => (match asList v t with
    | some us => (match sortV us with
      | some ds => .ok (.d (.lst ds)) t
      | none => .stuck)
    | none => .stuck)
  | _ => .stuck
theorem c_sorted {K : PySem.W.Frag} {W : WX} : CallS K W (rSortD K) fSorted := by
  intro w t σ H xs vs Q r rx p
  unfold fSorted at p
  split at p
  · split at p
    · rename_i us eu
      split at p
      · rename_i ds ed
        obtain ⟨x, rfl, rx1⟩ := rx.one
        obtain ⟨a, ys, rfl, hq, hs⟩ := asList_rep r rx1 eu
        exact sortV_ok hs (SqL.of hq) ed fun p' zs hp hz => new_lst r hz p p' hp
      · exact p.elim
    · exact p.elim
  · exact p.elim
end En
set_option Elab.async false
set_option linter.all false
set_option maxRecDepth 100000
set_option maxHeartbeats 2000000
namespace En
open PySem PySem.Spec PyProof.Rows L2
theorem contains_own {M : Model} {A : Around} {E : Value → Shared → Prop} {s : Shared} {K : PySem.W.Frag} {x C f : Addr} {ox : Obj} {od : Option Obj} {v : Value} {Q : Bool → Shared → Prop} (X : K.In s.heap) (I : PySem.W.InstAt s.heap x ox C od) (hs : PySem.W.findIn K (.ref C) "__contains__" = some (some (.ref f))) (hf : PySem.W.isFn K (.ref f) = true)
    (h : wpAny M A (call (.ref f) [.ref x, v]) (fun r s' => wpAny M A (truthy r) Q E s') E s) : wpAny M A (contains (.ref x) v) Q E s := by
  unfold contains
  refine wpAny_holding (wpAny_bind (wpAny_bind (I.type.here ((PySem.W.looks_findIn X hs).here ?_))))
  rw [if_neg (by simp)]
  exact wpAny_bind (PySem.W.unlessNone_K X I hs hf h)
def rInO (K : PySem.W.Frag) (c : Str) (sp : Sp) (neg : Bool) : R2 := fun x y H Q => ∃ a dx fs, y = .ref a ∧ H a = some (.ins (He.ga K c) dx fs) ∧ sp [.ref a, x] H (fun v H' => ∃ b, v = .bl b ∧ Q (.bl (xor neg b)) H') E0
section
variable {X : Cx} {k : Nat} {f : Addr} {fd : FuncData} {ps : List Str} {c : Str} {sp : Sp} {mf : MF}
theorem op_inO (hm : Meth X.K (He.ga X.K c) "__contains__" f) (F : FnOk X.prog X.w X.K X.mg X.base (L2.CX X.prog X.w) k f fd ps sp) (hr : Room k X.A) (hb : Binds X.K fd ps []) : OpR X (compareOp .In) (rInO X.K c sp false) := by
  intro pins s σ H x y v u Q I rx ry h
  obtain ⟨a, dx, fs, rfl, ha, q⟩ := h
  obtain rfl : u = Value.ref a := ry
  obtain ⟨mA, O, _, _, _, _⟩ := ins_get I.hok ha
  obtain ⟨od, J, _⟩ := O.look
  refine wpAny_bind (contains_own I.kIn J hm.at_ hm.fn (thn (run_fn (us := [.ref a, v]) (vs := [.ref a, x]) (dvs := []) F hr hb .nil passL I (.cons rfl (.cons rx .nil)) q) fun r s1 ⟨z, H1, I1, rz, b, ez, q1⟩ => ?_))
  subst ez
  obtain rfl : r = Value.bool b := rz
  refine wpAny_truthy_bool (wpAny_pure ⟨.bl b, H1, I1, rfl, ?_⟩)
  have e : xor false b = b := by cases b <;> rfl
  rw [e] at q1
  exact q1
theorem op_notInO (hm : Meth X.K (He.ga X.K c) "__contains__" f) (F : FnOk X.prog X.w X.K X.mg X.base (L2.CX X.prog X.w) k f fd ps sp) (hr : Room k X.A) (hb : Binds X.K fd ps []) : OpR X (compareOp .NotIn) (rInO X.K c sp true) := by
  intro pins s σ H x y v u Q I rx ry h
  obtain ⟨a, dx, fs, rfl, ha, q⟩ := h
  obtain rfl : u = Value.ref a := ry
  obtain ⟨mA, O, _, _, _, _⟩ := ins_get I.hok ha
  obtain ⟨od, J, _⟩ := O.look
  refine wpAny_bind (contains_own I.kIn J hm.at_ hm.fn (thn (run_fn (us := [.ref a, v]) (vs := [.ref a, x]) (dvs := []) F hr hb .nil passL I (.cons rfl (.cons rx .nil)) q) fun r s1 ⟨z, H1, I1, rz, b, ez, q1⟩ => ?_))
  subst ez
  obtain rfl : r = Value.bool b := rz
  refine wpAny_truthy_bool (wpAny_pure ⟨.bl (!b), H1, I1, rfl, ?_⟩)
  have e : xor true b = !b := by cases b <;> rfl
  rw [e] at q1
  exact q1
end
def fInO (c : Str) (mf : MF) (neg : Bool) (a b : Val) (t : T) : R Val := match clsOf b with
  | some c' => if c' = c then (noX (fCall mf [b, a] t)).bind fun v t => (match v with
    | .d (.bl k) => .ok (.d (.bl (xor neg k))) t
    | _ => .stuck) else .stuck
  | none => .stuck
theorem s_inO {K : PySem.W.Frag} {W : WX} {c : Str} {mf : MF} {neg : Bool} : OpS K W (rInO K c (spF K 2 mf) neg) (fInO c mf neg) := by
  intro w t σ H x y a b Q r rx ry p
  unfold fInO at p
  split at p
  · rename_i c' ec
    split at p
    · rename_i hcc
      subst hcc
      obtain ⟨_, a1, dx, fs, rfl, ha⟩ := clsOf_rep ry ec
      refine ⟨a1, dx, fs, rfl, ha, ?_⟩
      refine call_sim0 (K := K) (W := W) (σ := σ) rfl r (.cons ry (.cons rx .nil)) ?_
      refine PostE.imp (PostE.bind p) fun w1 H1 v t1 e1 s1 r1 q1 z rz => ?_
      have q := q1 t1 e1 r1
      split at q
      · rename_i k
        cases rz
        exact ⟨k, rfl, q.here r1 _ (Rep.bl _)⟩
      · exact q.elim
    · exact p.elim
  · exact p.elim
def tMethS (C : Addr) (m : Str) (sp : Sp) (E : L2.St → XK) (ta : TE) (t : TA) : TE := fun σ H Q => ta σ H fun x H1 => ∃ a dx fs, x = .ref a ∧ H1 a = some (.ins C dx fs) ∧ fs.lookup m = none ∧ t σ H1 fun vs H2 => sp (x :: vs) H2 Q (E σ)
section
variable {X : Cx} {W : WX} {k : Nat} {f C : Addr} {fd : FuncData} {ps : List Str} {sp : Sp} {x m : Str} {p pos apos : Pos} {e o : Expr} {es : List Expr} {ta : TE} {t : TA}
theorem pe_methS {pl : Sem Bool} (he : PE X o ta) (c : Cls X.K C) (hm : Meth X.K C m f) (F : FnOk X.prog X.w X.K X.mg X.base (L2.CX X.prog X.w) k f fd ps sp) (hr : Room k X.A) (hb : Binds X.K fd ps []) (tk : Takes X W) (ha : PA X (e :: es) t)
    (hst : starEach (e :: es) X.env = (false, eval e X.env) :: starEach es X.env := by rfl) (hpl : (backTo pos (starEach es X.env)).any (·.1) = false := by rfl)
    (ht : eval (.Call (.Attribute o m apos) (e :: es) [] pos) X.env = (do
      let ov ← eval o X.env
      standAt apos.atName
      let (f, first) ← holding [ov] (getMethod ov m pl)
      callWith pos f first (backTo pos (starEach (e :: es) X.env)) (backToKw pos (keywordEach [] X.env))) := by rfl) :
    PE X (.Call (.Attribute o m apos) (e :: es) [] pos) (tMethS C m sp (WE W) ta t) := by
  refine ⟨fun pins s σ H Q I h => ?_⟩
  refine PySem.W.methodCall_KW (pl := pl) (thn (he.run pins s σ H _ I h) fun u s1 ⟨x, H1, I1, rx, a, dx, fs, ex, ea, l, q⟩ => ?_) ht
  subst ex
  obtain rfl : u = Value.ref a := rx
  refine getmeth_ok I1 ea c hm l ?_
  refine PySem.W.callWith_K (first := [.ref a]) (h₀ := X.base) I.ok.mod.kin hm.kp (thn (ha.run pos pins s1 σ H1 _ I1 q) fun us s2 ⟨vs, H2, I2, r, q2⟩ => ⟨I2.kIn, ?_⟩) hst hpl
  exact run_fnSD (us := .ref a :: us) (vs := .ref a :: vs) (dvs := []) F hr hb .nil (passAt tk σ) I2 (.cons rfl r) (by rw [List.append_nil]; exact q2)
theorem pe_methS0 {pl : Sem Bool} (he : PE X o ta) (c : Cls X.K C) (hm : Meth X.K C m f) (F : FnOk X.prog X.w X.K X.mg X.base (L2.CX X.prog X.w) k f fd ps sp) (hr : Room k X.A) (hb : Binds X.K fd ps []) (tk : Takes X W)
    (ht : eval (.Call (.Attribute o m apos) [] [] pos) X.env = (do
      let ov ← eval o X.env
      standAt apos.atName
      let (f, first) ← holding [ov] (getMethod ov m pl)
      callWith pos f first (backTo pos (starEach [] X.env)) (backToKw pos (keywordEach [] X.env))) := by rfl) :
    PE X (.Call (.Attribute o m apos) [] [] pos) (tMethS C m sp (WE W) ta tNil) := by
  refine ⟨fun pins s σ H Q I h => ?_⟩
  refine PySem.W.methodCall_KW (pl := pl) (thn (he.run pins s σ H _ I h) fun u s1 ⟨x, H1, I1, rx, a, dx, fs, ex, ea, l, q⟩ => ?_) ht
  subst ex
  obtain rfl : u = Value.ref a := rx
  refine getmeth_ok I1 ea c hm l ?_
  exact PySem.W.callWith_K0 (first := [.ref a]) I1.kIn hm.kp (run_fnSD (us := [.ref a]) (vs := [.ref a]) (dvs := []) F hr hb .nil (passAt tk σ) I1 (.cons rfl .nil) q)
end
theorem meth_sim {K : PySem.W.Frag} {W : WX} {c m : Str} {mf : MF} {mo : ME Val} {ma : ME (List Val)} {n : Nat} (hla : ∀ ρ t vs t', ma ρ t = .ok vs t' → vs.length = n) : ∀ σ H Q, tM K W (mMethO c m mf mo ma) σ H Q → tMethS (He.ga K c) m (spF K (n + 1) mf) (WE W) (tM K W mo) (tMA K W ma) σ H Q := fun σ H Q ⟨w, ρ, t, rt, rr, p⟩ => by
  refine ⟨w, ρ, t, rt, rr, PostE.imp (PostE.bind p) fun w1 H1 o t1 e1 s1 r1 q1 x rx => ?_⟩
  have q := q1 t1 e1 r1
  split at q
  · rename_i c' fs
    split at q
    · rename_i hc
      obtain ⟨rfl, hl⟩ := hc
      have rx' : Rep K (Fz w1 H1) x (.ins c' fs) := rx
      cases rx' with
      | ins h hs =>
        refine ⟨_, _, _, rfl, (Fz.of h).1, repF_none hs hl, w1, ρ, t1, r1, rr.mono s1, PostE.imp (PostE.bind q) fun w2 H2 vs t2 e2 s2 r2 q2 xs rxs => ?_⟩
        exact call_sim (by rw [List.length_cons, rxs.length, hla ρ t1 vs t2 e2]) r2 (.cons (rx.mono s2) rxs) (q2 t2 e2 r2)
    · exact q.elim
  · exact q.elim
section
variable {X : Cx} {W : WX} {k n : Nat} {f : Addr} {fd : FuncData} {ps : List Str} {c m : Str} {p pos apos : Pos} {e o : Expr} {es : List Expr} {mf : MF} {mo : ME Val} {ma : ME (List Val)}
theorem je_meth {pl : Sem Bool} (he : JE X W o mo) (hc : Cls X.K (He.ga X.K c)) (hm : Meth X.K (He.ga X.K c) m f) (F : FnOk X.prog X.w X.K X.mg X.base (L2.CX X.prog X.w) k f fd ps (spF X.K (n + 1) mf)) (hr : Room k X.A) (hb : Binds X.K fd ps []) (tk : Takes X W) (ha : JA X W (e :: es) ma)
    (hla : ∀ ρ t vs t', ma ρ t = .ok vs t' → vs.length = n)
    (hst : starEach (e :: es) X.env = (false, eval e X.env) :: starEach es X.env := by rfl) (hpl : (backTo pos (starEach es X.env)).any (·.1) = false := by rfl)
    (ht : eval (.Call (.Attribute o m apos) (e :: es) [] pos) X.env = (do
      let ov ← eval o X.env
      standAt apos.atName
      let (f, first) ← holding [ov] (getMethod ov m pl)
      callWith pos f first (backTo pos (starEach (e :: es) X.env)) (backToKw pos (keywordEach [] X.env))) := by rfl) :
    JE X W (.Call (.Attribute o m apos) (e :: es) [] pos) (mMethO c m mf mo ma) := PE.imp (pe_methS (pl := pl) he hc hm F hr hb tk ha hst hpl ht) (meth_sim hla)
theorem je_meth0 {pl : Sem Bool} (he : JE X W o mo) (hc : Cls X.K (He.ga X.K c)) (hm : Meth X.K (He.ga X.K c) m f) (F : FnOk X.prog X.w X.K X.mg X.base (L2.CX X.prog X.w) k f fd ps (spF X.K 1 mf)) (hr : Room k X.A) (hb : Binds X.K fd ps []) (tk : Takes X W)
    (ht : eval (.Call (.Attribute o m apos) [] [] pos) X.env = (do
      let ov ← eval o X.env
      standAt apos.atName
      let (f, first) ← holding [ov] (getMethod ov m pl)
      callWith pos f first (backTo pos (starEach [] X.env)) (backToKw pos (keywordEach [] X.env))) := by rfl) :
    JE X W (.Call (.Attribute o m apos) [] [] pos) (mMethO c m mf mo mNil) :=
  PE.imp (pe_methS0 (pl := pl) he hc hm F hr hb tk ht) fun σ H Q h => by
    obtain ⟨w, ρ, t, rt, rr, p⟩ := meth_sim (n := 0) mNil_len σ H Q h
    refine ⟨w, ρ, t, rt, rr, PostE.imp p fun w1 H1 o t1 e1 s1 r1 q1 x rx => ?_⟩
    obtain ⟨a, dx, fs, h1, h2, h3, w2, ρ2, t2, rt2, rr2, p2⟩ := q1 x rx
    exact ⟨a, dx, fs, h1, h2, h3, p2.here rt2 [] .nil⟩
end
def fRepl (y z : Str) (v : Val) (t : T) : R Val := match v with
  | .d (.str x) => if x.length + (x.length + 1) * z.length ≤ 16777216 then .ok (.d (.str (Txt.replace x y z))) t else .stuck
  | _ => .stuck
theorem je_joinRepl {X : Cx} {W : WX} {e : Expr} {ma : ME (List Val)} {a y z : Str} {i j k : Nat} {p0 ap cp c0 c1 apos pos : Pos} (ha : JA X W [e] ma) (hyz : (y == z) = false := by decide)
    (hst : starEach [.Constant (.str y) j c0, .Constant (.str z) k c1] X.env = [(false, eval (.Constant (.str y) j c0) X.env), (false, eval (.Constant (.str z) k c1) X.env)] := by rfl)
    (hbase : attributeBase (.Call (.Attribute (.Constant (.str a) i p0) "join" ap) [e] [] cp) "replace" X.env (eval (.Call (.Attribute (.Constant (.str a) i p0) "join" ap) [e] [] cp) X.env) = eval (.Call (.Attribute (.Constant (.str a) i p0) "join" ap) [e] [] cp) X.env := by rfl)
    (hline : (apos.endLine == pos.line) = true := by rfl)
    (hbase1 : attributeBase (.Constant (.str a) i p0) "join" X.env (eval (.Constant (.str a) i p0) X.env) = eval (.Constant (.str a) i p0) X.env := by rfl)
    (hfew : ((backTo cp (starEach [e] X.env)).all (fun x => !x.1) && (backToKw cp (keywordEach [] X.env)).all (fun x => x.1.isSome)
      && decide ([e].length + ([] : List Keyword).length + (if ([] : List Keyword).isEmpty then 0 else 1) < 30)) = true := by rfl)
    (hline1 : (ap.endLine == cp.line) = true := by rfl) (hs : starEach [e] X.env = (false, eval e X.env) :: starEach [] X.env := by rfl) (hplain : (backTo cp (starEach [] X.env)).any (·.1) = false := by rfl) :
    JE X W (.Call (.Attribute (.Call (.Attribute (.Constant (.str a) i p0) "join" ap) [e] [] cp) "replace" apos) [.Constant (.str y) j c0, .Constant (.str z) k c1] [] pos) (m1 (fRepl y z) (mMeth isStrB fJoin (mC (.str a)) ma)) := by
  refine PE.imp (t := fun σ H Q => (tMA X.K W ma) σ H fun xs H2 => rJoin X.K (.str a) xs H2 fun v H3 => ∃ x, v = .str x ∧ x.length + (x.length + 1) * z.length ≤ 16777216 ∧ Q (.str (Txt.replace x y z)) H3) ⟨fun pins s σ H Q I h => ?_⟩ fun σ H Q ⟨w, ρ, t, rt, rr, p⟩ => ?_
  · refine PySem.Call_method2 hbase hst hline ?_
    refine wpAny_Call_method_late hbase1 hfew hline1 rfl (Calls.Constant_str ?_)
    refine ⟨"str", _, PySem.F.plainAttrs_str, PySem.F.slot_str_join, PySem.F.type_str_join, typeIs_str _ _ _, (fun _ e => nomatch e), ?_⟩
    have hA := ha.run cp pins { s with toks := s.toks + 1 } σ H _ (I.tok _) h
    rw [hs] at hA ⊢
    refine Calls.callWith_builtin (by show (false || (backTo cp (starEach [] X.env)).any (·.1)) = false; rw [hplain] <;> rfl) (Calls.evalArgs_plain ?_)
    refine wpAny_mono (PySem.wpAny_toks hA) (fun us s2 q => ?_) fun _ _ z => z.2
    obtain ⟨hk, vs, H2, I2, r2, q2⟩ := q
    refine wpAny_mono (PySem.wpAny_toks (mt_join pins s2 σ H2 (.str a) vs (.str a s.toks) us (fun v H3 => ∃ x, v = .str x ∧ x.length + (x.length + 1) * z.length ≤ 16777216 ∧ Q (.str (Txt.replace x y z)) H3) I2 ⟨_, rfl⟩ r2 q2)) (fun v s3 q => ?_) fun _ _ z => z.2
    obtain ⟨hk3, v', H3, I3, r3, x, e3, hb, q3⟩ := q
    subst e3
    obtain ⟨tx, rfl⟩ := r3
    have hk' : s.toks + 1 ≤ s2.toks := hk
    refine ⟨"str", _, PySem.F.plainAttrs_str, PySem.F.slot_str_replace, PySem.F.type_str_replace, typeIs_str _ _ _, (fun _ e => nomatch e), Calls.callWith_builtin rfl (Calls.evalArgs_plain (Calls.spliced_cons ?_))⟩
    refine Calls.Constant_str (Calls.spliced_cons (Calls.Constant_str (Calls.spliced_nil ?_)))
    exact PySem.SC.replace (by show s3.toks ≠ 0; omega) (by show s3.toks + 1 ≠ 0; omega) (by show s3.toks ≠ s3.toks + 1; omega) hyz hb fun t' k => ⟨.str (Txt.replace x y z), H3, I3.tok k, ⟨t', rfl⟩, q3⟩
  · have p2 : PostE X.K W σ w H (fun w1 H1 v => ∀ t2, ((ma ρ t).bind fun vs t => fJoin (.d (.str a)) vs t) = .ok v t2 → RelT X.K w1 t2 H1 → PostE X.K W σ w1 H1 (fun w' H' v => ∀ x, RepV X.K w' H' x v → Q x H') (fRepl y z v t2)) ((ma ρ t).bind fun vs t => fJoin (.d (.str a)) vs t) := PostE.bind p
    refine ⟨w, ρ, t, rt, rr, PostE.imp (PostE.bind p2) fun w1 H1 vs t1 e1 s1 r1 q1 xs rxs => ?_⟩
    have q := q1 t1 e1 r1
    refine m_join (W := W) (σ := σ) w1 t1 H1 (.str a) xs (.d (.str a)) vs _ r1 (Rep.str a) rxs (PostE.imp q fun w2 H2 v t2 e2 s2 r2 q2 x rx => ?_)
    have q3 := q2 t2 (by rw [e1]; exact e2) r2
    unfold fRepl at q3
    split at q3
    · rename_i x'
      cases rx
      split at q3
      · rename_i hl
        exact ⟨x', rfl, hl, q3.here r2 _ (Rep.str _)⟩
      · exact q3.elim
    · exact q3.elim
end En
set_option Elab.async false
set_option linter.all false
set_option maxRecDepth 100000
set_option maxHeartbeats 2000000
namespace En
open PySem PySem.Spec PyProof.Rows L2
mutual
def repKB (K : PySem.W.Frag) : D → Value → Bool
  | .non, .none => true
  | .bl b, .bool c => b == c
  | .int i, .int j _ => decide (i = j)
  | .str x, .str y _ => decide (x = y)
  | .tup ds, .ref a => (match K.lookup a with
    | some ⟨.type c, _, .seq its _, _⟩ => decide (c = "tuple") && (decide (its.size ≤ sizeLine) && repKBs K ds its.toList)
    | _ => false)
  | _, _ => false
def repKBs (K : PySem.W.Frag) : List D → List Value → Bool
  | [], [] => true
  | d :: ds, u :: us => repKB K d u && repKBs K ds us
  | _, _ => false
end
mutual
theorem repKB_ok {K : PySem.W.Frag} : ∀ (d : D) (u : Value), repKB K d u = true → ∃ v, RelV v u ∧ ∀ F, Rep K F v d
  | .non, u, h => by
    cases u <;> simp only [repKB] at h <;> first | (cases h; done) | exact ⟨.non, rfl, fun _ => .non⟩
  | .bl b, u, h => by
    cases u <;> simp only [repKB] at h <;> first | (cases h; done) | skip
    rename_i c
    have e : b = c := eq_of_beq h
    subst e
    exact ⟨.bl b, rfl, fun _ => .bl b⟩
  | .int i, u, h => by
    cases u <;> simp only [repKB] at h <;> first | (cases h; done) | skip
    rename_i j t
    have e : i = j := of_decide_eq_true h
    subst e
    exact ⟨.int i, ⟨t, rfl⟩, fun _ => .int i⟩
  | .str x, u, h => by
    cases u <;> simp only [repKB] at h <;> first | (cases h; done) | skip
    rename_i y t
    have e : x = y := of_decide_eq_true h
    subst e
    exact ⟨.str x, ⟨t, rfl⟩, fun _ => .str x⟩
  | .tup ds, u, h => by
    cases u <;> simp only [repKB] at h <;> first | (cases h; done) | skip
    rename_i a
    split at h
    · rename_i c od its n sl hl
      simp only [Bool.and_eq_true, decide_eq_true_eq] at h
      obtain ⟨h1, h2, h3⟩ := h
      obtain ⟨vs, hv, hr⟩ := repKBs_ok ds its.toList h3
      exact ⟨.ref a, rfl, fun F => .tup (.inr ⟨_, its, n, hl, congrArg Value.type h1, rfl, h2, hv⟩) (hr F)⟩
    · cases h
  | .lst _, u, h => by cases u <;> simp only [repKB] at h <;> cases h
  | .ins _ _, u, h => by cases u <;> simp only [repKB] at h <;> cases h
  | .dK _, u, h => by cases u <;> simp only [repKB] at h <;> cases h
  | .dT _, u, h => by cases u <;> simp only [repKB] at h <;> cases h
  | .scr _, u, h => by cases u <;> simp only [repKB] at h <;> cases h
theorem repKBs_ok {K : PySem.W.Frag} : ∀ (ds : List D) (us : List Value), repKBs K ds us = true → ∃ vs, Vals vs us ∧ ∀ F, Reps K F vs ds
  | [], [], _ => ⟨[], .nil, fun _ => .nil⟩
  | [], _ :: _, h => by simp only [repKBs] at h; cases h
  | _ :: _, [], h => by simp only [repKBs] at h; cases h
  | d :: ds, u :: us, h => by
    simp only [repKBs, Bool.and_eq_true] at h
    obtain ⟨v, h1, h2⟩ := repKB_ok d u h.1
    obtain ⟨vs, h3, h4⟩ := repKBs_ok ds us h.2
    exact ⟨v :: vs, .cons h1 h3, fun F => .cons (h2 F) (h4 F)⟩
end
def GlobD (mg : Str → Option Value) (K : PySem.W.Frag) (x : Str) (d : D) : Prop := ∃ u v, mg x = some u ∧ RelV v u ∧ ∀ F, Rep K F v d
def globB (K : PySem.W.Frag) (x : Str) (d : D) : Bool := match PySem.W.nsIn K mainGlobals x with
  | some (some u) => repKB K d u
  | _ => false
theorem globB_ok {K : PySem.W.Frag} {h : Heap} {mg : Str → Option Value} (X : K.In h) (G : h.Ns mainGlobals mg) {x : Str} {d : D} (c : globB K x d = true) : GlobD mg K x d := by
  unfold globB at c
  split at c
  · rename_i u eu
    obtain ⟨v, h1, h2⟩ := repKB_ok d u c
    exact ⟨u, v, PySem.W.mg_of X G eu, h1, h2⟩
  · cases c
theorem je_gc {X : Cx} {W : WX} {x : Str} {d : D} {pos : Pos} (h : GlobD X.mg X.K x d) (hg : Gl X x := by rfl) (hd : (x == ("__debug__" : Str)) = false := by decide) : JE X W (.Name x pos) (mC d) := by
  obtain ⟨u, v, h1, h2, h3⟩ := h
  exact je_glob h3 hg h1 h2 hd
def TabD (mg : Str → Option Value) (K : PySem.W.Frag) (w : World) (x : Str) (kvs : List (Str × D)) : Prop := mg x = some (.ref (He.ga K x)) ∧ (∃ es n, KDict K w (He.ga K x) es n) ∧ ∀ q ∈ kvs, ∃ u v, PySem.W.nsIn K (He.ga K x) q.1 = some (some u) ∧ RelV v u ∧ ∀ F, Rep K F v q.2
def tabB (K : PySem.W.Frag) (x : Str) (kvs : List (Str × D)) : Bool := He.eqO (PySem.W.nsIn K mainGlobals x) (some (some (.ref (He.ga K x)))) && kvs.all fun q => match PySem.W.nsIn K (He.ga K x) q.1 with
  | some (some u) => repKB K q.2 u
  | _ => false
theorem tabB_ok {K : PySem.W.Frag} {h : Heap} {w : World} {mg : Str → Option Value} (X : K.In h) (G : h.Ns mainGlobals mg) {x : Str} {kvs : List (Str × D)} (c : tabB K x kvs = true) (t : ∃ es n, KDict K w (He.ga K x) es n) : TabD mg K w x kvs := by
  obtain ⟨c1, c2⟩ := He.ba c
  refine ⟨PySem.W.mg_of X G (He.eqO_ok c1), t, fun q hq => ?_⟩
  have h2 := List.all_eq_true.mp c2 q hq
  split at h2
  · rename_i u eu
    obtain ⟨v, h3, h4⟩ := repKB_ok q.2 u h2
    exact ⟨u, v, eu, h3, h4⟩
  · cases h2
def fTab (kvs : List (Str × D)) (v : Val) (t : T) : R Val := match v with
  | .d (.str z) => (match kvs.lookup z with
    | some d => .ok (.d d) t
    | none => .stuck)
  | _ => .stuck
theorem lookup_mem {z : Str} {d : D} : ∀ {kvs : List (Str × D)}, kvs.lookup z = some d → (z, d) ∈ kvs
  | [], h => by cases h
  | (k, e) :: r, h => by
    rw [List.lookup_cons] at h
    cases q : z == k with
    | true =>
      rw [q] at h
      have e1 : z = k := eq_of_beq q
      cases h
      rw [e1]
      exact List.mem_cons_self ..
    | false =>
      rw [q] at h
      exact List.mem_cons_of_mem _ (lookup_mem h)
def rTab (K : PySem.W.Frag) (d : Addr) : R2 := fun x y H Q => ∃ (z : Str) (u0 : Value) (v0 : V), x = .ref d ∧ y = .str z ∧ PySem.W.nsIn K d z = some (some u0) ∧ RelV v0 u0 ∧ Q v0 H
theorem ix_kd {X : Cx} {d : Addr} {es : Array DictEntry} {n : Nat} (D : KDict X.K X.w d es n) : IxR X (rTab X.K d) := by
  intro value slice pins s σ H x y v u Q I rx ry h hs
  obtain ⟨z, u0, v0, rfl, rfl, e, r, q⟩ := h
  obtain rfl : v = Value.ref d := rx
  obtain ⟨t, rfl⟩ := ry
  exact subscriptTail_builtinR (x := u0) (kd_type D I) slot_dict_getitem.lookup
    (wpAny_getItem_of (PySem.strKind_is X.prog X.w z t) (PySem.W.mapOf_K (prog := X.prog) I.kIn D.at_ D.lit) (PySem.W.find_K D.at_ e) ⟨rfl, v0, H, I.tok _, r, q⟩) hs
theorem je_tab {X : Cx} {W : WX} {x : Str} {kvs : List (Str × D)} {b : Expr} {mb : ME Val} {p pos : Pos} (h : TabD X.mg X.K X.w x kvs) (hb : JE X W b mb) (hg : Gl X x := by rfl) (hd : (x == ("__debug__" : Str)) = false := by decide) (hs : PlainIx b := by exact fun _ _ => rfl) : JE X W (.Subscript (.Name x p) b pos) (m1 (fTab kvs) mb) := by
  obtain ⟨h1, ⟨es, n, h2⟩, h3⟩ := h
  refine PE.imp (pe_ix (ix_kd h2) (pe_glob (v := .ref (He.ga X.K x)) hg h1 rfl hd) hb hs) fun σ H Q ⟨w, ρ, t, rt, rr, p⟩ => ?_
  refine ⟨w, ρ, t, rt, rr, PostE.imp (PostE.bind p) fun w1 H1 v t1 e1 s1 r1 q1 y ry => ?_⟩
  have q := q1 t1 e1 r1
  unfold fTab at q
  split at q
  · rename_i z
    cases ry
    split at q
    · rename_i d ed
      obtain ⟨u, v, h4, h5, h6⟩ := h3 _ (lookup_mem ed)
      exact ⟨z, u, v, rfl, rfl, h4, h5, q.here r1 _ (h6 _)⟩
    · exact q.elim
  · exact q.elim
structure DefX where
  adr : PySem.W.Frag → Addr
  name : Str
  qual : Str
  params : Arguments
  body : List Stmt
  scope : Scope
  dfl : List He.Dv := []
  kwd : List (Str × He.Dv) := []
def fnX (K : PySem.W.Frag) (a : Addr) : He.FnW := match K.lookup a with
  | some ⟨_, _, .func fd, _⟩ => some (fd.name, fd.qualname, fd.params, fd.body, fd.scope, fd.globals, fd.closure, fd.builtins)
  | _ => none
def DefX.val (d : DefX) : He.FnW := some (d.name, d.qual, d.params, .stmts d.body, d.scope, mainGlobals, [], builtinsNs)
def DefX.dvs (K : PySem.W.Frag) (d : DefX) : List V := d.dfl.map (He.Dv.v K)
def DefX.kws (K : PySem.W.Frag) (d : DefX) : List (Str × V) := d.kwd.map fun q => (q.1, q.2.v K)
def DefX.ok (K : PySem.W.Frag) (d : DefX) : Bool := PySem.W.keepIn K (.ref (d.adr K)) && (match K.lookup (d.adr K) with
  | some ⟨_, _, .func fd, _⟩ => PySem.W.codeIn K fd.code d.qual && (He.dflB K fd.defaults (d.dvs K) && He.kwdB K fd.kwdefaults (d.kws K))
  | _ => false)
theorem DefX.funD {K : PySem.W.Frag} {d : DefX} (e : fnX K (d.adr K) = d.val) (c : d.ok K = true) : ∃ fd, FunD K d.name d.qual d.params d.body d.scope (d.dvs K) (d.kws K) (d.adr K) fd := by
  obtain ⟨kp, c2⟩ := He.ba c
  unfold fnX at e
  cases q : K.lookup (d.adr K) with
  | none =>
    rw [q] at c2
    cases c2
  | some o =>
    obtain ⟨oc, od, dt, osl⟩ := o
    rw [q] at c2 e
    cases dt with
    | func fd =>
      obtain ⟨n1, n2, n3, n4, n5, n6, n7, n8, n9, n10, n11, n12, n13, n14, n15⟩ := fd
      have e2 : (some (n1, n2, n3, n4, n5, n6, n7, n15) : He.FnW) = some (d.name, d.qual, d.params, .stmts d.body, d.scope, mainGlobals, [], builtinsNs) := e
      simp only [Option.some.injEq, Prod.mk.injEq] at e2
      obtain ⟨h1, h2, h3, h4, h5, h6, h7, h8⟩ := e2
      subst h1 h2 h3 h4 h5 h6 h7 h8
      have c3 : (PySem.W.codeIn K n13 d.qual && (He.dflB K n8 (d.dvs K) && He.kwdB K n9 (d.kws K))) = true := c2
      obtain ⟨k1, k2⟩ := He.ba c3
      obtain ⟨k3, k4⟩ := He.ba k2
      exact ⟨_, ⟨oc, od, n8, n9, n10, n11, n12, n13, n14, osl, rfl, q, k1, He.dflB_ok k3, He.kwdB_ok k4⟩, kp⟩
    | _ => cases c2
abbrev AlX : Type := (Bool × Bool × Bool) × List He.FnW × List (Option (List (Option (Str × Int))))
def obsX (fa : List He.Fa) (fn : List DefX) (ts : List He.Tab) (xb : PySem.W.Frag → Bool) (K : PySem.W.Frag) : AlX := ((fa.all fun f => f.ok K, fn.all fun d => d.ok K, xb K), fn.map fun d => fnX K (d.adr K), ts.map fun t => He.dicW K (t.1 K))
def valX (fn : List DefX) (ts : List He.Tab) (w : World) : AlX := ((true, true, true), fn.map DefX.val, ts.map fun t => some (He.keysIn w.params t.2))
def obsXG (n : Nat) (fa : List He.Fa) (fn : List DefX) (ts : List He.Tab) (xb : PySem.W.Frag → Bool) (g : Addr → Option Obj) : AlX := obsX fa fn ts xb (He.frG g (He.asD g n))
def SaysX (fa : List He.Fa) (fn : List DefX) (ts : List He.Tab) (xb : PySem.W.Frag → Bool) (w : World) (K : PySem.W.Frag) : Prop := obsX fa fn ts xb K = valX fn ts w
def hookX (n : Nat) (fa : List He.Fa) (fn : List DefX) (ts : List He.Tab) (xb : PySem.W.Frag → Bool) : PySem.W.Hook where
  α := AlX
  obs := fun s => obsXG n fa fn ts xb s.heap.get?
  val := fun w => valX fn ts w
  says := fun w h => ∃ K : PySem.W.Frag, K.In h ∧ SaysX fa fn ts xb w K
  of := fun _ _ e => ⟨_, He.frG_in, e⟩
  keeps := fun _ _ _ ⟨K, hK, c⟩ k => ⟨K, PySem.W.Frag.In.keeps hK k, c⟩
theorem obsXG_eq {n : Nat} {fa : List He.Fa} {fn : List DefX} {ts : List He.Tab} {xb : PySem.W.Frag → Bool} {g : Addr → Option Obj} {s : Shared} (h : ∀ a, g a = s.heap.get? a) : obsXG n fa fn ts xb g = (hookX n fa fn ts xb).obs s := by
  have e : g = s.heap.get? := funext h
  rw [e] <;> rfl
section
variable {fa : List He.Fa} {fn : List DefX} {ts : List He.Tab} {xb : PySem.W.Frag → Bool} {w : World} {K : PySem.W.Frag}
theorem SaysX.fact (c : SaysX fa fn ts xb w K) (i : Nat) {f : He.Fa} (h : fa[i]? = some f := by rfl) : f.ok K = true :=
  List.all_eq_true.mp (congrArg (fun z : AlX => z.1.1) c) f (List.mem_of_getElem? h)
theorem SaysX.x (c : SaysX fa fn ts xb w K) : xb K = true := congrArg (fun z : AlX => z.1.2.2) c
theorem SaysX.def_ (c : SaysX fa fn ts xb w K) (i : Nat) {d : DefX} (h : fn[i]? = some d := by rfl) : ∃ fd, FunD K d.name d.qual d.params d.body d.scope (d.dvs K) (d.kws K) (d.adr K) fd := by
  have c2 : (fn.all fun d => d.ok K) = true := congrArg (fun z : AlX => z.1.2.1) c
  have e : fn.map (fun d => fnX K (d.adr K)) = fn.map DefX.val := congrArg (fun z : AlX => z.2.1) c
  have e2 : (fn.map fun d => fnX K (d.adr K))[i]? = (fn.map DefX.val)[i]? := by rw [e]
  rw [List.getElem?_map, List.getElem?_map, h] at e2
  exact DefX.funD (Option.some.inj e2) (List.all_eq_true.mp c2 d (List.mem_of_getElem? h))
theorem SaysX.tab (c : SaysX fa fn ts xb w K) (i : Nat) {t : He.Tab} (h : ts[i]? = some t := by rfl) : ∃ es n, KDict K w (t.1 K) es n := by
  have e : ts.map (fun t => He.dicW K (t.1 K)) = ts.map fun t => some (He.keysIn w.params t.2) := congrArg (fun z : AlX => z.2.2) c
  have e2 : (ts.map fun t => He.dicW K (t.1 K))[i]? = (ts.map fun t => some (He.keysIn w.params t.2))[i]? := by rw [e]
  rw [List.getElem?_map, List.getElem?_map, h] at e2
  exact He.dicW_ok (Option.some.inj e2)
end
theorem all_at {α : Type} {l : List α} {p : α → Bool} (h : l.all p = true) (i : Nat) {x : α} (e : l[i]? = some x) : p x = true := List.all_eq_true.mp h x (List.mem_of_getElem? e)
theorem u65 {k : Nat} {A : Around} (r : Room k A) : A.units + 65 < cLine := by have := r.un; omega
def propB (K : PySem.W.Frag) (c f : Str) : Bool := match PySem.W.findIn K (.ref (He.ga K c)) f with
  | some (some (.ref p)) => He.eqO (PySem.W.specialIn K (.ref p) "__get__") (some (some (.builtin "property.__get__"))) && (decide (PySem.W.takesIn K (.ref p) = some true) && (match PySem.W.recIn K p "property" with
    | some (.ref _ :: _) => true
    | _ => false))
  | _ => false
def pgAt (K : PySem.W.Frag) (c f : Str) : Addr := match PySem.W.findIn K (.ref (He.ga K c)) f with
  | some (some (.ref p)) => (match PySem.W.recIn K p "property" with
    | some (.ref g :: _) => g
    | _ => 0)
  | _ => 0
theorem propB_ok {K : PySem.W.Frag} {c f : Str} (h : propB K c f = true) : ∃ p, PropOf K (He.ga K c) f p (pgAt K c f) := by
  unfold propB at h
  split at h
  · rename_i p ep
    simp only [Bool.and_eq_true, decide_eq_true_eq] at h
    obtain ⟨h1, h2, h3⟩ := h
    split at h3
    · rename_i g rest eg
      refine ⟨p, ep, He.eqO_ok h1, h2, rest, ?_⟩
      unfold pgAt
      rw [ep]
      simp only [eg]
    · cases h3
  · cases h
end En
set_option Elab.async false
set_option linter.all false
set_option maxRecDepth 100000
set_option maxHeartbeats 2000000
namespace En
open PySem PySem.Spec PyProof.Rows L2
theorem freeze_eq {K : PySem.W.Frag} {w : Wd} {t : T} {H : Hp} {x : V} {v a : Val} {t1 : T} (r : RelT K w t H) (rx : RepV K w H x v) (e : fFreeze v t = .ok a t1) : ∃ d w', a = .d d ∧ Step w H w' H ∧ RelT K w' t1 H ∧ Rep K (Fz w' H) x d := by
  have p : PostE K (fun _ _ _ _ => False) [] w H (fun _ _ (q : Val × T) => fFreeze v t = .ok q.1 q.2) ((fFreeze v t).bind fun v' t' => .ok (v', t') t') := by
    rw [e]
    exact fun _ _ _ _ => rfl
  obtain ⟨d, w', t', s, r', rd, q⟩ := fFreeze_ok r rx p
  have e2 := q.here r'
  rw [e] at e2
  cases e2
  exact ⟨d, w', rfl, s, r', rd⟩
def sFz (i : Nat) (m : MS) : MS := fun ρ t => match ρ[i]? with
  | some (some v) => (match fFreeze v t with
    | .ok a t1 => m (ρ.set i (some a)) t1
    | _ => .stuck)
  | _ => m ρ t
theorem set_same {σ : L2.St} {i : Nat} {o : Option V} (h : σ[i]? = some o) : σ.set i o = σ := by
  refine List.ext_getElem? fun j => ?_
  rw [List.getElem?_set]
  split
  · rename_i e
    subst e
    rw [h]
    simp [(List.getElem?_eq_some_iff.mp h).1]
  · rfl
theorem jss_fz {X : Cx} {W : WX} {st : List Stmt} {m : MS} (i : Nat) (h : JSs X W st m) : JSs X W st (sFz i m) :=
  PSs.imp h fun D σ H ⟨w, ρ, t, rt, rr, p⟩ => by
    unfold sFz at p
    split at p
    · rename_i v ev
      split at p
      · rename_i a t1 ea
        obtain ⟨x, hx, rx⟩ := rr.at_ i v ev
        obtain ⟨d, w', rfl, s, r', rd⟩ := freeze_eq rt rx ea
        refine ⟨w', ρ.set i (some (.d d)), t1, r', ?_, PostS.from s p⟩
        have := (rr.mono s).set (x := x) (v := .d d) i rd
        rw [set_same hx] at this
        exact this
      · exact p.elim
    · exact ⟨w, ρ, t, rt, rr, p⟩
theorem spF_stuck {K : PySem.W.Frag} {n : Nat} {vs : List V} {H : Hp} {Q : VK} {E : XK} (h : spF K n (fun _ _ => .stuck) vs H Q E) : False := by
  obtain ⟨w, b, us, _, _, _, _, p⟩ := h
  exact p
theorem fnOk0 {P : Program} {wd : World} {K : PySem.W.Frag} {mg : Str → Option Value} {base : Heap} {CX : CXT} {k n : Nat} {f : Addr} {fd : FuncData} {ps : List Str} : FnOk P wd K mg base CX k f fd ps (spF K n fun _ _ => .stuck) :=
  ⟨fun _ _ _ _ h => (spF_stuck h).elim, fun _ _ _ _ _ _ _ _ _ _ _ _ _ h => (spF_stuck h).elim⟩
end En
set_option Elab.async false
set_option linter.all false
set_option maxRecDepth 100000
set_option maxHeartbeats 2000000
namespace En
open PySem PySem.Spec PyProof.Rows L2
def clsB : Stmt → List Stmt
  | .ClassDef (body := b) .. => b
  | _ => []
def drCell (b : Box) : Int := (b.ns ++ [0]).getD (b.ix % max 1 (b.ns.length : Int)).toNat 0
def drNext : Draw := ⟨false, fun b n => if 10 ^ 18 ≤ drCell b then (drCell b % n, { b with ns := b.ns.set (b.ix % (b.ns.length : Int)).toNat (drCell b / n) })
  else (((b.st * 48271 + drCell b * 69621 + 11) % 2147483647) / 7 % n, { b with st := (b.st * 48271 + drCell b * 69621 + 11) % 2147483647, ix := b.ix + 1 })⟩
def mixSt (ns : List Int) (seed : Int) : Int := ns.foldl (fun st c => (st * 48271 + c % 2147483629 + 1) % 2147483647) seed
def bg_law_mix (vs : List Val) : Option Box := match vs with
  | [.d (.scr ns), .d (.int seed)] => if ns.length ≤ 1000 then some ⟨true, false, mixSt ns seed, ns, 0⟩ else none
  | _ => none
end En
set_option Elab.async false
set_option linter.all false
set_option maxRecDepth 100000
set_option maxHeartbeats 1000000
set_option autoImplicit false
namespace En
open PySem PySem.Spec PyProof.Rows L2
mutual
def toKey : D → Option NestedKey
  | .non => some .none
  | .int i => some (.num i)
  | .tup ds => (toKeys ds).map .tup
  | .bl _ => none
  | .str _ => none
  | .lst _ => none
  | .ins _ _ => none
  | .dK _ => none
  | .dT _ => none
  | .scr _ => none
def toKeys : List D → Option (List NestedKey)
  | [] => some []
  | d :: ds => match toKey d, toKeys ds with
    | some k, some ks => some (k :: ks)
    | _, _ => none
end
mutual
theorem toKey_ok {K : PySem.W.Frag} {F : Hp} : ∀ (d : D) {x : V} {k : NestedKey}, toKey d = some k → Rep K F x d → KeyV K F x k
  | .non, x, k, e, r => by simp only [toKey] at e; cases e; cases r; exact .non
  | .int i, x, k, e, r => by simp only [toKey] at e; cases e; cases r; exact .int i
  | .tup ds, x, k, e, r => by
    simp only [toKey] at e
    obtain ⟨ks, e1, rfl⟩ := Option.map_eq_some_iff.mp e
    cases r with
    | tup h hs => exact .tup h (toKeys_ok ds e1 hs)
  | .bl _, x, k, e, r => by simp only [toKey] at e; cases e
  | .str _, x, k, e, r => by simp only [toKey] at e; cases e
  | .lst _, x, k, e, r => by simp only [toKey] at e; cases e
  | .ins _ _, x, k, e, r => by simp only [toKey] at e; cases e
  | .dK _, x, k, e, r => by simp only [toKey] at e; cases e
  | .dT _, x, k, e, r => by simp only [toKey] at e; cases e
  | .scr _, x, k, e, r => by simp only [toKey] at e; cases e
theorem toKeys_ok {K : PySem.W.Frag} {F : Hp} : ∀ (ds : List D) {xs : List V} {ks : List NestedKey}, toKeys ds = some ks → Reps K F xs ds → KeyVs K F xs ks
  | [], xs, ks, e, r => by simp only [toKeys] at e; cases e; cases r; exact .nil
  | d :: ds, xs, ks, e, r => by
    simp only [toKeys] at e
    split at e
    · rename_i k ks' e1 e2
      cases e
      cases r with
      | cons h hs => exact .cons (toKey_ok d e1 h) (toKeys_ok ds e2 hs)
    · cases e
end
mutual
theorem keyV_is {X : Cx} {pins : List (Addr × Obj)} {σ : L2.St} {H : Hp} {s : Shared} (I : Inv X pins σ H s) : ∀ {x : V} {k : NestedKey} {u : Value}, KeyV X.K H x k → RelV x u → NestedIs s.heap k u
  | _, _, u, .non, r => by cases r; exact .none
  | _, _, u, .int i, r => by obtain ⟨t, rfl⟩ := r; exact .int i t
  | _, _, u, .tup h hs, r => by
    cases r
    obtain ⟨its, rv, ⟨o, ho, hc, n, hd⟩, _⟩ := I.tuple h
    exact .tup ho hc hd (keyVs_is I hs rv)
theorem keyVs_is {X : Cx} {pins : List (Addr × Obj)} {σ : L2.St} {H : Hp} {s : Shared} (I : Inv X pins σ H s) : ∀ {xs : List V} {ks : List NestedKey} {us : List Value}, KeyVs X.K H xs ks → Vals xs us → NestedAll s.heap ks us
  | _, _, _, .nil, .nil => .nil
  | _, _, _, .cons h hs, .cons r rs => .cons (keyV_is I h r) (keyVs_is I hs rs)
end
mutual
theorem KeyV.hash {K : PySem.W.Frag} {F : Hp} (w w' : World) : ∀ {x : V} {k : NestedKey}, KeyV K F x k → k.hash w = k.hash w'
  | _, _, .non => rfl
  | _, _, .int i => rfl
  | _, _, .tup h hs => by simp only [NestedKey.hash, KeyVs.hash w w' hs]
theorem KeyVs.hash {K : PySem.W.Frag} {F : Hp} (w w' : World) : ∀ {xs : List V} {ks : List NestedKey}, KeyVs K F xs ks → NestedKey.hashes w ks = NestedKey.hashes w' ks
  | _, _, .nil => rfl
  | _, _, .cons h hs => by simp only [NestedKey.hashes, KeyV.hash w w' h, KeyVs.hash w w' hs]
end
section
variable {κ α : Type} [DecidableEq κ]
def lookK (kvs : List (κ × α)) (k : κ) : Option α := (kvs.find? fun p => decide (p.1 = k)).map (·.2)
def putKV (kvs : List (κ × α)) (k : κ) (v : α) : List (κ × α) := if kvs.any fun kv => decide (kv.1 = k) then kvs.map fun kv => if kv.1 = k then (kv.1, v) else kv else kvs ++ [(k, v)]
theorem lookK_cons (p : κ × α) (r : List (κ × α)) (k : κ) : lookK (p :: r) k = if p.1 = k then some p.2 else lookK r k := by
  unfold lookK
  rw [List.find?_cons]
  by_cases h : p.1 = k
  · rw [decide_eq_true h, if_pos h]; rfl
  · rw [decide_eq_false h, if_neg h]
end
theorem valV_look {κ : Type} [DecidableEq κ] (kvs : List (κ × V)) (k : κ) : valV kvs k = lookK kvs k := rfl
theorem repVK_val {K : PySem.W.Frag} {w : Wd} {H : Hp} {κ : Type} [DecidableEq κ] {k : κ} {xs : List (κ × V)} {kvs : List (κ × Val)} (h : RepVK K w H xs kvs) : (lookK xs k = none ∧ lookK kvs k = none) ∨ ∃ x v, lookK xs k = some x ∧ lookK kvs k = some v ∧ RepV K w H x v := by
  induction h with
  | nil => exact .inl ⟨rfl, rfl⟩
  | @cons k' x xs v vs h _ ih =>
    rw [lookK_cons, lookK_cons]
    by_cases e : k' = k
    · rw [if_pos e, if_pos e]; exact .inr ⟨_, _, rfl, rfl, h⟩
    · rw [if_neg e, if_neg e]; exact ih
theorem repVK_any {K : PySem.W.Frag} {w : Wd} {H : Hp} {κ : Type} [DecidableEq κ] {k : κ} {xs : List (κ × V)} {kvs : List (κ × Val)} (h : RepVK K w H xs kvs) : (xs.any fun kv => decide (kv.1 = k)) = kvs.any fun kv => decide (kv.1 = k) := by
  induction h with
  | nil => rfl
  | cons h _ ih => simp only [List.any_cons, ih]
theorem RepVK.snoc {K : PySem.W.Frag} {w : Wd} {H : Hp} {κ : Type} {k : κ} {x : V} {v : Val} {xs : List (κ × V)} {kvs : List (κ × Val)} (h : RepVK K w H xs kvs) (r : RepV K w H x v) : RepVK K w H (xs ++ [(k, x)]) (kvs ++ [(k, v)]) := by
  induction h with
  | nil => exact .cons r .nil
  | cons h _ ih => exact .cons h ih
theorem repVK_map2 {K : PySem.W.Frag} {w : Wd} {H : Hp} {κ : Type} [DecidableEq κ] {k : κ} {x : V} {v : Val} (r : RepV K w H x v) {xs : List (κ × V)} {kvs : List (κ × Val)} (h : RepVK K w H xs kvs) : RepVK K w H (xs.map fun kv => if kv.1 = k then (kv.1, x) else kv) (kvs.map fun kv => if kv.1 = k then (kv.1, v) else kv) := by
  induction h with
  | nil => exact .nil
  | @cons k' y ys u us h _ ih =>
    simp only [List.map_cons]
    by_cases e : k' = k
    · simp only [if_pos e]
      exact .cons r ih
    · simp only [if_neg e]
      exact .cons h ih
theorem repVK_put2 {K : PySem.W.Frag} {w : Wd} {H : Hp} {κ : Type} [DecidableEq κ] {k : κ} {x : V} {v : Val} (r : RepV K w H x v) {xs : List (κ × V)} {kvs : List (κ × Val)} (h : RepVK K w H xs kvs) : RepVK K w H (putK xs k x) (putKV kvs k v) := by
  unfold putK putKV
  rw [repVK_any h]
  split
  · exact repVK_map2 r h
  · exact h.snoc r
section
variable {X : Cx} {pins : List (Addr × Obj)} {σ : L2.St} {H : Hp} {s : Shared}
theorem ents_xs (I : Inv X pins σ H s) : ∀ {es : List DictEntry} {kvs : List (NestedKey × V)}, EntsOk X.K H es kvs → ∃ xs : List (NestedKey × Addr × Value), es = xs.map (entryOfKey (nestedKind X.prog X.w)) ∧ xs.map (·.1) = kvs.map (·.1) ∧
    (∀ y ∈ xs, (nestedKind X.prog X.w).is s.heap y.1 y.2.1 ∧ KeyV X.K H (.ref y.2.1) y.1 ∧ y.1.depth ≤ 8) ∧ Paired (fun (p : NestedKey × V) (q : NestedKey × Addr × Value) => p.1 = q.1 ∧ RelV p.2 q.2.2) kvs xs
  | _, _, .nil => ⟨[], rfl, rfl, fun _ h => (by cases h), .nil⟩
  | _, _, .cons (en := en) (k := k) (v := v) (b := b) h1 h2 h3 h4 h5 hs => by
    obtain ⟨xs, e1, e2, e3, e4⟩ := ents_xs I hs
    refine ⟨(k, b, en.val) :: xs, ?_, by simp [e2], fun y hy => ?_, .cons ⟨rfl, h5⟩ e4⟩
    · rw [List.map_cons, ← e1]
      congr 1
      obtain ⟨eh, ek, ev⟩ := en
      have h1' : ek = .ref b := h1
      have h2' : eh = k.hash X.w := h2 X.w
      subst h1' h2'
      rfl
    · rcases List.mem_cons.mp hy with rfl | hy
      · exact ⟨⟨keyV_is I h3 rfl, h4⟩, h3, h4⟩
      · exact e3 y hy
theorem dic_of (I : Inv X pins σ H s) {a : Addr} {o : Obj} {es : Array DictEntry} {ep : Nat} {kvs : List (NestedKey × V)} (h : H a = some (dicO a o)) (ok : DicOk a o es ep (kvs.map (·.1))) (en : EntsOk X.K H es.toList kvs) :
    ∃ xs : List (NestedKey × Addr × Value), s.heap.DictOfH (nestedKind X.prog X.w) a xs ∧ (∀ y ∈ xs, KeyV X.K H (.ref y.2.1) y.1 ∧ y.1.depth ≤ 8) ∧ Paired (fun (p : NestedKey × V) (q : NestedKey × Addr × Value) => p.1 = q.1 ∧ RelV p.2 q.2.2) kvs xs := by
  obtain ⟨xs, e1, e2, e3, e4⟩ := ents_xs I en
  have ho : s.heap.get? a = some o := (I.hok a _ h).1
  exact ⟨xs, ⟨o, es, ep, ho, ok.exact_, ok.data, e1, fun y hy => (e3 y hy).1, by rw [e2]; exact ok.nodup⟩, fun y hy => (e3 y hy).2, e4⟩
theorem paired_val {k : NestedKey} : ∀ {kvs : List (NestedKey × V)} {xs : List (NestedKey × Addr × Value)}, Paired (fun (p : NestedKey × V) (q : NestedKey × Addr × Value) => p.1 = q.1 ∧ RelV p.2 q.2.2) kvs xs → RelO (valV kvs k) ((atKey xs k).map (·.2))
  | _, _, .nil => True.intro
  | (k', v) :: _, (k2, b, u) :: _, .cons ⟨h1, h2⟩ hs => by
    have h1 : k' = k2 := h1
    subst h1
    by_cases e : k' = k
    · rw [valV_pos e]
      have : ∀ r : List (NestedKey × Addr × Value), atKey ((k', b, u) :: r) k = some (b, u) := fun r => by unfold atKey; rw [List.find?_cons, decide_eq_true e]; rfl
      rw [this]
      exact h2
    · rw [valV_neg e]
      have : ∀ r : List (NestedKey × Addr × Value), atKey ((k', b, u) :: r) k = atKey r k := fun r => by unfold atKey; rw [List.find?_cons, decide_eq_false e]
      rw [this]
      exact paired_val hs
theorem paired_len {kvs : List (NestedKey × V)} {xs : List (NestedKey × Addr × Value)} (h : Paired (fun (p : NestedKey × V) (q : NestedKey × Addr × Value) => p.1 = q.1 ∧ RelV p.2 q.2.2) kvs xs) : kvs.length = xs.length := Paired.length h
def GetN (K : PySem.W.Frag) (H : Hp) (a : Addr) (y : V) (r : Option V) : Prop := ∃ (o : Obj) (es : Array DictEntry) (ep : Nat) (kvs : List (NestedKey × V)) (k : NestedKey) (b : Addr),
  H a = some (dicO a o) ∧ DicOk a o es ep (kvs.map (·.1)) ∧ EntsOk K H es.toList kvs ∧ y = .ref b ∧ KeyV K H (.ref b) k ∧ k.depth ≤ 8 ∧ r = valV kvs k
def DG (K : PySem.W.Frag) (H : Hp) (a : Addr) (y : V) (r : Option V) : Prop := DGet H a y r ∨ GetN K H a y r
variable {a : Addr} {y v d : V} {u r : Value} {o : Option V} {A : Around} {E : Value → Shared → Prop}
theorem room8 (hu : A.units + 9 < cLine) : (nestedKind X.prog X.w).room A.in1 := by
  show A.units + 1 + 8 < cLine
  omega
theorem dg_getItem {Q : Value → Shared → Prop} (hu : A.units + 9 < cLine) (I : Inv X pins σ H s) (g : DG X.K H a y (some v)) (ry : RelV y u) (h : ∀ w' s', Inv X pins σ H s' → RelV v w' → Q w' s') :
    wpAny (model X.prog X.w) A (getItem (.ref a) u) Q E s := by
  rcases g with g | ⟨o, es, ep, kvs, k, b, h1, h2, h3, rfl, h5, h6, h7⟩
  · exact d_getItem (by omega) I g ry h
  · cases ry
    obtain ⟨xs, dd, _, pr⟩ := dic_of I h1 h2 h3
    have q := paired_val (k := k) pr
    rw [← h7] at q
    obtain ⟨w', hw, rw'⟩ := RelO.some_of q
    obtain ⟨p, hp, hp2⟩ := Option.map_eq_some_iff.mp hw
    refine wpAny_getItem_heap (room8 hu) ⟨keyV_is I h5 rfl, h6⟩ dd hp ?_
    rw [hp2]
    exact h w' _ (I.tok _) rw'
theorem dg_in {Q : Value → Shared → Prop} (hu : A.units + 9 < cLine) (I : Inv X pins σ H s) (g : DG X.K H a y o) (ry : RelV y u) (h : ∀ s', Inv X pins σ H s' → Q (.bool o.isSome) s') :
    wpAny (model X.prog X.w) A (compareOp .In u (.ref a)) Q E s := by
  rcases g with g | ⟨ob, es, ep, kvs, k, b, h1, h2, h3, rfl, h5, h6, h7⟩
  · exact d_in (by omega) I g ry h
  · cases ry
    obtain ⟨xs, dd, _, pr⟩ := dic_of I h1 h2 h3
    have q := (paired_val (k := k) pr).isSome_eq
    rw [Option.isSome_map, ← h7] at q
    refine wpAny_in_heap (room8 hu) ⟨keyV_is I h5 rfl, h6⟩ h2.sys dd ?_
    rw [← q]
    exact h _ (I.tok _)
theorem dg_notIn {Q : Value → Shared → Prop} (hu : A.units + 9 < cLine) (I : Inv X pins σ H s) (g : DG X.K H a y o) (ry : RelV y u) (h : ∀ s', Inv X pins σ H s' → Q (.bool (!o.isSome)) s') :
    wpAny (model X.prog X.w) A (compareOp .NotIn u (.ref a)) Q E s := by
  rcases g with g | ⟨ob, es, ep, kvs, k, b, h1, h2, h3, rfl, h5, h6, h7⟩
  · exact d_notIn (by omega) I g ry h
  · cases ry
    obtain ⟨xs, dd, _, pr⟩ := dic_of I h1 h2 h3
    have q := (paired_val (k := k) pr).isSome_eq
    rw [Option.isSome_map, ← h7] at q
    refine wpAny_notIn_heap (room8 hu) ⟨keyV_is I h5 rfl, h6⟩ h2.sys dd ?_
    rw [← q]
    exact h _ (I.tok _)
theorem dg_get2 {Q : Value → Shared → Prop} (hu : A.units + 9 < cLine) (I : Inv X pins σ H s) (g : DG X.K H a y o) (ry : RelV y u) (rd : RelV d r) (h : ∀ w' s', Inv X pins σ H s' → RelV (o.getD d) w' → Q w' s') :
    wpAny (model X.prog X.w) A (call (.builtin "dict.get") [.ref a, u, r]) Q E s := by
  rcases g with g | ⟨ob, es, ep, kvs, k, b, h1, h2, h3, rfl, h5, h6, h7⟩
  · exact d_get2 (by omega) I g ry rd h
  · cases ry
    obtain ⟨xs, dd, _, pr⟩ := dic_of I h1 h2 h3
    refine call_meetsIn PySem.F.slot_dict_get dd.typeIs PySem.F.entry_dict_get (PySem.F.args_dict_get_3 _ _ _) (meetsH_dict_get_default (nestedKind X.prog X.w) a b h2.sys r) ⟨room8 hu, k, xs, ⟨keyV_is I h5 rfl, h6⟩, dd, h _ _ (I.tok _) ?_⟩
    rw [h7]
    exact (paired_val (k := k) pr).getD rd
theorem dg_typeIs (I : Inv X pins σ H s) (g : DG X.K H a y o) : s.TypeIs (.ref a) "dict" := by
  rcases g with g | ⟨ob, es, ep, kvs, k, b, h1, h2, h3, _⟩
  · exact dict_typeIs I g
  · obtain ⟨xs, dd, _⟩ := dic_of I h1 h2 h3
    exact dd.typeIs
def IsDN (K : PySem.W.Frag) (H : Hp) (a : Addr) : Prop := IsD H a ∨ ∃ (o : Obj) (es : Array DictEntry) (ep : Nat) (kvs : List (NestedKey × V)), H a = some (dicO a o) ∧ DicOk a o es ep (kvs.map (·.1)) ∧ EntsOk K H es.toList kvs
theorem isDN_at (I : Inv X pins σ H s) (d : IsDN X.K H a) : s.TypeIs (.ref a) "dict" ∧ (∀ b, Value.ref a = .ref b → ∃ ob, s.heap.get? b = some ob ∧ ob.dict = none) ∧ (a == sysModules) = false := by
  rcases d with d | ⟨o, es, ep, kvs, h1, h2, h3⟩
  · exact isD_at I d
  · obtain ⟨xs, dd, _⟩ := dic_of I h1 h2 h3
    refine ⟨dd.typeIs, fun b q => ?_, h2.sys⟩
    cases q
    exact ⟨o, (I.hok a _ h1).1, h2.exact_.2.1⟩
end
end En
set_option Elab.async false
set_option linter.all false
set_option maxRecDepth 100000
set_option maxHeartbeats 1000000
set_option autoImplicit false
namespace En
open PySem PySem.Spec PyProof.Rows L2
section
variable {X : Cx} {pins : List (Addr × Obj)} {σ : L2.St} {H : Hp} {s : Shared}
theorem ents_xsF {F : Hp} (ex : Ex F H) (I : Inv X pins σ H s) : ∀ {es : List DictEntry} {kvs : List (NestedKey × V)}, EntsOk X.K F es kvs → ∃ xs : List (NestedKey × Addr × Value), es = xs.map (entryOfKey (nestedKind X.prog X.w)) ∧ xs.map (·.1) = kvs.map (·.1) ∧
    (∀ y ∈ xs, (nestedKind X.prog X.w).is s.heap y.1 y.2.1 ∧ KeyV X.K F (.ref y.2.1) y.1 ∧ y.1.depth ≤ 8) ∧ Paired (fun (p : NestedKey × V) (q : NestedKey × Addr × Value) => p.1 = q.1 ∧ RelV p.2 q.2.2) kvs xs
  | _, _, .nil => ⟨[], rfl, rfl, fun _ h => (by cases h), .nil⟩
  | _, _, .cons (en := en) (k := k) (v := v) (b := b) h1 h2 h3 h4 h5 hs => by
    obtain ⟨xs, e1, e2, e3, e4⟩ := ents_xsF ex I hs
    refine ⟨(k, b, en.val) :: xs, ?_, by simp [e2], fun y hy => ?_, .cons ⟨rfl, h5⟩ e4⟩
    · rw [List.map_cons, ← e1]
      congr 1
      obtain ⟨eh, ek, ev⟩ := en
      have h1' : ek = .ref b := h1
      have h2' : eh = k.hash X.w := h2 X.w
      subst h1' h2'
      rfl
    · rcases List.mem_cons.mp hy with rfl | hy
      · exact ⟨⟨keyV_is I (h3.mono ex) rfl, h4⟩, h3, h4⟩
      · exact e3 y hy
theorem ents_back {P : Program} {w : World} {K : PySem.W.Frag} {F : Hp} : ∀ {xs : List (NestedKey × Addr × Value)} {kvs : List (NestedKey × V)}, Paired (fun (p : NestedKey × V) (q : NestedKey × Addr × Value) => p.1 = q.1 ∧ RelV p.2 q.2.2) kvs xs → (∀ y ∈ xs, KeyV K F (.ref y.2.1) y.1 ∧ y.1.depth ≤ 8) → EntsOk K F (xs.map (entryOfKey (nestedKind P w))) kvs
  | _, _, .nil, _ => .nil
  | (k2, b, u) :: xs, (k, v) :: kvs, .cons ⟨h1, h2⟩ hs, hy => by
    have h1 : k = k2 := h1
    subst h1
    obtain ⟨y1, y2⟩ := hy (k, b, u) (List.mem_cons_self ..)
    exact .cons rfl (fun w' => y1.hash w w') y1 y2 h2 (ents_back hs fun y h => hy y (List.mem_cons_of_mem _ h))
theorem paired_putmap {k : NestedKey} {v : V} {u : Value} (r : RelV v u) : ∀ {kvs : List (NestedKey × V)} {xs : List (NestedKey × Addr × Value)}, Paired (fun (p : NestedKey × V) (q : NestedKey × Addr × Value) => p.1 = q.1 ∧ RelV p.2 q.2.2) kvs xs →
    Paired (fun (p : NestedKey × V) (q : NestedKey × Addr × Value) => p.1 = q.1 ∧ RelV p.2 q.2.2) (kvs.map fun kv => if kv.1 = k then (kv.1, v) else kv) (xs.map (putAt k u))
  | _, _, .nil => .nil
  | (k1, v1) :: _, (k2, b, u2) :: _, .cons ⟨h1, h2⟩ hs => by
    have h1 : k1 = k2 := h1
    subst h1
    refine .cons ?_ (paired_putmap r hs)
    unfold putAt
    by_cases e : k1 = k
    · simp only [if_pos e]; exact ⟨trivial, r⟩
    · simp only [if_neg e]; exact ⟨trivial, h2⟩
theorem paired_snoc {k : NestedKey} {b : Addr} {v : V} {u : Value} (r : RelV v u) : ∀ {kvs : List (NestedKey × V)} {xs : List (NestedKey × Addr × Value)}, Paired (fun (p : NestedKey × V) (q : NestedKey × Addr × Value) => p.1 = q.1 ∧ RelV p.2 q.2.2) kvs xs →
    Paired (fun (p : NestedKey × V) (q : NestedKey × Addr × Value) => p.1 = q.1 ∧ RelV p.2 q.2.2) (kvs ++ [(k, v)]) (xs ++ [(k, b, u)])
  | _, _, .nil => .cons ⟨rfl, r⟩ .nil
  | _, _, .cons h hs => .cons h (paired_snoc r hs)
theorem paired_stored {k : NestedKey} {b : Addr} {v : V} {u : Value} (r : RelV v u) {kvs : List (NestedKey × V)} {xs : List (NestedKey × Addr × Value)} (h : Paired (fun (p : NestedKey × V) (q : NestedKey × Addr × Value) => p.1 = q.1 ∧ RelV p.2 q.2.2) kvs xs) :
    Paired (fun (p : NestedKey × V) (q : NestedKey × Addr × Value) => p.1 = q.1 ∧ RelV p.2 q.2.2) (putK kvs k v) (storedH xs k b u) := by
  have q := (paired_val (k := k) h).isSome_eq
  rw [Option.isSome_map] at q
  unfold putK storedH
  rw [valV_any, q]
  split
  · exact paired_putmap r h
  · exact paired_snoc r h
theorem stored_keys {K : PySem.W.Frag} {F : Hp} {xs : List (NestedKey × Addr × Value)} {k : NestedKey} {b : Addr} {u : Value} (h : ∀ y ∈ xs, KeyV K F (.ref y.2.1) y.1 ∧ y.1.depth ≤ 8) (hk : KeyV K F (.ref b) k) (hd : k.depth ≤ 8) : ∀ y ∈ storedH xs k b u, KeyV K F (.ref y.2.1) y.1 ∧ y.1.depth ≤ 8 := by
  intro y hy
  unfold storedH at hy
  split at hy
  · obtain ⟨z, hz, rfl⟩ := List.mem_map.mp hy
    have := h z hz
    unfold putAt
    split <;> exact this
  · rcases List.mem_append.mp hy with hy | hy
    · exact h y hy
    · rw [List.mem_singleton.mp hy]; exact ⟨hk, hd⟩
theorem dicO_ok {P : Program} {w : World} {H' : Hp} {h' : Heap} {a : Addr} {o : Obj} (ho : h'.get? a = some o) : ObjOk P w H' h' a (dicO a o) := ⟨ho, ⟨o, ho⟩, fun _ _ p k => k _ p⟩
def PutN (K : PySem.W.Frag) (F H : Hp) (a : Addr) (y v : V) (Q : Hp → Prop) : Prop := ∃ (o : Obj) (es : Array DictEntry) (ep : Nat) (kvs : List (NestedKey × V)) (k : NestedKey) (b : Addr),
  H a = some (dicO a o) ∧ DicOk a o es ep (kvs.map (·.1)) ∧ EntsOk K F es.toList kvs ∧ Ex F H ∧ y = .ref b ∧ KeyV K F (.ref b) k ∧ k.depth ≤ 8 ∧ kvs.length < sizeLine ∧
  ∀ (o' : Obj) (es' : Array DictEntry) (ep' : Nat), DicOk a o' es' ep' ((putK kvs k v).map (·.1)) → EntsOk K F es'.toList (putK kvs k v) → Q (upd H a (dicO a o'))
def PutA (K : PySem.W.Frag) (H : Hp) (a : Addr) (y v : V) (Q : Hp → Prop) : Prop := (∃ H', DPut H a y v H' ∧ Q H') ∨ ∃ F, PutN K F H a y v Q
theorem paired_keys : ∀ {kvs : List (NestedKey × V)} {xs : List (NestedKey × Addr × Value)}, Paired (fun (p : NestedKey × V) (q : NestedKey × Addr × Value) => p.1 = q.1 ∧ RelV p.2 q.2.2) kvs xs → kvs.map (·.1) = xs.map (·.1)
  | _, _, .nil => rfl
  | _, _, .cons ⟨h, _⟩ hs => by simp only [List.map_cons, paired_keys hs, h]
variable {a : Addr} {y v d : V} {u r : Value} {o : Option V} {A : Around} {E : Value → Shared → Prop}
theorem dg_setItem {R : Hp → Prop} {Q : Unit → Shared → Prop} (hu : A.units + 9 < cLine) (I : Inv X pins σ H s) (g : PutA X.K H a y v R) (ry : RelV y u) (rv : RelV v r) (h : ∀ s' H', Inv X pins σ H' s' → R H' → Q () s') :
    wpAny (model X.prog X.w) A (setItem (.ref a) u r) Q E s := by
  rcases g with ⟨H', g, q⟩ | ⟨F, o, es, ep, kvs, k, b, h1, h2, h3, ex, rfl, h5, h6, hz, q⟩
  · exact d_setItem (by omega) I g ry rv fun s' I' => h s' H' I' q
  · cases ry
    obtain ⟨xs, e1, e2, e3, pr⟩ := ents_xsF ex I h3
    have ho : s.heap.get? a = some o := (I.hok a _ h1).1
    have dd : s.heap.DictOfH (nestedKind X.prog X.w) a xs := ⟨o, es, ep, ho, h2.exact_, h2.data, e1, fun y hy => (e3 y hy).1, by rw [e2]; exact h2.nodup⟩
    have hl : kvs.length = xs.length := Paired.length pr
    refine wpAny_setItem_heap (hsz := by omega) (room8 hu) ⟨keyV_is I (h5.mono ex) rfl, h6⟩ dd fun h' dd' hs => ?_
    have pr' := paired_stored (k := k) (b := b) rv pr
    have kk := stored_keys (u := r) (fun y hy => (e3 y hy).2) h5 h6
    obtain ⟨o', es', ep', ho', hx', hd', he', _, hn'⟩ := dd'
    have sz : (putK kvs k v).length ≤ kvs.length + 1 := length_putK kvs k v
    refine h _ (upd H a (dicO a o')) (d_write I (by rw [h1]; exact True.intro) hs ⟨o', ho'⟩ (dicO_ok ho')) (q o' es' ep' ⟨hx', hd', h2.sys, ?_, ?_⟩ ?_)
    · rw [paired_keys pr']; exact hn'
    · rw [List.length_map]; omega
    · rw [he']; exact ents_back pr' kk
end
section
variable {X : Cx} {o i e f value : Expr} {pos pos' tpos apos cpos : Pos} {td ty tv tx : TE}
def rDG (K : PySem.W.Frag) : R2 := fun x y H Q => ∃ a v, x = .ref a ∧ DG K H a y (some v) ∧ Q v H
theorem ix_dg (hu : X.A.units + 65 < cLine) : IxR X (rDG X.K) := by
  intro value slice pins s σ H x y v u Q I rx ry h hs
  obtain ⟨a, z, rfl, g, q⟩ := h
  obtain rfl : v = Value.ref a := rx
  exact tail_any (dg_typeIs I g) PySem.F.slot_dict_getitem.lookup (dg_getItem (by omega) I g ry fun w' s' I' rw' => ⟨z, H, I', rw', q⟩) hs
def rDIn (K : PySem.W.Frag) (neg : Bool) : R2 := fun x y H Q => ∃ a o, y = .ref a ∧ DG K H a x o ∧ Q (.bl (xor neg o.isSome)) H
theorem op_din (hu : X.A.units + 65 < cLine) : OpR X (compareOp .In) (rDIn X.K false) := by
  intro pins s σ H x y v u Q I rx ry h
  obtain ⟨a, o, rfl, g, q⟩ := h
  cases ry
  refine dg_in (by omega) I g rx fun s' I' => ⟨.bl o.isSome, H, I', rfl, ?_⟩
  simpa using q
theorem op_dnotin (hu : X.A.units + 65 < cLine) : OpR X (compareOp .NotIn) (rDIn X.K true) := by
  intro pins s σ H x y v u Q I rx ry h
  obtain ⟨a, o, rfl, g, q⟩ := h
  cases ry
  refine dg_notIn (by omega) I g rx fun s' I' => ⟨.bl (!o.isSome), H, I', rfl, ?_⟩
  simpa using q
def tDGet2N (K : PySem.W.Frag) (td ty tx : TE) : TE := fun σ H Q => td σ H fun x H1 => ∃ a, x = .ref a ∧ IsDN K H1 a ∧ ty σ H1 fun y H2 => tx σ H2 fun z H3 => ∃ o, DG K H3 a y o ∧ Q (o.getD z) H3
theorem pe_dget2N (hu : X.A.units + 65 < cLine) (ho : PE X o td) (he : PE X e ty) (hf : PE X f tx) (m : M2 X o "get" apos e f cpos) : PE X (.Call (.Attribute o "get" apos) [e, f] [] cpos) (tDGet2N X.K td ty tx) := by
  refine ⟨fun pins s σ H Q I h => ?_⟩
  refine wpAny_Call_method m.base m.few m.line PySem.F.plainAttrs_dict PySem.F.slot_dict_get PySem.F.type_dict_get (thn (ho.run pins s σ H _ I h) fun u s1 ⟨x, H1, I1, rx, a, ex, d, q1⟩ => ?_)
  subst ex
  obtain rfl : u = Value.ref a := rx
  obtain ⟨t1, t2, _⟩ := isDN_at I1 d
  refine ⟨t1, t2, ?_⟩
  rw [m.trees]
  refine Calls.callWith_builtin rfl (Calls.evalArgs_plain (Calls.spliced_cons (thn (he.run pins s1 σ H1 _ I1 q1) fun iv s2 ⟨y, H2, I2, ry, q2⟩ =>
    Calls.spliced_cons (thn (hf.run pins s2 σ H2 _ I2 q2) fun fv s3 ⟨z, H3, I3, rz, ov, g, q3⟩ => Calls.spliced_nil ?_))))
  exact dg_get2 (by omega) I3 g ry rz fun w' s4 I4 rw' => ⟨_, H3, I4, rw', q3⟩
def sDPutA (K : PySem.W.Frag) (td ty tv : TE) : TS := fun D σ H => tv σ H fun v H1 => td σ H1 fun x H2 => ty σ H2 fun y H3 => ∃ a, x = .ref a ∧ PutA K H3 a y v (D.nx σ)
theorem ps_dputA (hu : X.A.units + 65 < cLine) (ho : PE X o td) (hi : PE X i ty) (hv : PE X value tv) (hs : swapsWith value (some (.Subscript o i pos')) pos.line X.env = pure false) :
    PS X (.Assign [.Subscript o i pos'] value pos) (sDPutA X.K td ty tv) := by
  refine ⟨fun pins s σ H D I h => ?_⟩
  refine wpAny_Assign_Subscript (thn (hv.run pins s σ H _ I h) fun r s1 ⟨v, H1, I1, rv, q1⟩ => thn (ho.run pins s1 σ H1 _ I1 q1) fun u s2 ⟨x, H2, I2, rx, q2⟩ => thn (hi.run pins s2 σ H2 _ I2 q2) fun iv s3 ⟨y, H3, I3, ry, a, ex, g⟩ => ?_) hs
  subst ex
  obtain rfl : u = Value.ref a := rx
  exact dg_setItem (by omega) I3 g ry rv fun s4 H4 I4 q => ⟨σ, H4, I4, q⟩
theorem sys_new {pins : List (Addr × Obj)} {σ : L2.St} {H : Hp} {s : Shared} (I : Inv X pins σ H s) : (s.heap.objs.size == sysModules) = false := beq_eq_false_iff_ne.mpr (Ne.symm (Nat.ne_of_lt I.big))
def tDNewN : TE := fun _ H Q => ∀ p o, H p = none → DicOk p o #[] 0 [] → Q (.ref p) (upd H p (dicO p o))
theorem pe_dnewN : PE X (.Dict [] [] pos) tDNewN := ⟨fun pins s σ H Q I h =>
  wpAny_Dict_empty ⟨.ref s.heap.objs.size, _, I.laid (a := s.heap.objs.size) (o := dicO s.heap.objs.size { cls := .type "dict", data := .dict #[] }) (t' := s.toks) (fun _ _ q => Heap.get?_push_of_some _ q) (Nat.le_refl _) (dicO_ok (Heap.get?_push_size _ rfl)), rfl,
    h _ _ (I.hok.fresh (Nat.le_refl _)) ⟨⟨rfl, rfl, rfl⟩, rfl, sys_new I, List.nodup_nil, Nat.zero_le _⟩⟩⟩
def tDisp1 (K : PySem.W.Frag) (tk tv : TE) : TE := fun σ H Q => ∀ p o, H p = none → DicOk p o #[] 0 [] → tk σ (upd H p (dicO p o)) fun x H1 => tv σ H1 fun v H2 => H2 p = some (dicO p o) ∧ ∃ (F : Hp) (k : NestedKey) (b : Addr), Ex F H2 ∧ x = .ref b ∧ KeyV K F (.ref b) k ∧ k.depth ≤ 8 ∧
  ∀ (o' : Obj) (es' : Array DictEntry) (ep' : Nat), DicOk p o' es' ep' [k] → EntsOk K F es'.toList [(k, v)] → Q (.ref p) (upd H2 p (dicO p o'))
end
end En
set_option Elab.async false
set_option linter.all false
set_option maxRecDepth 100000
set_option maxHeartbeats 1000000
set_option autoImplicit false
namespace En
open PySem PySem.Spec PyProof.Rows L2
section
variable {X : Cx} {k v : Expr} {pos : Pos} {tk tv : TE}
theorem pe_disp1 (hu : X.A.units + 65 < cLine) (hk : PE X k tk) (hv : PE X v tv) : PE X (.Dict [some k] [v] pos) (tDisp1 X.K tk tv) := by
  refine ⟨fun pins s σ H Q I q => ?_⟩
  have hn := I.hok.fresh (Nat.le_refl s.heap.objs.size)
  have I1 := I.laid (a := s.heap.objs.size) (o := dicO s.heap.objs.size { cls := .type "dict", data := .dict #[] }) (h' := s.heap.push { cls := .type "dict", data := .dict #[] }) (t' := s.toks) (fun _ _ q => Heap.get?_push_of_some _ q) (Nat.le_refl _) (dicO_ok (Heap.get?_push_size _ rfl))
  have q1 := q _ { cls := .type "dict", data := .dict #[] } hn ⟨⟨rfl, rfl, rfl⟩, rfl, sys_new I, List.nodup_nil, Nat.zero_le _⟩
  rw [arm_eval_Dict, zip_pairTrees [some k] [v] X.env pos rfl rfl, dictDisplay_pairs (pairTrees [some k] [v] X.env pos) (by simp [pairTrees]) (by simp [pairTrees])]
  refine wpAny_bind (wpAny_standAt (wpAny_bind (wpAny_subDictH (knd := nestedKind X.prog X.w) (Q := fun d s' => wpAny (model X.prog X.w) X.A (pure (Value.ref d)) (EP X pins σ Q) X.xe s') (by show X.A.units + 8 < cLine; omega) (by simp [pairTrees]) ?_)))
  refine pairTrees_cons_walk (thn (hk.run pins _ σ _ _ I1 q1) fun u s1 ⟨x, H1, J1, rx, q2⟩ => thn (hv.run pins s1 σ H1 _ J1 q2) fun w2 s2 ⟨y, H2, J2, ry, e2, F, kk, b, ex, ex2, kv, kd, q3⟩ => pairTrees_nil_walk ?_)
  subst ex2
  obtain rfl : u = Value.ref b := rx
  have ho := (J2.hok _ _ e2).1
  refine ⟨[(kk, b, w2)], ⟨rfl, rfl, ⟨keyV_is J2 (kv.mono ex) rfl, kd⟩, trivial⟩, ⟨_, #[], 0, ho, ⟨rfl, rfl, rfl⟩, rfl, rfl, fun _ z => (by cases z), List.nodup_nil⟩, fun h' tk dd' hs => ?_⟩
  obtain ⟨o', es', ep', ho', hx', hd', he', _, hn'⟩ := dd'
  have es2 : storedAllH ([] : List (NestedKey × Addr × Value)) [(kk, b, w2)] = [(kk, b, w2)] := rfl
  rw [es2] at he' hn'
  refine wpAny_pure ⟨.ref s.heap.objs.size, _, d_write J2 (by rw [e2]; exact True.intro) hs ⟨o', ho'⟩ (dicO_ok ho'), rfl, q3 o' es' ep' ⟨hx', hd', sys_new I, by simp, by show 1 ≤ sizeLine; decide⟩ ?_⟩
  rw [he']
  exact .cons rfl (fun w' => kv.hash X.w w') kv kd ry .nil
end
def tListVals (te : TE) : TE := fun σ H Q => te σ H fun x H1 => ∃ d kvs, x = .ref d ∧ Rd H1 d (.dK kvs) ∧ ∀ p, H1 p = none → Q (.ref p) (upd H1 p (.lst (kvs.map (·.2))))
theorem vals_get : ∀ {xs : List V} {us : List Value}, xs.length = us.length → (∀ (j : Nat) (x : V) (u : Value), xs[j]? = some x → us[j]? = some u → RelV x u) → Vals xs us
  | [], [], _, _ => .nil
  | x :: xs, u :: us, h, q => .cons (q 0 x u rfl rfl) (vals_get (by simpa using h) fun j y z e1 e2 => q (j + 1) y z (by simpa using e1) (by simpa using e2))
  | [], _ :: _, h, _ => by simp at h
  | _ :: _, [], h, _ => by simp at h
section
variable {X : Cx} {e : Expr} {te : TE} {p apos cpos pos : Pos}
theorem pe_listVals (hc : X.calm = true) (he : PE X e te) (hg : Gl X "list") (hm : X.mg "list" = none) (hv : bootBuiltins "list" = some (.type "list") := by decide +kernel) (hbase : attributeBase e "values" X.env (eval e X.env) = eval e X.env := by rfl) (hline : (apos.endLine == cpos.line) = true := by rfl)
    (hs : starEach [.Call (.Attribute e "values" apos) [] [] cpos] X.env = (false, eval (.Call (.Attribute e "values" apos) [] [] cpos) X.env) :: starEach [] X.env := by rfl) :
    PE X (.Call (.Name "list" p) [.Call (.Attribute e "values" apos) [] [] cpos] [] pos) (tListVals te) := by
  refine ⟨fun pins s σ H Q I hq => ?_⟩
  refine wpAny_Call_Name_kw (ld_blt I hg hm hv ?_)
  refine PyProof.Rows.callWith_type1 ?_ hs rfl
  rw [hs]
  show wpAny _ _ (spliced ((false, eval (.Call (.Attribute e "values" apos) [] [] cpos) X.env) :: backTo pos (starEach [] X.env))) _ _ s
  refine Calls.spliced_cons ?_
  refine wpAny_Call_method (T := "dict") (id := "dict.values") hbase rfl hline F.plainAttrs_dict F.slot_dict_values F.type_dict_values (thn (he.run pins s σ H _ I hq) fun u s1 ⟨x, H1, I1, rx, d, kvs, ex, hd, q⟩ => ?_)
  subst ex
  obtain rfl : u = Value.ref d := rx
  obtain ⟨hz, hs0, vs, kv, hdo⟩ := hd.ok I1.hok
  obtain ⟨ep, hat⟩ := hdo.dictAt
  have lk : kvs.length = vs.length := Paired.length kv
  have I2 : Inv X pins σ H1 { s1 with heap := s1.heap.push { cls := .type "dict_values", data := .fields #[.ref d] } } := I1.kept (t' := s1.toks) fun b ob q => Heap.get?_push_of_some _ q
  refine ⟨hdo.typeIs, hdo.mapOf.noDict, ?_⟩
  show wpAny _ _ (callWith cpos (.builtin "dict.values") [.ref d] [] []) _ X.xe s1
  refine method_meetsIn F.slot_dict_values F.entry_dict_values rfl (PySem.evalArgs_none ⟨rfl, hdo.typeIs, F.args_dict_values_1 _, _, meets_dict_values (mixKind X.prog X.w) d hs0, ⟨vs, hdo⟩, ?_⟩)
  refine Calls.spliced_nil ?_
  refine PySem.W.kdl_call (PySem.W.kdl_values (knd := mixKind X.prog X.w) (kvs := vs) (ep := ep)) (I1.ok.hd hc) ⟨⟨_, Heap.get?_push_size _ rfl, rfl, rfl⟩, hat.push _⟩ (by omega) fun h' tk acc c hk hS hacc => ?_
  have fresh := I2.hok.fresh (Nat.le_refl _)
  refine ⟨.ref _, _, I2.laid (o := .lst (kvs.map (·.2))) (t' := tk) hk (Nat.le_refl _) ⟨by rw [List.length_map]; omega, acc.toList, c, vals_get ?_ fun j y z e1 e2 => ?_, ?_⟩, rfl, q _ fresh⟩
  · have z := hacc.1
    simp only [List.length_map, Array.length_toList]
    omega
  · rw [Array.getElem?_toList] at e2
    obtain ⟨k, ek⟩ := hacc.2 j z e2
    rw [List.getElem?_map] at e1
    obtain ⟨⟨k2, y2⟩, e3, rfl⟩ := Option.map_eq_some_iff.mp e1
    obtain ⟨u, eu, ru⟩ := kv_get kv e3
    rw [ek] at eu
    cases eu
    exact ru
  · rw [Array.toArray_toList]; exact hS
end
theorem pss_lock {X : Cx} {st : List Stmt} {t : TS} (h : PSs X st t) : PSs X st (fun D σ H => ∃ (d : Addr) (kvs : List (Key × V)), H d = some (.dK kvs) ∧ ∀ od, t D σ (upd H d (.frz od (.dK kvs)))) :=
  ⟨fun pins s σ H D I ⟨d, kvs, e, q⟩ => by
    obtain ⟨od, I'⟩ := I.lock e True.intro
    exact h.run pins s σ _ D I' (q od)⟩
section
variable {K : PySem.W.Frag} {w : Wd} {t : T} {H : Hp}
theorem step_cutwr (r : RelT K w t H) {n : Nat} {a : Addr} {o : HO} (h : w.as[n]? = some (some a)) : Step w H (w.cut n) (upd H a o) := (step_wr r h).trans (step_cut n)
theorem RelT.cutwr (r : RelT K w t H) {n : Nat} {a : Addr} {o : HO} (h : w.as[n]? = some (some a)) : RelT K (w.cut n) { t with st := t.st.set n .dead } (upd H a o) ∧ ¬ (w.cut n).mut a := by
  obtain ⟨r1, nm⟩ := r.cut h
  refine ⟨⟨fun b hb => (step_wr r h).there b _ (r.hidn b hb).choose_spec, r1.len, r1.inj, r1.out, fun m c' e => ?_, r1.bon, fun b l e => ?_⟩, nm⟩
  · have e' : (t.st.set n .dead)[m]? = some c' := e
    by_cases hm : n = m
    · subst hm
      have hl : n < t.st.length := by rw [← r.len]; exact as_len h
      rw [List.getElem?_set_self hl] at e'
      cases e'
      refine .inl ⟨rfl, ?_⟩
      show (w.as.set n none)[n]? = _
      rw [List.getElem?_set_self (as_len h)]
    · rw [List.getElem?_set_ne hm] at e'
      have ea : (w.cut n).as[m]? = w.as[m]? := by show (w.as.set n none)[m]? = _; rw [List.getElem?_set_ne hm]
      rcases r.cell m c' e' with ⟨q1, q2⟩ | ⟨b, hb, ok'⟩
      · exact .inl ⟨q1, by rw [ea]; exact q2⟩
      · have nb : b ≠ a := fun z => hm (r.inj n m a h (by rw [← z]; exact hb))
        exact .inr ⟨b, by rw [ea]; exact hb, ok'.mono (step_cutwr r h) (by rw [upd_ne nb])⟩
  · obtain ⟨h1, h2, h3, h4⟩ := r.box b l e
    have no := (r.out a (List.mem_of_getElem? h)).2
    exact ⟨h1, h2, h3, h4.mono (by rw [upd_ne (fun z => no ⟨b, l, e, .inr z.symm⟩)]) (by rw [upd_ne (fun z => no ⟨b, l, e, .inl z.symm⟩)])⟩
end
def sFzD (i : Nat) (m : MS) : MS := fun ρ t => match ρ[i]? with
  | some (some (.loc n)) => (match t.st[n]? with
    | some (.dK kvs) => (match datas (kvs.map (·.2)) with
      | some ds => m (ρ.set i (some (.d (.dK ((kvs.map (·.1)).zip ds))))) { t with st := t.st.set n .dead }
      | none => .stuck)
    | some (.dT kvs) => (match datas (kvs.map (·.2)) with
      | some ds => m (ρ.set i (some (.d (.dT ((kvs.map (·.1)).zip ds))))) { t with st := t.st.set n .dead }
      | none => .stuck)
    | _ => .stuck)
  | _ => m ρ t
theorem pss_or {X : Cx} {st : List Stmt} {t t' : TS} (h : PSs X st t) (h' : PSs X st t') : PSs X st (fun D σ H => t D σ H ∨ t' D σ H) := ⟨fun pins s σ H D I q => q.elim (h.run pins s σ H D I) (h'.run pins s σ H D I)⟩
theorem jss_fzD {X : Cx} {W : WX} {st : List Stmt} {m : MS} (i : Nat) (h : JSs X W st m) : JSs X W st (sFzD i m) :=
  PSs.imp (pss_or (pss_lock h) h) fun D σ H ⟨w, ρ, t, rt, rr, p⟩ => by
    unfold sFzD at p
    split at p
    · rename_i n ev
      obtain ⟨x, hx, rx⟩ := rr.at_ i _ ev
      split at p
      · rename_i kvs en
        split at p
        · rename_i ds ed
          obtain ⟨a, rfl, ha, xs, h1, h2⟩ := loc_live rt rx en (by intro z; cases z)
          refine .inl ⟨a, xs, h1, fun od => ?_⟩
          obtain ⟨rc, nm⟩ := rt.cutwr (o := .frz od (.dK xs)) ha
          have s := step_cutwr (o := .frz od (.dK xs)) rt ha
          refine ⟨w.cut n, ρ.set i _, _, rc, ?_, PostS.from s p⟩
          have := (rr.mono s).set (x := .ref a) (v := .d (.dK ((kvs.map (·.1)).zip ds))) i (Rep.dK ⟨od, Fz.to upd_same nm⟩ ((repVK_K ed h2).mono s.fz))
          rw [set_same hx] at this
          exact this
        · exact p.elim
      · rename_i kvs en
        split at p
        · rename_i ds ed
          obtain ⟨a, rfl, ha, o, es, ep, xs, h1, h3, h4, h2⟩ := loc_live rt rx en (by intro z; cases z)
          obtain ⟨rc, nm⟩ := rt.cut ha
          have s := step_cut (w := w) (H := H) n
          refine .inr ⟨w.cut n, ρ.set i _, _, rc, ?_, PostS.from s p⟩
          have := (rr.mono s).set (x := .ref a) (v := .d (.dT ((kvs.map (·.1)).zip ds))) i (Rep.dT (Fz.to h1 nm) h3 (h4.mono s.fz) ((repVK_T ed h2).mono s.fz))
          rw [set_same hx] at this
          exact this
        · exact p.elim
      · exact p.elim
    · exact .inr ⟨w, ρ, t, rt, rr, p⟩
end En
set_option Elab.async false
set_option linter.all false
set_option maxRecDepth 100000
set_option maxHeartbeats 1000000
set_option autoImplicit false
namespace En
open PySem PySem.Spec PyProof.Rows L2
def keyK : Val → Option Key
  | .d (.int i) => some (.inl i)
  | .d (.str x) => some (.inr x)
  | _ => none
def keyT : Val → Option NestedKey
  | .d (.tup ds) => (match toKey (.tup ds) with
    | some k => if k.depth ≤ 8 then some k else none
    | none => none)
  | _ => none
def dGet? (a k : Val) (t : T) : Option (Option Val) := match a with
  | .d (.dK kvs) => (keyK k).map fun k => lookK (kvs.map fun p => (p.1, Val.d p.2)) k
  | .d (.dT kvs) => (keyT k).map fun k => lookK (kvs.map fun p => (p.1, Val.d p.2)) k
  | .loc n => (match t.st[n]? with
    | some (.dK kvs) => (keyK k).map fun k => lookK kvs k
    | some (.dT kvs) => (keyT k).map fun k => lookK kvs k
    | _ => none)
  | _ => none
def isDicB (a : Val) (t : T) : Bool := match a with
  | .d (.dK _) => true
  | .d (.dT _) => true
  | .loc n => (match t.st[n]? with
    | some (.dK _) => true
    | some (.dT _) => true
    | _ => false)
  | _ => false
section
variable {K : PySem.W.Frag} {w : Wd} {t : T} {H : Hp}
theorem repK_V : ∀ {xs : List (Key × V)} {kvs : List (Key × D)}, RepK K (Fz w H) xs kvs → RepVK K w H xs (kvs.map fun p => (p.1, Val.d p.2))
  | _, _, .nil => .nil
  | _, _, .cons h hs => .cons h (repK_V hs)
theorem repT_V : ∀ {xs : List (NestedKey × V)} {kvs : List (NestedKey × D)}, RepT K (Fz w H) xs kvs → RepVK K w H xs (kvs.map fun p => (p.1, Val.d p.2))
  | _, _, .nil => .nil
  | _, _, .cons h hs => .cons h (repT_V hs)
theorem keyK_ok {y : V} {v : Val} {k : Key} (r : RepV K w H y v) (e : keyK v = some k) : y = kV k := by
  unfold keyK at e
  split at e
  · cases e; cases r; rfl
  · cases e; cases r; rfl
  · cases e
theorem keyT_ok {y : V} {v : Val} {k : NestedKey} (r : RepV K w H y v) (e : keyT v = some k) : ∃ b, y = .ref b ∧ KeyV K (Fz w H) (.ref b) k ∧ k.depth ≤ 8 := by
  unfold keyT at e
  split at e
  · rename_i ds
    split at e
    · rename_i k' ek
      split at e
      · rename_i hd
        cases e
        have r' : Rep K (Fz w H) y (.tup ds) := r
        have kv := toKey_ok _ ek r'
        cases r' with
        | tup h hs => exact ⟨_, rfl, kv, hd⟩
      · cases e
    · cases e
  · cases e
theorem dGet_ok {x y : V} {a k : Val} {o : Option Val} (r : RelT K w t H) (rx : RepV K w H x a) (ry : RepV K w H y k) (e : dGet? a k t = some o) :
    ∃ p ov, x = .ref p ∧ DG K H p y ov ∧ ((ov = none ∧ o = none) ∨ ∃ z v, ov = some z ∧ o = some v ∧ RepV K w H z v) := by
  unfold dGet? at e
  split at e
  · rename_i kvs
    obtain ⟨kk, ek, rfl⟩ := Option.map_eq_some_iff.mp e
    have hy := keyK_ok ry ek
    subst hy
    have rx' : Rep K (Fz w H) x (.dK kvs) := rx
    cases rx' with
    | @dK a xs _ h hs =>
      obtain ⟨ob, h⟩ := h
      exact ⟨a, lookK xs kk, rfl, .inl (.inl ⟨xs, kk, .inr ⟨ob, (Fz.of h).1⟩, rfl, rfl⟩), repVK_val (repK_V hs)⟩
  · rename_i kvs
    obtain ⟨kk, ek, rfl⟩ := Option.map_eq_some_iff.mp e
    obtain ⟨b, rfl, kv, hd⟩ := keyT_ok ry ek
    have rx' : Rep K (Fz w H) x (.dT kvs) := rx
    cases rx' with
    | @dT a ob es ep xs _ h h2 h3 hs =>
      exact ⟨a, lookK xs kk, rfl, .inr ⟨ob, es, ep, xs, kk, b, (Fz.of h).1, h2, h3.mono Fz.ex, rfl, kv.mono Fz.ex, hd, rfl⟩, repVK_val (repT_V hs)⟩
  · split at e
    · rename_i kvs en
      obtain ⟨kk, ek, rfl⟩ := Option.map_eq_some_iff.mp e
      have hy := keyK_ok ry ek
      subst hy
      obtain ⟨a, rfl, ha, xs, h1, h2⟩ := loc_live r rx en (by intro z; cases z)
      exact ⟨a, lookK xs kk, rfl, .inl (.inl ⟨xs, kk, .inl h1, rfl, rfl⟩), repVK_val h2⟩
    · rename_i kvs en
      obtain ⟨kk, ek, rfl⟩ := Option.map_eq_some_iff.mp e
      obtain ⟨b, rfl, kv, hd⟩ := keyT_ok ry ek
      obtain ⟨a, rfl, ha, ob, es, ep, xs, h1, h3, h4, h2⟩ := loc_live r rx en (by intro z; cases z)
      exact ⟨a, lookK xs kk, rfl, .inr ⟨ob, es, ep, xs, kk, b, h1, h3, h4.mono Fz.ex, rfl, kv.mono Fz.ex, hd, rfl⟩, repVK_val h2⟩
    · cases e
  · cases e
theorem isDic_ok {x : V} {a : Val} (r : RelT K w t H) (rx : RepV K w H x a) (e : isDicB a t = true) : ∃ p, x = .ref p ∧ IsDN K H p := by
  unfold isDicB at e
  split at e
  · rename_i kvs
    have rx' : Rep K (Fz w H) x (.dK kvs) := rx
    cases rx' with
    | @dK a xs _ h hs =>
      obtain ⟨ob, h⟩ := h
      exact ⟨a, rfl, .inl (.inl ⟨xs, .inr ⟨ob, (Fz.of h).1⟩⟩)⟩
  · rename_i kvs
    have rx' : Rep K (Fz w H) x (.dT kvs) := rx
    cases rx' with
    | @dT a ob es ep xs _ h h2 h3 hs => exact ⟨a, rfl, .inr ⟨ob, es, ep, xs, (Fz.of h).1, h2, h3.mono Fz.ex⟩⟩
  · split at e
    · rename_i kvs en
      obtain ⟨a, rfl, ha, xs, h1, h2⟩ := loc_live r rx en (by intro z; cases z)
      exact ⟨a, rfl, .inl (.inl ⟨xs, .inl h1⟩)⟩
    · rename_i kvs en
      obtain ⟨a, rfl, ha, ob, es, ep, xs, h1, h3, h4, h2⟩ := loc_live r rx en (by intro z; cases z)
      exact ⟨a, rfl, .inr ⟨ob, es, ep, xs, h1, h3, h4.mono Fz.ex⟩⟩
    · cases e
  · cases e
end
def fDGet (a k : Val) (t : T) : R Val := match dGet? a k t with
  | some (some v) => .ok v t
  | _ => .stuck
theorem s_dget {K : PySem.W.Frag} {W : WX} : OpS K W (rDG K) fDGet := by
  intro w t σ H x y a b Q r rx ry p
  unfold fDGet at p
  split at p
  · rename_i v ev
    obtain ⟨q, ov, rfl, g, ⟨_, z⟩ | ⟨z, v', rfl, ez, rz⟩⟩ := dGet_ok r rx ry ev
    · cases z
    · cases ez
      exact ⟨q, z, rfl, g, p.here r _ rz⟩
  · exact p.elim
theorem je_dget {X : Cx} {W : WX} {a b : Expr} {ma mb : ME Val} {pos : Pos} (hu : X.A.units + 65 < cLine) (ha : JE X W a ma) (hb : JE X W b mb) (hs : PlainIx b := by exact fun _ _ => rfl) : JE X W (.Subscript a b pos) (m2 fDGet ma mb) := PE.imp (pe_ix (ix_dg hu) ha hb hs) (sim2 s_dget)
def fDIn (a b : Val) (t : T) : R Val := match dGet? b a t with
  | some o => retB o.isSome t
  | none => .stuck
def fDNotIn (a b : Val) (t : T) : R Val := match dGet? b a t with
  | some o => retB (!o.isSome) t
  | none => .stuck
theorem some_same {K : PySem.W.Frag} {w : Wd} {H : Hp} {ov : Option V} {o : Option Val} (h : (ov = none ∧ o = none) ∨ ∃ z v, ov = some z ∧ o = some v ∧ RepV K w H z v) : ov.isSome = o.isSome := by
  rcases h with ⟨rfl, rfl⟩ | ⟨z, v, rfl, rfl, _⟩ <;> rfl
theorem s_din {K : PySem.W.Frag} {W : WX} : OpS K W (rDIn K false) fDIn := by
  intro w t σ H x y a b Q r rx ry p
  unfold fDIn at p
  split at p
  · rename_i o eo
    obtain ⟨q, ov, rfl, g, z⟩ := dGet_ok r ry rx eo
    refine ⟨q, ov, rfl, g, ?_⟩
    have := p.here r (.bl o.isSome) (Rep.bl _)
    rw [some_same z]
    simpa using this
  · exact p.elim
theorem s_dnotin {K : PySem.W.Frag} {W : WX} : OpS K W (rDIn K true) fDNotIn := by
  intro w t σ H x y a b Q r rx ry p
  unfold fDNotIn at p
  split at p
  · rename_i o eo
    obtain ⟨q, ov, rfl, g, z⟩ := dGet_ok r ry rx eo
    refine ⟨q, ov, rfl, g, ?_⟩
    have := p.here r (.bl (!o.isSome)) (Rep.bl _)
    rw [some_same z]
    simpa using this
  · exact p.elim
def mDGet2 (mo mk mx : ME Val) : ME Val := fun ρ t => (mo ρ t).bind fun a t => if isDicB a t then (mk ρ t).bind fun k t => (mx ρ t).bind fun x t => match dGet? a k t with
  | some o => .ok (o.getD x) t
  | none => .stuck
  else .stuck
theorem je_dget2 {X : Cx} {W : WX} {o e f : Expr} {mo mk mx : ME Val} {apos cpos : Pos} (hu : X.A.units + 65 < cLine) (ho : JE X W o mo) (he : JE X W e mk) (hf : JE X W f mx) (m : M2 X o "get" apos e f cpos := by exact ⟨rfl, rfl, rfl, rfl⟩) : JE X W (.Call (.Attribute o "get" apos) [e, f] [] cpos) (mDGet2 mo mk mx) :=
  PE.imp (pe_dget2N hu ho he hf m) fun σ H Q ⟨w, ρ, t, rt, rr, p⟩ => by
    refine ⟨w, ρ, t, rt, rr, PostE.imp (PostE.bind p) fun w1 H1 v t1 e1 s1 r1 q1 x rx => ?_⟩
    have q := q1 t1 e1 r1
    split at q
    · rename_i hb
      obtain ⟨a, rfl, isd⟩ := isDic_ok r1 rx hb
      refine ⟨a, rfl, isd, w1, ρ, t1, r1, rr.mono s1, PostE.imp (PostE.bind q) fun w2 H2 kv t2 e2 s2 r2 q2 y ry => ?_⟩
      refine ⟨w2, ρ, t2, r2, (rr.mono s1).mono s2, PostE.imp (PostE.bind (q2 t2 e2 r2)) fun w3 H3 xv t3 e3 s3 r3 q3 z rz => ?_⟩
      have q4 := q3 t3 e3 r3
      split at q4
      · rename_i ov eov
        obtain ⟨p', oV, ep, g, zz⟩ := dGet_ok r3 ((rx.mono s2).mono s3) (ry.mono s3) eov
        cases ep
        refine ⟨oV, g, ?_⟩
        rcases zz with ⟨rfl, rfl⟩ | ⟨z', v', rfl, rfl, rz'⟩
        · exact q4.here r3 _ rz
        · exact q4.here r3 _ rz'
      · exact q4.elim
    · exact q.elim
def sDPut (mo mi mv : ME Val) : MS := fun ρ t => (mv ρ t).toS ρ fun v t => (mo ρ t).toS ρ fun o t => (mi ρ t).toS ρ fun k t => match o with
  | .loc n => (match t.st[n]? with
    | some (.dK kvs) => (match keyK k with
      | some kk => if kvs.length < lim then .nx ρ { t with st := t.st.set n (.dK (putKV kvs kk v)) } else .stuck
      | none => .stuck)
    | some (.dT kvs) => (match keyT k with
      | some kk => if kvs.length < lim then .nx ρ { t with st := t.st.set n (.dT (putKV kvs kk v)) } else .stuck
      | none => .stuck)
    | _ => .stuck)
  | _ => .stuck
theorem js_dput {X : Cx} {W : WX} {o i e : Expr} {mo mi mv : ME Val} {pos' pos : Pos} (hu : X.A.units + 65 < cLine) (ho : JE X W o mo) (hi : JE X W i mi) (he : JE X W e mv) (hs : swapsWith e (some (.Subscript o i pos')) pos.line X.env = pure false := by rfl) :
    JS X W (.Assign [.Subscript o i pos'] e pos) (sDPut mo mi mv) :=
  PS.imp (ps_dputA hu ho hi he hs) fun D σ H ⟨w, ρ, t, rt, rr, p⟩ => by
    refine ⟨w, ρ, t, rt, rr, PostE.imp (PostS.expr rr p) fun w1 H1 v t1 e1 s1 r1 q x rx => ?_⟩
    refine ⟨w1, ρ, t1, r1, rr.mono s1, PostE.imp (PostS.expr (rr.mono s1) (q t1 e1)) fun w2 H2 ov t2 e2 s2 r2 q2 ox rox => ?_⟩
    refine ⟨w2, ρ, t2, r2, (rr.mono s1).mono s2, PostE.imp (PostS.expr ((rr.mono s1).mono s2) (q2 t2 e2)) fun w3 H3 iv t3 e3 s3 r3 q3 ix rix => ?_⟩
    have q4 := q3 t3 e3
    have rv := (rx.mono s2).mono s3
    split at q4
    · rename_i n
      split at q4
      · rename_i kvs en
        split at q4
        · rename_i kk ek
          split at q4
          · rename_i hl
            obtain ⟨a, rfl, ha, xs, h1, h2⟩ := loc_live r3 (rox.mono s3) en (by intro z; cases z)
            have hy := keyK_ok rix ek
            subst hy
            have s5 := step_wr (o := .dK (putK xs kk x)) r3 ha
            have r5 := r3.wr (o := .dK (putK xs kk x)) (c := .dK (putKV kvs kk v)) ha ⟨_, upd_same, (repVK_put2 rv h2).mono s5⟩
            exact ⟨a, rfl, .inl ⟨_, DPut.k h1 (by rw [h2.length]; exact lim_lt hl), q4 w3 _ σ s5 r5 ((((rr.mono s1).mono s2).mono s3).mono s5)⟩⟩
          · exact q4.elim
        · exact q4.elim
      · rename_i kvs en
        split at q4
        · rename_i kk ek
          split at q4
          · rename_i hl
            obtain ⟨a, rfl, ha, ob, es, ep, xs, h1, h3, h4, h2⟩ := loc_live r3 (rox.mono s3) en (by intro z; cases z)
            obtain ⟨b, rfl, kv, hd⟩ := keyT_ok rix ek
            refine ⟨a, rfl, .inr ⟨Fz w3 H3, ob, es, ep, xs, kk, b, h1, h3, h4, Fz.ex, rfl, kv, hd, by rw [h2.length]; exact lim_lt hl, fun o' es' ep' d' en' => ?_⟩⟩
            have s5 := step_wr (o := dicO a o') r3 ha
            have r5 := r3.wr (o := dicO a o') (c := .dT (putKV kvs kk v)) ha ⟨o', es', ep', _, upd_same, d', en'.mono s5.fz, (repVK_put2 rv h2).mono s5⟩
            exact q4 w3 _ σ s5 r5 ((((rr.mono s1).mono s2).mono s3).mono s5)
          · exact q4.elim
        · exact q4.elim
      · exact q4.elim
    · exact q4.elim
def mDNewK : ME Val := fun _ t => .ok (.loc t.st.length) { t with st := t.st ++ [.dK []] }
def mDNewT : ME Val := fun _ t => .ok (.loc t.st.length) { t with st := t.st ++ [.dT []] }
theorem je_dnewK {X : Cx} {W : WX} {pos : Pos} : JE X W (.Dict [] [] pos) mDNewK :=
  PE.imp pe_dnewK fun σ H Q ⟨w, ρ, t, rt, rr, p⟩ => fun a ha => by
    have ok : CellOk X.K (w.add a) (upd H a (.dK [])) a (.dK []) := ⟨[], upd_same, .nil⟩
    exact p (w.add a) _ (step_add rt ha) (rt.add ha ok) _ (.inr ⟨a, by rw [← rt.len]; exact add_last w a, rfl⟩)
theorem je_dnewT {X : Cx} {W : WX} {pos : Pos} : JE X W (.Dict [] [] pos) mDNewT :=
  PE.imp pe_dnewN fun σ H Q ⟨w, ρ, t, rt, rr, p⟩ => fun a o ha dok => by
    have ok : CellOk X.K (w.add a) (upd H a (dicO a o)) a (.dT []) := ⟨o, #[], 0, [], upd_same, dok, .nil, .nil⟩
    exact p (w.add a) _ (step_add rt ha) (rt.add ha ok) _ (.inr ⟨a, by rw [← rt.len]; exact add_last w a, rfl⟩)
def mDisp1 (mk mv : ME Val) : ME Val := fun ρ t => (mk ρ t).bindN fun k t => (mv ρ t).bindN fun v t => match keyT k with
  | some kk => .ok (.loc t.st.length) { t with st := t.st ++ [.dT [(kk, v)]] }
  | none => .stuck
theorem je_disp1 {X : Cx} {W : WX} {k v : Expr} {mk mv : ME Val} {pos : Pos} (hu : X.A.units + 65 < cLine) (hk : JE X W0 k mk) (hv : JE X W0 v mv) : JE X W (.Dict [some k] [v] pos) (mDisp1 mk mv) :=
  PE.imp (pe_disp1 hu hk hv) fun σ H Q ⟨w, ρ, t, rt, rr, p⟩ => fun pD o hp dok => by
    have hrem : rem (upd H pD (dicO pD o)) pD = H := by rw [rem_upd, rem_none hp]
    have rh : RelT X.K (w.hide pD) t (upd H pD (dicO pD o)) := RelT.hide (by rw [hrem]; exact rt) upd_same
    have rrh : RelR X.K (w.hide pD) ρ σ (upd H pD (dicO pD o)) := ⟨rr.len, fun j v e => let ⟨y, e1, r⟩ := rr.at_ j v e; ⟨y, e1, RepV.hide.mpr (by rw [hrem]; exact r)⟩⟩
    have stk : ¬ PostE X.K W σ w H (fun w' H' v => ∀ x, RepV X.K w' H' x v → Q x H') .stuck := fun z => z
    refine ⟨w.hide pD, ρ, t, rh, rrh, PostE.imp (PostE.bindN (fun r => PostE X.K W σ w H _ r) stk p) fun w1 H1 kv t1 e1 s1 r1 q1 x rx => ?_⟩
    refine ⟨w1, ρ, t1, r1, rrh.mono s1, PostE.imp (PostE.bindN (fun r => PostE X.K W σ w H _ r) stk (q1 t1 e1)) fun w2 H2 vv t2 e2 s2 r2 q2 y ry => ?_⟩
    have q3 := q2 t2 e2
    split at q3
    · rename_i kk ek
      have st := s1.trans s2
      have hD2 : H2 pD = some (dicO pD o) := st.keep pD _ upd_same fun z => by
        rcases z with z | z
        · obtain ⟨b, l, e, z⟩ := z
          obtain ⟨_, n1, n2, _⟩ := rh.box b l e
          rcases z with rfl | rfl
          · exact n1 (List.mem_cons_self ..)
          · exact n2 (List.mem_cons_self ..)
        · exact (rh.out pD z).1 (List.mem_cons_self ..)
      obtain ⟨w2', rfl, s2'⟩ := st.unhide
      rw [hrem] at s2'
      have hnD : ∀ a ∈ w2'.hid, a ≠ pD := fun a ha => by
        rw [s2'.hid] at ha
        intro z
        obtain ⟨u, eu⟩ := rt.hidn a ha
        rw [z, hp] at eu; cases eu
      have r2' : RelT X.K w2' t2 (rem H2 pD) := r2.unhide hnD
      obtain ⟨b, rfl, kv', kd⟩ := keyT_ok (RepV.hide.mp (rx.mono s2)) ek
      refine ⟨hD2, Fz w2' (rem H2 pD), kk, b, fun a u e => (rem_some (Fz.of e).1).2, rfl, kv', kd, fun o' es' ep' d' en' => ?_⟩
      have eu : upd H2 pD (dicO pD o') = upd (rem H2 pD) pD (dicO pD o') := by
        funext a
        by_cases e : a = pD
        · rw [e, upd_same, upd_same]
        · rw [upd_ne e, upd_ne e, rem_ne e]
      rw [eu]
      have sa := step_add (o := dicO pD o') r2' (p := pD) rem_self
      have ok : CellOk X.K (w2'.add pD) (upd (rem H2 pD) pD (dicO pD o')) pD (.dT [(kk, vv)]) := ⟨o', es', ep', [(kk, y)], upd_same, d', en'.mono sa.fz, .cons ((RepV.hide.mp ry).mono sa) .nil⟩
      exact q3 (w2'.add pD) _ (s2'.trans sa) (r2'.add rem_self ok) _ (.inr ⟨pD, by rw [← r2'.len]; exact add_last w2' pD, rfl⟩)
    · exact q3.elim
def fDVals (v : Val) (t : T) : R (List Val) := match v with
  | .d (.dK kvs) => .ok (kvs.map fun p => .d p.2) t
  | .loc n => (match t.st[n]? with
    | some (.dK kvs) => .ok (kvs.map (·.2)) t
    | _ => .stuck)
  | _ => .stuck
theorem repVK_vals {K : PySem.W.Frag} {w : Wd} {H : Hp} {κ : Type} {xs : List (κ × V)} {kvs : List (κ × Val)} (h : RepVK K w H xs kvs) : RepVs K w H (xs.map (·.2)) (kvs.map (·.2)) := by
  induction h with
  | nil => exact .nil
  | cons h _ ih => exact .cons h ih
theorem jl_vals {X : Cx} {W : WX} {e : Expr} {m : ME Val} {p apos cpos pos : Pos} (hc : X.calm = true) (hm : X.mg "list" = none) (he : JE X W e m) (hg : Gl X "list" := by rfl) (hv : bootBuiltins "list" = some (.type "list") := by decide +kernel) (hbase : attributeBase e "values" X.env (eval e X.env) = eval e X.env := by rfl) (hline : (apos.endLine == cpos.line) = true := by rfl)
    (hs : starEach [.Call (.Attribute e "values" apos) [] [] cpos] X.env = (false, eval (.Call (.Attribute e "values" apos) [] [] cpos) X.env) :: starEach [] X.env := by rfl) :
    JL X W (.Call (.Name "list" p) [.Call (.Attribute e "values" apos) [] [] cpos] [] pos) (m1 fDVals m) :=
  PE.imp (pe_listVals hc he hg hm hv hbase hline hs) fun σ H Q ⟨w, ρ, t, rt, rr, pp⟩ => by
    refine ⟨w, ρ, t, rt, rr, PostE.imp (PostE.bind pp) fun w1 H1 v t1 e1 s1 r1 q1 x rx => ?_⟩
    have q := q1 t1 e1 r1
    unfold fDVals at q
    split at q
    · rename_i kvs
      have rx' : Rep X.K (Fz w1 H1) x (.dK kvs) := rx
      cases rx' with
      | @dK a xs _ h hs' =>
        obtain ⟨ob, h⟩ := h
        refine ⟨a, xs, rfl, .inr ⟨ob, (Fz.of h).1⟩, fun l hl => ?_⟩
        have rv := repVK_vals (repK_V hs')
        rw [List.map_map] at rv
        exact q.here r1 l _ hl rv
    · split at q
      · rename_i kvs en
        obtain ⟨a, rfl, ha, xs, h1, h2⟩ := loc_live r1 rx en (by intro z; cases z)
        exact ⟨a, xs, rfl, .inl h1, fun l hl => q.here r1 l _ hl (repVK_vals h2)⟩
      · exact q.elim
    · exact q.elim
end En
set_option Elab.async false
set_option linter.all false
set_option maxRecDepth 100000
set_option maxHeartbeats 1000000
set_option autoImplicit false
namespace En
open PySem PySem.Spec PyProof.Rows L2
abbrev MG := List Val → T → R Val
theorem callG_sim {K : PySem.W.Frag} {W : WX} {w : Wd} {t : T} {H : Hp} {σ : L2.St} {xs : List V} {vs : List Val} {n : Nat} {mg : MG} {Q : VK} (hn : xs.length = n) (r : RelT K w t H) (rx : RepVs K w H xs vs) (p : PostE K W σ w H (fun w' H' v => ∀ z, RepV K w' H' z v → Q z H') (mg vs t)) : spG K n mg xs H Q (WE W σ) := by
  refine ⟨w, t, vs, hn, r, rx, ?_⟩
  revert p
  cases mg vs t with
  | ok v t' => exact fun p w' H' x s r' rv => p w' H' s r' x rv
  | exc x t' => exact fun p w' H' cls d s r' rv => p w' H' cls d s r' rv
  | stuck => exact fun p => p
theorem fnOk0G {P : Program} {wd : World} {K : PySem.W.Frag} {mg : Str → Option Value} {base : Heap} {CX : CXT} {k n : Nat} {f : Addr} {fd : FuncData} {ps : List Str} : FnOk P wd K mg base CX k f fd ps (spG K n fun _ _ => .stuck) :=
  ⟨fun _ _ _ _ h => by obtain ⟨w, b, us, _, _, _, p⟩ := h; exact p.elim, fun _ _ _ _ _ _ _ _ _ _ _ _ _ h => by obtain ⟨w, b, us, _, _, _, p⟩ := h; exact p.elim⟩
section
variable {X : Cx} {W : WX} {k n : Nat} {f : Addr} {fd : FuncData} {ps : List Str} {mg : MG} {x c m : Str} {p pos apos : Pos} {e o : Expr} {es : List Expr} {mo : ME Val} {ma : ME (List Val)}
theorem je_callG (F : FnOk X.prog X.w X.K X.mg X.base (L2.CX X.prog X.w) k f fd ps (spG X.K n mg)) (hr : Room k X.A) (hm : X.mg x = some (.ref f)) (hk : PySem.W.keepIn X.K (.ref f) = true) (hb : Binds X.K fd ps []) (tk : Takes X W) (ha : JA X W (e :: es) ma) (hl : (e :: es).length = n := by rfl)
    (hg : Gl X x := by rfl) (hdb : (x == ("__debug__" : Str)) = false := by decide) (he : starEach (e :: es) X.env = (false, eval e X.env) :: starEach es X.env := by rfl) (hpl : (backTo pos (starEach es X.env)).any (·.1) = false := by rfl)
    (hla : ∀ ρ t vs t', ma ρ t = .ok vs t' → vs.length = n) : JE X W (.Call (.Name x p) (e :: es) [] pos) (mL mg ma) :=
  PE.imp (pe_callSD (E := WE W) (dvs := []) F hr hg hm hk hb .nil (fun σ => passAt tk σ) ha hdb he hpl) fun σ H Q ⟨w, ρ, t, rt, rr, pp⟩ => by
    refine ⟨w, ρ, t, rt, rr, PostE.imp (PostE.bind pp) fun w1 H1 v t1 e1 s1 r1 q1 xs rx => ?_⟩
    show spG X.K n mg (xs ++ []) H1 Q (WE W σ)
    rw [List.append_nil]
    exact callG_sim (by rw [rx.length]; exact hla ρ t v t1 e1) r1 rx (q1 t1 e1 r1)
def fMakeG (c : Str) (mg : MG) (vs : List Val) (t : T) : R Val := match mg (.loc t.st.length :: vs) { t with st := t.st ++ [.ins c []] } with
  | .ok (.d .non) t' => .ok (.loc t.st.length) t'
  | .exc x t' => .exc x t'
  | _ => .stuck
theorem makeG_sim {K : PySem.W.Frag} {w : Wd} {t : T} {H : Hp} {σ : L2.St} {xs : List V} {vs : List Val} {Q : VK} (hn : xs.length = n) (r : RelT K w t H) (rx : RepVs K w H xs vs) (p : PostE K W σ w H (fun w' H' v => ∀ z, RepV K w' H' z v → Q z H') (fMakeG c mg vs t))
    {x dx : Addr} (hx : H x = none) (hdx : H dx = none) (ne : dx ≠ x) : spG K (n + 1) mg (.ref x :: xs) (upd (upd H dx (.own x)) x (.ins (He.ga K c) dx [])) (fun v H2 => v = .non ∧ Q (.ref x) H2) (WE W σ) := by
  have s1 := step_new (o := .own x) r hdx
  have r1 := r.new (o := .own x) hdx
  have hx1 : upd H dx (.own x) x = none := by rw [upd_ne (Ne.symm ne)]; exact hx
  have s2 := s1.trans (step_add (o := .ins (He.ga K c) dx []) r1 hx1)
  have r2 : RelT K (w.add x) { t with st := t.st ++ [.ins c []] } (upd (upd H dx (.own x)) x (.ins (He.ga K c) dx [])) := r1.add hx1 ⟨dx, [], upd_same, .nil⟩
  have rl : RepV K (w.add x) (upd (upd H dx (.own x)) x (.ins (He.ga K c) dx [])) (.ref x) (.loc t.st.length) := .inr ⟨x, by rw [← r.len]; exact add_last w x, rfl⟩
  refine ⟨w.add x, { t with st := t.st ++ [.ins c []] }, .loc t.st.length :: vs, by simp [hn], r2, .cons rl (rx.mono s2), ?_⟩
  unfold fMakeG at p
  split at p
  · rename_i t' e
    rw [e]
    intro w' H' y s r' rv
    cases rv
    exact ⟨rfl, p w' H' (s2.trans s) r' _ (rl.mono s)⟩
  · rename_i y t' e
    rw [e]
    intro w' H' cls d s r' rv
    exact p w' H' cls d (s2.trans s) r' rv
  · exact p.elim
theorem je_makeG (M : Mk X.K (He.ga X.K c) f) (F : FnOk X.prog X.w X.K X.mg X.base (L2.CX X.prog X.w) k f fd ps (spG X.K (n + 1) mg)) (hr : Room (k + 1) X.A) (hm : X.mg c = some (.ref (He.ga X.K c))) (hb : Binds X.K fd ps []) (tk : Takes X W) (ha : JA X W (e :: es) ma)
    (hla : ∀ ρ t vs t', ma ρ t = .ok vs t' → vs.length = n)
    (hg : Gl X c := by rfl) (hdb : (c == ("__debug__" : Str)) = false := by decide) (he : starEach (e :: es) X.env = (false, eval e X.env) :: starEach es X.env := by rfl) (hpl : (backTo pos (starEach es X.env)).any (·.1) = false := by rfl) : JE X W (.Call (.Name c p) (e :: es) [] pos) (mL (fMakeG c mg) ma) := by
  refine ⟨fun pins s σ H Q I ⟨w, ρ, t, rt, rr, pp⟩ => ?_⟩
  refine wpAny_Call_Name_kw (ld_glob I hg hm ?_ hdb)
  refine PySem.W.callWith_K (h₀ := X.base) I.ok.mod.kin M.kp (thn (ha.run pos pins s σ H (fun xs H1 => ∀ x dx, H1 x = none → H1 dx = none → dx ≠ x → spG X.K (n + 1) mg (.ref x :: xs) (upd (upd H1 dx (.own x)) x (.ins (He.ga X.K c) dx [])) (fun v H2 => v = .non ∧ Q (.ref x) H2) (WE W σ)) I
    ⟨w, ρ, t, rt, rr, PostE.imp (PostE.bind pp) fun w1 H1 v t1 e1 s1 r1 q1 xs rx x dx hx hdx ne => makeG_sim (by rw [rx.length]; exact hla ρ t v t1 e1) r1 rx (q1 t1 e1 r1) hx hdx ne⟩) fun us s1 ⟨vs, H1, I1, r, q⟩ => ⟨I1.kIn, ?_⟩) he hpl
  exact run_makeS M F hr hb tk I1 r q
def mMethG (c m : Str) (mg : MG) (mo : ME Val) (ma : ME (List Val)) : ME Val := fun ρ t => (mo ρ t).bind fun o t => match o with
  | .loc n => (match t.st[n]? with
    | some (.ins c' fs) => if c' = c ∧ fs.lookup m = none then (ma ρ t).bind fun vs t => mg (.loc n :: vs) t else .stuck
    | _ => .stuck)
  | .d (.ins c' fs) => if c' = c ∧ fs.lookup m = none then (ma ρ t).bind fun vs t => mg (.d (.ins c' fs) :: vs) t else .stuck
  | _ => .stuck
theorem repVK_none {K : PySem.W.Frag} {w : Wd} {H : Hp} {f : Str} : ∀ {xs : List (Str × V)} {fs : List (Str × Val)}, RepVK K w H xs fs → fs.lookup f = none → xs.lookup f = none
  | _, _, .nil, e => rfl
  | _, _, .cons (k := y) h hs, e => by
    rw [List.lookup_cons] at e ⊢
    cases q : (f == y) with
    | true => rw [q] at e; cases e
    | false => rw [q] at e; exact repVK_none hs e
theorem methG_sim {K : PySem.W.Frag} (hla : ∀ ρ t vs t', ma ρ t = .ok vs t' → vs.length = n) : ∀ σ H Q, tM K W (mMethG c m mg mo ma) σ H Q → tMethS (He.ga K c) m (spG K (n + 1) mg) (WE W) (tM K W mo) (tMA K W ma) σ H Q := fun σ H Q ⟨w, ρ, t, rt, rr, p⟩ => by
  refine ⟨w, ρ, t, rt, rr, PostE.imp (PostE.bind p) fun w1 H1 o t1 e1 s1 r1 q1 x rx => ?_⟩
  have q := q1 t1 e1 r1
  split at q
  · rename_i j
    split at q
    · rename_i c' fs en
      split at q
      · rename_i hc
        obtain ⟨rfl, hl⟩ := hc
        obtain ⟨a, rfl, ha, dx, ys, h1, h2⟩ := loc_live r1 rx en (fun z => by cases z)
        refine ⟨a, dx, ys, rfl, h1, repVK_none h2 hl, w1, ρ, t1, r1, rr.mono s1, PostE.imp (PostE.bind q) fun w2 H2 vs t2 e2 s2 r2 q2 xs rxs => ?_⟩
        exact callG_sim (by rw [List.length_cons, rxs.length, hla ρ t1 vs t2 e2]) r2 (.cons (rx.mono s2) rxs) (q2 t2 e2 r2)
      · exact q.elim
    · exact q.elim
  · rename_i c' fs
    split at q
    · rename_i hc
      obtain ⟨rfl, hl⟩ := hc
      have rx' : Rep K (Fz w1 H1) x (.ins c' fs) := rx
      cases rx' with
      | ins h hs =>
        refine ⟨_, _, _, rfl, (Fz.of h).1, repF_none hs hl, w1, ρ, t1, r1, rr.mono s1, PostE.imp (PostE.bind q) fun w2 H2 vs t2 e2 s2 r2 q2 xs rxs => ?_⟩
        exact callG_sim (by rw [List.length_cons, rxs.length, hla ρ t1 vs t2 e2]) r2 (.cons (rx.mono s2) rxs) (q2 t2 e2 r2)
    · exact q.elim
  · exact q.elim
theorem je_methG {pl : Sem Bool} (he : JE X W o mo) (hc : Cls X.K (He.ga X.K c)) (hm : Meth X.K (He.ga X.K c) m f) (F : FnOk X.prog X.w X.K X.mg X.base (L2.CX X.prog X.w) k f fd ps (spG X.K (n + 1) mg)) (hr : Room k X.A) (hb : Binds X.K fd ps []) (tk : Takes X W) (ha : JA X W (e :: es) ma)
    (hla : ∀ ρ t vs t', ma ρ t = .ok vs t' → vs.length = n)
    (hst : starEach (e :: es) X.env = (false, eval e X.env) :: starEach es X.env := by rfl) (hpl : (backTo pos (starEach es X.env)).any (·.1) = false := by rfl)
    (ht : eval (.Call (.Attribute o m apos) (e :: es) [] pos) X.env = (do
      let ov ← eval o X.env
      standAt apos.atName
      let (f, first) ← holding [ov] (getMethod ov m pl)
      callWith pos f first (backTo pos (starEach (e :: es) X.env)) (backToKw pos (keywordEach [] X.env))) := by rfl) :
    JE X W (.Call (.Attribute o m apos) (e :: es) [] pos) (mMethG c m mg mo ma) := PE.imp (pe_methS (pl := pl) he hc hm F hr hb tk ha hst hpl ht) (methG_sim hla)
end
def keyKD : Key → D
  | .inl i => .int i
  | .inr x => .str x
def fDValsI (v : Val) (t : T) : R (List Val) := match v with
  | .d (.dK kvs) => .ok (kvs.map fun p => .d p.2) t
  | _ => .stuck
def fDKeysI (v : Val) (t : T) : R (List Val) := match v with
  | .d (.dK kvs) => .ok (kvs.map fun p => .d (keyKD p.1)) t
  | _ => .stuck
theorem repK_get {K : PySem.W.Frag} {F : Hp} : ∀ {xs : List (Key × V)} {ds : List (Key × D)} {i : Nat} {p : Key × D}, RepK K F xs ds → ds[i]? = some p → ∃ x, xs[i]? = some (p.1, x) ∧ Rep K F x p.2
  | _, _, i, p, .nil, e => by simp at e
  | _, _, 0, p, .cons h hs, e => by
    simp only [List.getElem?_cons_zero, Option.some.injEq] at e
    subst e
    exact ⟨_, rfl, h⟩
  | _, _, i + 1, p, .cons h hs, e => by
    simp only [List.getElem?_cons_succ] at e ⊢
    exact repK_get hs e
theorem RepK.length {K : PySem.W.Frag} {F : Hp} : ∀ {xs : List (Key × V)} {ds : List (Key × D)}, RepK K F xs ds → xs.length = ds.length
  | _, _, .nil => rfl
  | _, _, .cons _ hs => by simp [RepK.length hs]
theorem ItOk.vals {K : PySem.W.Frag} {w : Wd} {H : Hp} {a : Addr} {o : Obj} {xs : List (Key × V)} {kvs : List (Key × D)} (h : Fz w H a = some (.frz o (.dK xs))) (hs : RepK K (Fz w H) xs kvs) : ItOk K w H (Itd a o xs) (kvs.map fun p => .d p.2) where
  go := fun i v w' H' t' e s r => by
    rw [List.getElem?_map] at e
    obtain ⟨p, ep, rfl⟩ := Option.map_eq_some_iff.mp e
    obtain ⟨x, ex, rx⟩ := repK_get (hs.mono s) ep
    refine ⟨⟨(Fz.of (s _ _ h)).1, (List.getElem?_eq_some_iff.mp ex).1⟩, fun y H'' q => ?_⟩
    obtain ⟨rfl, k, ek⟩ := q
    rw [ex] at ek
    cases ek
    exact ⟨.inl rfl, rx⟩
  stop := fun w' H' t' s r => ⟨(Fz.of (s _ _ h)).1, by rw [List.length_map, RepK.length hs]; exact Nat.le_refl _⟩
theorem ItOk.keys {K : PySem.W.Frag} {w : Wd} {H : Hp} {a : Addr} {o : Obj} {xs : List (Key × V)} {kvs : List (Key × D)} (h : Fz w H a = some (.frz o (.dK xs))) (hs : RepK K (Fz w H) xs kvs) : ItOk K w H (Itk a o xs) (kvs.map fun p => .d (keyKD p.1)) where
  go := fun i v w' H' t' e s r => by
    rw [List.getElem?_map] at e
    obtain ⟨p, ep, rfl⟩ := Option.map_eq_some_iff.mp e
    obtain ⟨x, ex, rx⟩ := repK_get (hs.mono s) ep
    refine ⟨⟨(Fz.of (s _ _ h)).1, (List.getElem?_eq_some_iff.mp ex).1⟩, fun y H'' q => ?_⟩
    obtain ⟨rfl, k, v, ek, rfl⟩ := q
    rw [ex] at ek
    cases ek
    refine ⟨.inl rfl, ?_⟩
    cases p.1 with
    | inl i => exact Rep.int i
    | inr x => exact Rep.str x
  stop := fun w' H' t' s r => ⟨(Fz.of (s _ _ h)).1, by rw [List.length_map, RepK.length hs]; exact Nat.le_refl _⟩
theorem ji_vals {X : Cx} {W : WX} {tg e : Expr} {m : ME Val} {apos cpos : Pos} (he : JE X W e m) (hbase : attributeBase e "values" X.env (eval e X.env) = eval e X.env := by rfl) (hline : (apos.endLine == cpos.line) = true := by rfl) : JI X W tg (.Call (.Attribute e "values" apos) [] [] cpos) (m1 fDValsI m) :=
  PI.imp (pi_values he hbase hline) fun σ H R ⟨w, ρ, t, rt, rr, p⟩ => by
    refine ⟨w, ρ, t, rt, rr, PostE.imp (PostE.bind p) fun w1 H1 v t1 e1 s1 r1 q x rx => ?_⟩
    have q1 := q t1 e1 r1
    unfold fDValsI at q1
    split at q1
    · rename_i kvs
      have rx' : Rep X.K (Fz w1 H1) x (.dK kvs) := rx
      cases rx' with
      | @dK a xs _ h hs =>
        obtain ⟨ob, h⟩ := h
        exact ⟨a, ob, xs, rfl, (Fz.of h).1, q1.here r1 _ (ItOk.vals h hs)⟩
    · exact q1.elim
theorem ji_keysK {X : Cx} {W : WX} {tg e : Expr} {m : ME Val} (he : JE X W e m) : JI X W tg e (m1 fDKeysI m) :=
  PI.imp (pi_keys he) fun σ H R ⟨w, ρ, t, rt, rr, p⟩ => by
    refine ⟨w, ρ, t, rt, rr, PostE.imp (PostE.bind p) fun w1 H1 v t1 e1 s1 r1 q x rx => ?_⟩
    have q1 := q t1 e1 r1
    unfold fDKeysI at q1
    split at q1
    · rename_i kvs
      have rx' : Rep X.K (Fz w1 H1) x (.dK kvs) := rx
      cases rx' with
      | @dK a xs _ h hs =>
        obtain ⟨ob, h⟩ := h
        exact ⟨a, ob, rfl, .inl ⟨xs, (Fz.of h).1, q1.here r1 _ (ItOk.keys h hs)⟩⟩
    · exact q1.elim
def intsOf : List Val → Option (List Int)
  | [] => some []
  | .d (.int i) :: vs => (intsOf vs).map (i :: ·)
  | _ => none
theorem intsOf_rep {K : PySem.W.Frag} {w : Wd} {H : Hp} : ∀ {xs : List V} {vs : List Val} {ns : List Int}, RepVs K w H xs vs → intsOf vs = some ns → xs = ns.map V.int
  | _, _, ns, .nil, e => by cases e; rfl
  | _, v :: vs, ns, .cons h hs, e => by
    unfold intsOf at e
    split at e
    · rename_i heq; cases heq
    · rename_i i vs' heq
      cases heq
      obtain ⟨ms, em, rfl⟩ := Option.map_eq_some_iff.mp e
      rw [List.map_cons, ← intsOf_rep hs em]
      cases h
      rfl
    · cases e
def maxL : List Int → Int
  | [] => 0
  | n :: ns => ns.foldl max n
def minL : List Int → Int
  | [] => 0
  | n :: ns => ns.foldl min n
theorem foldl_max (ns : List Int) : ∀ n : Int, n ≤ ns.foldl max n ∧ (∀ y ∈ ns, y ≤ ns.foldl max n) ∧ (ns.foldl max n = n ∨ ns.foldl max n ∈ ns) := by
  induction ns with
  | nil => intro n; exact ⟨Int.le_refl _, fun _ h => (by cases h), .inl rfl⟩
  | cons a ns ih =>
    intro n
    rw [List.foldl_cons]
    obtain ⟨h1, h2, h3⟩ := ih (max n a)
    refine ⟨by omega, fun y hy => ?_, ?_⟩
    · rcases List.mem_cons.mp hy with rfl | hy
      · omega
      · exact h2 y hy
    · rcases h3 with h3 | h3
      · by_cases hc : a ≤ n
        · left; rw [h3]; omega
        · right; rw [h3, show max n a = a by omega]; exact List.mem_cons_self ..
      · right; exact List.mem_cons_of_mem _ h3
theorem foldl_min (ns : List Int) : ∀ n : Int, ns.foldl min n ≤ n ∧ (∀ y ∈ ns, ns.foldl min n ≤ y) ∧ (ns.foldl min n = n ∨ ns.foldl min n ∈ ns) := by
  induction ns with
  | nil => intro n; exact ⟨Int.le_refl _, fun _ h => (by cases h), .inl rfl⟩
  | cons a ns ih =>
    intro n
    rw [List.foldl_cons]
    obtain ⟨h1, h2, h3⟩ := ih (min n a)
    refine ⟨by omega, fun y hy => ?_, ?_⟩
    · rcases List.mem_cons.mp hy with rfl | hy
      · omega
      · exact h2 y hy
    · rcases h3 with h3 | h3
      · by_cases hc : n ≤ a
        · left; rw [h3]; omega
        · right; rw [h3, show min n a = a by omega]; exact List.mem_cons_self ..
      · right; exact List.mem_cons_of_mem _ h3
theorem maxL_spec {n : Int} {ns : List Int} : maxL (n :: ns) ∈ n :: ns ∧ ∀ y ∈ n :: ns, y ≤ maxL (n :: ns) := by
  obtain ⟨h1, h2, h3⟩ := foldl_max ns n
  refine ⟨?_, fun y hy => ?_⟩
  · rcases h3 with h3 | h3
    · show ns.foldl max n ∈ _; rw [h3]; exact List.mem_cons_self ..
    · exact List.mem_cons_of_mem _ h3
  · rcases List.mem_cons.mp hy with rfl | hy
    · exact h1
    · exact h2 y hy
theorem minL_spec {n : Int} {ns : List Int} : minL (n :: ns) ∈ n :: ns ∧ ∀ y ∈ n :: ns, minL (n :: ns) ≤ y := by
  obtain ⟨h1, h2, h3⟩ := foldl_min ns n
  refine ⟨?_, fun y hy => ?_⟩
  · rcases h3 with h3 | h3
    · show ns.foldl min n ∈ _; rw [h3]; exact List.mem_cons_self ..
    · exact List.mem_cons_of_mem _ h3
  · rcases List.mem_cons.mp hy with rfl | hy
    · exact h1
    · exact h2 y hy
def fInts (f : List Int → Int) (one : Bool) (vs : List Val) (t : T) : R Val := match vs with
  | [v] => (match asList v t with
    | some us => (match intsOf us with
      | some ns => if one && ns.isEmpty then .stuck else retI (f ns) t
      | none => .stuck)
    | none => .stuck)
  | _ => .stuck
def fMax1 := fInts maxL true
def fMin1 := fInts minL true
def fSum1 := fInts List.sum false
theorem fInts_inv {K : PySem.W.Frag} {W : WX} {w : Wd} {t : T} {H : Hp} {σ : L2.St} {xs : List V} {vs : List Val} {Q : VK} {f : List Int → Int} {one : Bool} (r : RelT K w t H) (rx : RepVs K w H xs vs) (p : PostE K W σ w H (fun w' H' v => ∀ z, RepV K w' H' z v → Q z H') (fInts f one vs t)) :
    ∃ a ns, xs = [.ref a] ∧ SqL K H a (ns.map V.int) ∧ (one = true → ns ≠ []) ∧ Q (.int (f ns)) H := by
  unfold fInts at p
  split at p
  · split at p
    · rename_i us eu
      split at p
      · rename_i ns en
        split at p
        · exact p.elim
        · rename_i hc
          obtain ⟨x, rfl, rx1⟩ := rx.one
          obtain ⟨a, ys, rfl, hq, hs⟩ := asList_rep r rx1 eu
          have hy := intsOf_rep hs en
          subst hy
          refine ⟨a, ns, rfl, SqL.of hq, fun h z => hc ?_, p.here r _ (Rep.int _)⟩
          rw [h, z]; rfl
      · exact p.elim
    · exact p.elim
  · exact p.elim
theorem c_max1 {K : PySem.W.Frag} {W : WX} : CallS K W (rMax K) fMax1 := by
  intro w t σ H xs vs Q r rx p
  obtain ⟨a, ns, rfl, hs, hne, q⟩ := fInts_inv r rx p
  cases ns with
  | nil => exact absurd rfl (hne rfl)
  | cons n ns =>
    refine ⟨a, n :: ns, rfl, hs, by simp, fun m hm hy => ?_⟩
    obtain ⟨h1, h2⟩ := maxL_spec (n := n) (ns := ns)
    rw [show m = maxL (n :: ns) from Int.le_antisymm (h2 m hm) (hy _ h1)]
    exact q
theorem c_min1 {K : PySem.W.Frag} {W : WX} : CallS K W (rMin K) fMin1 := by
  intro w t σ H xs vs Q r rx p
  obtain ⟨a, ns, rfl, hs, hne, q⟩ := fInts_inv r rx p
  cases ns with
  | nil => exact absurd rfl (hne rfl)
  | cons n ns =>
    refine ⟨a, n :: ns, rfl, hs, by simp, fun m hm hy => ?_⟩
    obtain ⟨h1, h2⟩ := minL_spec (n := n) (ns := ns)
    rw [show m = minL (n :: ns) from Int.le_antisymm (hy _ h1) (h2 m hm)]
    exact q
theorem c_sum1 {K : PySem.W.Frag} {W : WX} : CallS K W (rSum K) fSum1 := by
  intro w t σ H xs vs Q r rx p
  obtain ⟨a, ns, rfl, hs, _, q⟩ := fInts_inv r rx p
  exact ⟨a, ns, rfl, hs, q⟩
def ixOf (i : Int) : List Int → Option Nat
  | [] => none
  | n :: ns => if n = i then some 0 else (ixOf i ns).map (· + 1)
theorem ixOf_spec {i : Int} : ∀ {ns : List Int} {j : Nat}, ixOf i ns = some j → ns[j]? = some i ∧ ∀ m, m < j → ∀ z, ns[m]? = some z → z ≠ i
  | [], j, e => by cases e
  | n :: ns, j, e => by
    unfold ixOf at e
    split at e
    · rename_i h
      cases e
      exact ⟨by simp [h], fun m hm => absurd hm (Nat.not_lt_zero _)⟩
    · rename_i h
      obtain ⟨k, ek, rfl⟩ := Option.map_eq_some_iff.mp e
      obtain ⟨h1, h2⟩ := ixOf_spec ek
      refine ⟨by simpa using h1, fun m hm z ez => ?_⟩
      cases m with
      | zero => simp at ez; subst ez; exact h
      | succ m => exact h2 m (by omega) z (by simpa using ez)
def fIndexI (v : Val) (vs : List Val) (t : T) : R Val := match vs with
  | [.d (.int i)] => (match asList v t with
    | some us => (match intsOf us with
      | some ns => (match ixOf i ns with
        | some j => retI (j : Int) t
        | none => .stuck)
      | none => .stuck)
    | none => .stuck)
  | _ => .stuck
theorem m_indexI {K : PySem.W.Frag} {W : WX} : MtS K W (rIndex K) fIndexI := by
  intro w t σ H x xs v vs Q r rx rxs p
  unfold fIndexI at p
  split at p
  · rename_i i
    split at p
    · rename_i us eu
      split at p
      · rename_i ns en
        split at p
        · rename_i j ej
          obtain ⟨y, rfl, ry⟩ := rxs.one
          cases ry
          obtain ⟨a, ys, rfl, hq, hs⟩ := asList_rep r rx eu
          have hy := intsOf_rep hs en
          subst hy
          obtain ⟨h1, h2⟩ := ixOf_spec ej
          refine ⟨a, ns.map V.int, .int i, j, .int i, rfl, rfl, SqL.of hq, rfl, ?_, by rw [List.getElem?_map, h1]; rfl, by simp [eqV], fun m z' hm ez => ?_, p.here r _ (Rep.int _)⟩
          · rw [List.all_eq_true]
            intro z hz
            obtain ⟨n, _, rfl⟩ := List.mem_map.mp hz
            rfl
          · rw [List.getElem?_map] at ez
            obtain ⟨n, en', rfl⟩ := Option.map_eq_some_iff.mp ez
            have := h2 m hm n en'
            simp [eqV, this]
        · exact p.elim
      · exact p.elim
    · exact p.elim
  · exact p.elim
end En
set_option Elab.async false
set_option linter.all false
set_option maxRecDepth 100000
set_option maxHeartbeats 3200000
set_option autoImplicit false
namespace En
open PySem PySem.Spec PyProof.Rows L2
section
variable {P : Program} {w : World} {A : Around} {E : Value → Shared → Prop} {s : Shared}
abbrev set0 (w : World) : Obj := { cls := .type "set", dict := none, data := .set #[] 0 (.fresh 0 0 (!w.params.followText "set-order")) }
theorem call_setTup {l : Addr} {items : Array Value} (ks : List (Addr × List Int)) {Q : Value → Shared → Prop} (hh : A.handled = none) (hl : s.heap.IsTuple l items) (hit : items.toList = ks.map fun p => Value.ref p.1)
    (hk : ∀ p ∈ ks, IsT P w s.heap p.2 p.1) (hfew : ks.length < 64) (hu : A.units + 3 < cLine)
    (h : ∀ (h' : Heap) (tk : Nat) L es ep t, SetTR P w h' s.heap.objs.size L es ep t → Got ks ks.length L → (∀ b o, s.heap.get? b = some o → h'.get? b = some o) → Q (.ref s.heap.objs.size) { s with heap := h', toks := tk }) :
    wpAny (model P w) A (call (.type "set") [.ref l]) Q E s := by
  have hisz : items.size = ks.length := by
    have q := congrArg List.length hit
    rwa [Array.length_toList, List.length_map] at q
  have hz : ∀ b, s.heap.objs.size ≤ b → s.heap.get? b = none := fun b hb => by
    cases q : s.heap.get? b with
    | none => rfl
    | some o => exact absurd (Nat.lt_of_lt_of_le (Heap.lt_size q) hb) (Nat.lt_irrefl _)
  obtain ⟨c, tl, hmro⟩ := F.called_set.mro
  have hmade := F.called_set.made
  have hsub := F.called_set.sub
  refine wpAny_call (codeAny_of_tree ?_)
  show wpAny _ _ (callAny (.type "set") _) _ _ _
  refine wpAny_pure ⟨Code.quiet_builtin _ (by decide +kernel), codeAny_builtin F.entry_type_call ?_⟩
  rw [Around.under_plain (weight_type_call_type "set" [.ref l] []) rfl]
  have h1 := F.called_set.notType
  have h2 := F.called_set.canCreate
  have hct := F.typeCall_set_1 (.ref l)
  repeat (any_goals (first | assumption | wp_step))
  refine codeAny_mono (code_set_led1 (.ref l) (E := E) (Q₁ := fun obj s₁ => obj = .ref s.heap.objs.size ∧ s₁ = { s with heap := s.heap.push (set0 w) }) ⟨rfl, rfl⟩) fun r s₁ hr => ?_
  cases r with
  | error e => exact hr
  | ok fl =>
    cases fl with
    | ret obj =>
      obtain ⟨rfl, rfl⟩ := hr
      have hS : (s.heap.push (set0 w)).get? s.heap.objs.size = some (set0 w) := Heap.get?_push_size _ rfl
      have hT : Shared.TypeIs { s with heap := s.heap.push (set0 w) } (.ref s.heap.objs.size) "set" := ⟨_, hS, rfl⟩
      have hli := F.called_set.init.lookup
      have hbi := F.called_set.init.bind (.ref s.heap.objs.size)
      repeat (any_goals (first | assumption | wp_step))
      refine codeAny_mono (codeAny_call_builtin (R := wants (fun r s₂ => r = .none ∧ ∃ h' tk L es ep t, s₂ = { s with heap := h', toks := tk } ∧ SetTR P w h' s.heap.objs.size L es ep t ∧ Got ks ks.length L ∧
          (∀ b o, s.heap.get? b = some o → h'.get? b = some o)) E) F.called_set.init.plain F.entry_set_init (check_set_init_1 hT ?_)) fun r₂ s₂ hr₂ => ?_
      · obtain ⟨ol, hol, hcl, nl, hdl⟩ := hl
        obtain ⟨ocls, odict, odata, oslots⟩ := ol
        simp only at hcl hdl
        subst hcl; subst hdl
        have hol' : (s.heap.push (set0 w)).get? l = some { cls := .type "tuple", dict := odict, data := .seq items nl, slots := oslots } := Heap.get?_push_of_some _ hol
        have hsls := F.sub_tuple_set
        have hslf := F.sub_tuple_frozenset
        have hne : (Value.type "tuple" == Value.type "dict") = false := by decide
        have hl1 : (s.heap.push (set0 w)).IsTuple l items := ⟨_, hol', rfl, nl, rfl⟩
        unfold Builtin.«set.__init__» noKeywords Builtin.Frozenset.updateFrom
        generalize hPI : pyIter = PI
        wp_walk
        subst hPI
        refine wpAny_pyIter_tuple hl1 ?_
        refine wpAny_bind (wpAny_runValue ?_)
        have hlS : l < s.heap.objs.size := Heap.lt_size hol
        have hh3 : A.in1.in1.in1.handled = none := by simp [hh]
        have hneI : l ≠ (s.heap.push (set0 w)).objs.size := by
          rw [Heap.size_push]; exact Nat.ne_of_lt (Nat.lt_succ_of_lt hlS)
        have hSf : s.heap.objs.size ∉ [(s.heap.push (set0 w)).objs.size, l] := by
          rw [Heap.size_push]; simp only [List.mem_cons, List.mem_singleton, List.not_mem_nil, or_false, not_or]
          exact ⟨Nat.ne_of_lt (Nat.lt_succ_self _), Nat.ne_of_gt hlS⟩
        have hval : ∀ (i : Nat) (v : Value), items[i]? = some v → ∃ p, ks[i]? = some p ∧ v = .ref p.1 := fun i v hv => by
          have q : items.toList[i]? = some v := by rw [Array.getElem?_toList]; exact hv
          rw [hit, List.getElem?_map] at q
          obtain ⟨p, hp, e⟩ := Option.map_eq_some_iff.mp q
          exact ⟨p, hp, e.symm⟩
        refine set_update_tups ((Walks.tuple hh3 _ l hneI items).toS) s.heap.objs.size
          hSf ks hisz hfew hval s.heap hk (hz _ (Nat.le_refl _)) (fun b hb => hz b (by
            rw [List.mem_singleton.mp hb, Heap.size_push]
            exact Nat.le_succ _)) hu (items.size - 0) 0 _ (by omega) (Nat.zero_le _)
          ⟨⟨_, Heap.get?_push_size _ rfl, rfl, rfl⟩, (hl1.push _)⟩ (fun b o e => Heap.get?_push_of_some _ (Heap.get?_push_of_some _ e)) ?hS0 ?hR
        case hS0 =>
          exact ⟨[], #[], 0, _, setTR_fresh (Heap.get?_push_of_some _ hS), Got.zero ks⟩
        case hR =>
          intro s' L es ep t hm hS' g' hkp
          obtain ⟨h', g2, d', tk', os'⟩ := s'
          have eg : g2 = s.gens := hm.gens
          have ed : d' = s.drawn := hm.drawn
          have eo : os' = s.os := hm.os
          subst eg; subst ed; subst eo
          refine wpAny_pure ?_
          show wpAny _ _ (ret Value.none) _ _ _
          rw [hisz] at g'
          exact wpAny_pure ⟨rfl, h', tk', L, es, ep, t, rfl, hS', g', hkp⟩
      · cases r₂ with
        | error e => exact hr₂
        | ok fl₂ =>
          cases fl₂ with
          | ret r =>
            obtain ⟨rfl, h', tk, L, es, ep, t, rfl, hS', g', hk'⟩ := hr₂
            repeat (any_goals (first | assumption | wp_step))
            exact h _ _ _ _ _ _ hS' g' hk'
          | _ => exact hr₂.elim
    | _ => exact hr.elim
end
def rSetTup (K : PySem.W.Frag) (P : Program) (w : World) : List V → Hp → VK → Prop := fun xs H Q => ∃ (l : Addr) (ks : List (Addr × List Int)), xs = [V.ref l] ∧ SqT K H l (ks.map fun p => V.ref p.1) ∧ (∀ p ∈ ks, SqT K H p.1 (p.2.map V.int)) ∧ ks.length < 64 ∧
  ∀ a L, H a = none → (∀ p ∈ L, p ∈ ks) → (∀ p ∈ ks, p.2 ∈ L.map (·.2)) → Q (.ref a) (upd H a (SetTO P w a L))
theorem cr_setTup {X : Cx} (hc : X.calm = true) (hu : X.A.units + 65 < cLine) : CallR X (.type "set") (rSetTup X.K X.prog X.w) := by
  intro pins s σ H xs us Q I r h
  obtain ⟨l, ks, rfl, hl, hk, hf, q⟩ := h
  rw [Vals.ref1 r]
  obtain ⟨its, rv, hT, _⟩ := I.tuple hl
  have hn : H s.heap.objs.size = none := I.hok.fresh (Nat.le_refl _)
  refine call_setTup (P := X.prog) (w := X.w) ks (I.ok.hd hc) hT (by simpa using refs_of_vals rv) (fun p hp => I.isT (hk p hp)) hf (by omega) fun h' tk L es ep t R g k => ?_
  refine ⟨.ref s.heap.objs.size, upd H s.heap.objs.size (SetTO X.prog X.w s.heap.objs.size L), I.laid (t' := tk) k (Nat.le_refl _) (setTO_new R.t0), rfl, q _ L hn (fun p hp => ?_) fun p hp => ?_⟩
  · exact List.mem_of_mem_take (g.sub p hp)
  · exact g.all p (by rw [List.take_length]; exact hp)
def pairD (p : Int × Int) : D := .tup [.int p.1, .int p.2]
def okP (p : Int × Int) : Bool := decide (0 ≤ p.1) && decide (p.1 < 64) && decide (0 ≤ p.2) && decide (p.2 < 64)
def pairI : D → Option (Int × Int)
  | .tup [.int a, .int b] => if okP (a, b) then some (a, b) else none
  | _ => none
def pairsI : List D → Option (List (Int × Int))
  | [] => some []
  | d :: ds => match pairI d, pairsI ds with
    | some p, some ps => some (p :: ps)
    | _, _ => none
def cdP (p : Int × Int) : Int := p.1 * 64 + p.2
def insP (p : Int × Int) : List (Int × Int) → List (Int × Int)
  | [] => [p]
  | q :: r => if cdP p < cdP q then p :: q :: r else if p = q then q :: r else q :: insP p r
def sortP (ps : List (Int × Int)) : List (Int × Int) := ps.foldr insP []
theorem pairI_some {d : D} {p : Int × Int} (h : pairI d = some p) : d = pairD p ∧ okP p = true := by
  unfold pairI at h
  split at h
  · split at h
    · rename_i e; cases h; exact ⟨rfl, e⟩
    · cases h
  · cases h
theorem pairsI_some : ∀ {ds : List D} {ps : List (Int × Int)}, pairsI ds = some ps → ds = ps.map pairD ∧ ∀ p ∈ ps, okP p = true
  | [], ps, h => by cases h; exact ⟨rfl, fun _ z => by cases z⟩
  | d :: ds, ps, h => by
    unfold pairsI at h
    split at h
    · rename_i p qs e1 e2
      cases h
      obtain ⟨h1, h2⟩ := pairI_some e1
      obtain ⟨h3, h4⟩ := pairsI_some e2
      refine ⟨by rw [h1, h3]; rfl, fun q hq => ?_⟩
      rcases List.mem_cons.mp hq with rfl | hq
      · exact h2
      · exact h4 q hq
    · cases h
theorem insP_mem {p x : Int × Int} : ∀ {l : List (Int × Int)}, x ∈ insP p l ↔ x = p ∨ x ∈ l
  | [] => by simp [insP]
  | q :: r => by
    unfold insP
    split
    · simp
    · split
      · rename_i e; subst e; simp
      · rw [List.mem_cons, insP_mem, List.mem_cons]
        constructor
        · rintro (h | h | h)
          · exact .inr (.inl h)
          · exact .inl h
          · exact .inr (.inr h)
        · rintro (h | h | h)
          · exact .inr (.inl h)
          · exact .inl h
          · exact .inr (.inr h)
theorem sortP_mem {x : Int × Int} : ∀ {ps : List (Int × Int)}, x ∈ sortP ps ↔ x ∈ ps
  | [] => Iff.rfl
  | p :: ps => by
    show x ∈ insP p (sortP ps) ↔ _
    rw [insP_mem, sortP_mem, List.mem_cons]
theorem okP_iff {p : Int × Int} (h : okP p = true) : 0 ≤ p.1 ∧ p.1 < 64 ∧ 0 ≤ p.2 ∧ p.2 < 64 := by
  unfold okP at h
  simp only [Bool.and_eq_true, decide_eq_true_eq] at h
  exact ⟨h.1.1.1, h.1.1.2, h.1.2, h.2⟩
theorem cdP_inj {p q : Int × Int} (hp : okP p = true) (hq : okP q = true) (h : cdP p = cdP q) : p = q := by
  obtain ⟨a1, a2, a3, a4⟩ := okP_iff hp
  obtain ⟨b1, b2, b3, b4⟩ := okP_iff hq
  unfold cdP at h
  have : p.1 = q.1 := by omega
  have : p.2 = q.2 := by omega
  exact Prod.ext ‹_› ‹_›
theorem insP_sorted {p : Int × Int} (hp : okP p = true) : ∀ {l : List (Int × Int)}, (∀ q ∈ l, okP q = true) → l.Pairwise (fun a b => cdP a < cdP b) → (insP p l).Pairwise fun a b => cdP a < cdP b
  | [], _, _ => by simp [insP]
  | q :: r, ho, h => by
    rw [List.pairwise_cons] at h
    unfold insP
    split
    · rename_i c
      refine List.pairwise_cons.mpr ⟨fun z hz => ?_, List.pairwise_cons.mpr h⟩
      rcases List.mem_cons.mp hz with rfl | hz
      · exact c
      · have := h.1 z hz; omega
    · rename_i c
      split
      · exact List.pairwise_cons.mpr h
      · rename_i e
        refine List.pairwise_cons.mpr ⟨fun z hz => ?_, insP_sorted hp (fun z hz => ho z (List.mem_cons_of_mem _ hz)) h.2⟩
        rcases insP_mem.mp hz with rfl | hz
        · have : cdP z ≠ cdP q := fun k => e (cdP_inj hp (ho q (List.mem_cons_self ..)) k)
          omega
        · exact h.1 z hz
theorem sortP_sorted : ∀ {ps : List (Int × Int)}, (∀ q ∈ ps, okP q = true) → (sortP ps).Pairwise fun a b => cdP a < cdP b
  | [], _ => List.Pairwise.nil
  | p :: ps, h => insP_sorted (h p (List.mem_cons_self ..)) (fun q hq => h q (List.mem_cons_of_mem _ (sortP_mem.mp hq))) (sortP_sorted fun q hq => h q (List.mem_cons_of_mem _ hq))
theorem sorted_uniq {α : Type} (f : α → Int) : ∀ (l1 l2 : List α), l1.Pairwise (fun a b => f a < f b) → l2.Pairwise (fun a b => f a < f b) → (∀ x, x ∈ l1 ↔ x ∈ l2) → l1 = l2
  | [], [], _, _, _ => rfl
  | [], y :: r2, _, _, h => absurd ((h y).mpr (List.mem_cons_self ..)) (by simp)
  | x :: r1, [], _, _, h => absurd ((h x).mp (List.mem_cons_self ..)) (by simp)
  | x :: r1, y :: r2, h1, h2, h => by
    rw [List.pairwise_cons] at h1 h2
    have e : x = y := by
      rcases List.mem_cons.mp ((h x).mp (List.mem_cons_self ..)) with e | e
      · exact e
      · rcases List.mem_cons.mp ((h y).mpr (List.mem_cons_self ..)) with e' | e'
        · exact e'.symm
        · have := h2.1 x e; have := h1.1 y e'; omega
    subst e
    congr 1
    refine sorted_uniq f r1 r2 h1.2 h2.2 fun z => ⟨fun hz => ?_, fun hz => ?_⟩
    · rcases List.mem_cons.mp ((h z).mp (List.mem_cons_of_mem _ hz)) with e | e
      · subst e; have := h1.1 z hz; omega
      · exact e
    · rcases List.mem_cons.mp ((h z).mpr (List.mem_cons_of_mem _ hz)) with e | e
      · subst e; have := h2.1 z hz; omega
      · exact e
def fSortSet (vs : List Val) (t : T) : R Val := match vs with
  | [.d (.tup ds)] => (match pairsI ds with
    | some ps => if ps.length < 64 then .ok (.d (.lst ((sortP ps).map pairD))) t else .stuck
    | none => .stuck)
  | _ => .stuck
theorem reps_pairs {K : PySem.W.Frag} {F : Hp} : ∀ {ps : List (Int × Int)} {xs : List V}, Reps K F xs (ps.map pairD) → ∃ ks : List (Addr × List Int), xs = (ks.map fun p => V.ref p.1) ∧ ks.map (·.2) = (ps.map fun p => [p.1, p.2]) ∧ ∀ k ∈ ks, ∃ p ∈ ps, k.2 = [p.1, p.2] ∧ SqT K F k.1 [V.int p.1, V.int p.2]
  | [], _, .nil => ⟨[], rfl, rfl, fun _ h => by cases h⟩
  | p :: ps, _, .cons h hs => by
    obtain ⟨ks, e1, e2, e3⟩ := reps_pairs hs
    cases h with
    | @tup a _ ys h hr =>
      cases hr with
      | cons r1 hr =>
        cases hr with
        | cons r2 hr =>
          cases hr
          cases r1
          cases r2
          refine ⟨(a, [p.1, p.2]) :: ks, by rw [e1]; rfl, by rw [List.map_cons, e2]; rfl, fun k hk => ?_⟩
          rcases List.mem_cons.mp hk with rfl | hk
          · exact ⟨p, List.mem_cons_self .., rfl, h⟩
          · obtain ⟨q, hq, z⟩ := e3 k hk
            exact ⟨q, List.mem_cons_of_mem _ hq, z⟩
theorem pairs_reps {K : PySem.W.Frag} {F : Hp} {ks : List (Addr × List Int)} {ps : List (Int × Int)} (h : ∀ k ∈ ks, ∃ p : Int × Int, k.2 = [p.1, p.2] ∧ SqT K F k.1 [V.int p.1, V.int p.2]) (e : ks.map (·.2) = ps.map fun p => [p.1, p.2]) : Reps K F (ks.map fun p => V.ref p.1) (ps.map pairD) := by
  induction ks generalizing ps with
  | nil =>
    cases ps with
    | nil => exact .nil
    | cons p ps => cases e
  | cons k ks ih =>
    cases ps with
    | nil => cases e
    | cons p ps =>
      rw [List.map_cons, List.map_cons, List.cons.injEq] at e
      obtain ⟨q, h1, h2⟩ := h k (List.mem_cons_self ..)
      rw [h1] at e
      have e1 := e.1
      simp only [List.cons.injEq, and_true] at e1
      rw [e1.1, e1.2] at h2
      exact .cons (.tup h2 (.cons (.int _) (.cons (.int _) .nil))) (ih (fun k hk => h k (List.mem_cons_of_mem _ hk)) e.2)
def tSet1 (K : PySem.W.Frag) (P : Program) (w : World) (t : TA) : TE := tCB (rSetTup K P w) t
theorem je_sortSet {X : Cx} {W : WX} {a : Expr} {m : ME (List Val)} {p p2 q pos : Pos} (hc : X.calm = true) (hu : X.A.units + 65 < cLine) (hm : X.mg "sorted" = none) (hm2 : X.mg "set" = none) (ha : JA X W [a] m)
    (hg : Gl X "sorted" := by rfl) (hg2 : Gl X "set" := by rfl)
    (he : starEach [Expr.Call (.Name "set" p2) [a] [] q] X.env = (false, eval (Expr.Call (.Name "set" p2) [a] [] q) X.env) :: starEach [] X.env := by rfl)
    (he2 : starEach [a] X.env = (false, eval a X.env) :: starEach [] X.env := by rfl) : JE X W (.Call (.Name "sorted" p) [.Call (.Name "set" p2) [a] [] q] [] pos) (mL fSortSet m) := by
  have h1 : PE X (.Call (.Name "set" p2) [a] [] q) (tCB (rSetTup X.K X.prog X.w) (tMA X.K W m)) := pe_callTy (cr_setTup hc hu) hg2 hm2 (by decide +kernel) ha (by decide) (by decide) he2 rfl
  have h2 : PE X (.Call (.Name "sorted" p) [.Call (.Name "set" p2) [a] [] q] [] pos) (tCB (rSortedT X.K X.prog X.w) (tCons (tCB (rSetTup X.K X.prog X.w) (tMA X.K W m)) tNil)) := pe_callB (cr_sortedT hc) hg hm (by decide +kernel) (pa_cons h1 pa_nil he) (by decide) (by decide) he rfl
  refine PE.imp h2 fun σ H Q ⟨w, ρ, t, rt, rr, pp⟩ => ?_
  refine ⟨w, ρ, t, rt, rr, PostE.imp (PostE.bind pp) fun w1 H1 v t1 e1 s1 r1 q1 xs rx => ?_⟩
  have p1 := q1 t1 e1 r1
  unfold fSortSet at p1
  split at p1
  · rename_i ds
    split at p1
    · rename_i ps eps
      split at p1
      · rename_i hlen
        obtain ⟨hds, hok⟩ := pairsI_some eps
        subst hds
        obtain ⟨x, rfl, rx1⟩ := rx.one
        cases rx1 with
        | @tup l _ ys h hs =>
          obtain ⟨ks, rfl, eks, hks⟩ := reps_pairs hs
          have hint : ∀ k ∈ ks, SqT X.K H1 k.1 (k.2.map V.int) := fun k hk => by
            obtain ⟨p, _, e, hq⟩ := hks k hk
            rw [e]
            exact Fz.ex.sqT hq
          have hkl : ks.length = ps.length := by
            have := congrArg List.length eks
            simpa using this
          refine ⟨l, ks, rfl, Fz.ex.sqT h, hint, by omega, fun a L hna hsub hall => ?_⟩
          have r2 := r1.new (o := SetTO X.prog X.w a L) hna
          have s2 := step_new r1 (o := SetTO X.prog X.w a L) hna
          show rSortedT X.K X.prog X.w [V.ref a] (upd H1 a (SetTO X.prog X.w a L)) Q
          refine ⟨a, L, 2, 64, rfl, by simp [upd], fun k hk => ?_, by decide, fun k hk => ?_, fun L' b hpm hnd hl64 hpw hnb => ?_⟩
          · obtain ⟨p, _, e, hq⟩ := hks k (hsub k hk)
            rw [e]
            exact Fz.ex.sqT (s2.fz.sqT hq)
          · obtain ⟨p, hp, e, hq⟩ := hks k (hsub k hk)
            obtain ⟨a1, a2, a3, a4⟩ := okP_iff (hok p hp)
            rw [e]
            refine ⟨rfl, fun z hz => ?_⟩
            simp only [List.mem_cons, List.mem_nil_iff, or_false] at hz
            rcases hz with rfl | rfl
            · exact ⟨a1, a2⟩
            · exact ⟨a3, a4⟩
          · have hL' : ∀ k ∈ L', ∃ p ∈ ps, k.2 = [p.1, p.2] ∧ SqT X.K (Fz w1 H1) k.1 [V.int p.1, V.int p.2] := fun k hk => hks k (hsub k (hpm.mem_iff.mp hk))
            have hto : L'.map (·.2) = (L'.map fun k => ((k.2.getD 0 0, k.2.getD 1 0) : Int × Int)).map fun p => [p.1, p.2] := by
              rw [List.map_map]
              refine List.map_congr_left fun k hk => ?_
              obtain ⟨p, _, e, _⟩ := hL' k hk
              simp [e]
            have hun : (L'.map fun k => ((k.2.getD 0 0, k.2.getD 1 0) : Int × Int)) = sortP ps := by
              refine sorted_uniq cdP _ _ ?_ (sortP_sorted hok) fun x => ?_
              · rw [List.pairwise_map]
                have hnd' : L'.Pairwise fun a b => a.2 ≠ b.2 := by
                  have := hnd
                  unfold List.Nodup at this
                  rw [List.pairwise_map] at this
                  exact this
                refine List.Pairwise.imp_of_mem (fun {k k'} hk hk' z => ?_) (hpw.and hnd')
                obtain ⟨p, hp, e, _⟩ := hL' k hk
                obtain ⟨p', hp', e', _⟩ := hL' k' hk'
                have z1 := z.1
                have z2 := z.2
                rw [e, e', code_pair, code_pair] at z1
                rw [e, e'] at z2
                have hne : p ≠ p' := fun y => z2 (by rw [y])
                have : cdP p ≠ cdP p' := fun y => hne (cdP_inj (hok p hp) (hok p' hp') y)
                unfold cdP at this ⊢
                rw [e, e']
                show p.1 * 64 + p.2 < p'.1 * 64 + p'.2
                omega
              · rw [sortP_mem]
                constructor
                · intro hx
                  obtain ⟨k, hk, rfl⟩ := List.mem_map.mp hx
                  obtain ⟨p, hp, e, _⟩ := hL' k hk
                  rw [e]
                  exact hp
                · intro hx
                  have : [x.1, x.2] ∈ ks.map (·.2) := by rw [eks]; exact List.mem_map.mpr ⟨x, hx, rfl⟩
                  obtain ⟨k, hk, e⟩ := List.mem_map.mp this
                  obtain ⟨k', hk', e'⟩ := List.mem_map.mp (hall k hk)
                  refine List.mem_map.mpr ⟨k', hpm.mem_iff.mpr hk', ?_⟩
                  rw [e', e]
                  rfl
            rw [hun] at hto
            have hre : Reps X.K (Fz w1 H1) (L'.map fun p => V.ref p.1) ((sortP ps).map pairD) := pairs_reps (fun k hk => by
              obtain ⟨p, _, e, hq⟩ := hL' k hk
              exact ⟨p, e, hq⟩) hto
            have s3 := step_new r2 (o := .lst (L'.map fun q => V.ref q.1)) hnb
            exact p1 w1 _ (s2.trans s3) (r2.new hnb) _ (Rep.lst (Fz.new r2 hnb) (hre.mono (s2.trans s3).fz))
      · exact p1.elim
    · exact p1.elim
  · exact p1.elim
end En
set_option Elab.async false
set_option linter.all false
set_option maxRecDepth 100000
set_option maxHeartbeats 4000000
namespace K90
open PySem PySem.Spec PyProof.Rows L2 En
def d_LAND : D := (.str ".")
def d_WATER : D := (.str "~")
def d_LETTERS : D := (.str "ABCDEFGHIJKLMNOPQRSTUVWXYZ")
def d_MAX_SIZE : D := (.int 12)
def d_MAX_FAR : D := (.int 22)
def d_PLAIN : D := (.str "plain")
def d_NEARNESS : D := (.str "near")
def d_FOUND : D := (.str "found")
def d_EMPTY : D := (.str "empty")
def d_NORTH : D := (.str "north")
def d_SOUTH : D := (.str "south")
def d_LEVEL : D := (.str "level")
def d_FAR : D := (.str "far")
def d_MAX_DUG : D := (.int 9)
def t_WORDS : List (Str × D) := [("plain", (.tup [(.str "empty"), (.str "found")])), ("rows", (.tup [(.str "found"), (.str "level"), (.str "north"), (.str "south")])), ("near", (.tup [(.str "far"), (.str "found"), (.str "near")]))]
def m_Island____init__ : MS :=
  (sSeq (sIf (mOr (m1 asB (m2 fEq (mL fLenB (mCons (mVar 1) mNil)) (mC (.int 0)))) (m1 asB (m2 fEq (m2 fIx (mVar 1) (mC (.int 0))) (mC (.str "")))))
   sNever
   sNil)
   (sSeq (sFor (gT 2 (gsCons (gN 2) (gsCons (gN 3) gsNil))) (mL fEnum (mCons (mVar 1) mNil))
    (sSeq (sIf (m1 asB (m2 fEq (mVar 2) (mC d_MAX_SIZE)))
     sNever
     sNil)
     (sSeq (sFor (gT 2 (gsCons (gN 4) (gsCons (gN 5) gsNil))) (mL fEnum (mCons (mVar 3) mNil))
      (sIf (mOr (m1 asB (m2 fEq (mVar 4) (mL fMin2 (mCons (mC d_MAX_SIZE) (mCons (mL fLenB (mCons (m2 fIx (mVar 1) (mC (.int 0))) mNil)) mNil))))) (m1 asB (m2 fNotIn (mVar 5) (m2 fAdd (m2 fAdd (mC d_LAND) (mC d_WATER)) (mC d_LETTERS)))))
       sNever
       sNil))
      (sIf (m1 asB (m2 fLt (mL fLenB (mCons (mVar 3) mNil)) (mL fLenB (mCons (m2 fIx (mVar 1) (mC (.int 0))) mNil))))
       sNever
       sNil))))
    (sFldV ["Island"] "own_rows" (mVar 0) (mVar 1))))
def f_Island____init__ : List Val → T → R Val := runG 6 m_Island____init__
def r__law_alike (f : MF) : MS :=
  (sSeq (sIf (m1 asB (m1 (fIsi ["dict"]) (mVar 1)))
   (sRet (mAndV (m1 (fIsi ["dict"]) (mVar 0)) (mAndV (mL (fCall f) (mCons (mL fSorted (mCons (mVar 0) mNil)) (mCons (mL fSorted (mCons (mVar 1) mNil)) mNil))) (m2 fEq (mVar 0) (mVar 1)))))
   sNil)
   (sSeq (sIf (m1 asB (m1 (fIsi ["tuple", "list"]) (mVar 1)))
    (sSeq (sIf (mOr (mNot (m1 asB (m1 (fIsi ["tuple", "list"]) (mVar 0)))) (m1 asB (m2 fNe (m1 (fIsi ["list"]) (mVar 0)) (m1 (fIsi ["list"]) (mVar 1)))))
     (sRet (mC (.bl false)))
     sNil)
     (sSeq (sIf (m1 asB (m2 fNe (mL fLenB (mCons (mVar 0) mNil)) (mL fLenB (mCons (mVar 1) mNil))))
      (sRet (mC (.bl false)))
      sNil)
      (sRet (m2 fEq (mL fFz (mLc [2] (gN 2) (mL fRange1 (mCons (mL fLenB (mCons (mVar 1) mNil)) mNil)) (mNot (m1 asB (mL (fCall f) (mCons (m2 fIx (mVar 0) (mVar 2)) (mCons (m2 fIx (mVar 1) (mVar 2)) mNil))))) (mVar 2))) (mL fFz (mL fLen mNil))))))
    sNil)
    (sSeq (sIf (mOr (m1 asB (m2 fIsN (mVar 1) (mC .non))) (m1 asB (m1 (fIsi ["str"]) (mVar 1))))
     (sRet (mAndV (m2 fEq (mVar 0) (mVar 1)) (m2 fEq (m1 (fIsi ["str"]) (mVar 0)) (m1 (fIsi ["str"]) (mVar 1)))))
     sNil)
     (sRet (mAndV (m1 (fIsi ["int"]) (mVar 0)) (mAndV (m2 fEq (m1 (fIsi ["bool"]) (mVar 0)) (m1 (fIsi ["bool"]) (mVar 1))) (m2 fEq (mVar 0) (mVar 1))))))))
def f__law_alike : Nat → MF
  | 0 => fun _ _ => .stuck
  | n + 1 => runF 3 (r__law_alike (f__law_alike n))
def m__law_cells : MS :=
  (sSeq (sSet 1 (mL fFz (mL fLen mNil)))
   (sSeq (sFor (gN 2) (mL fRange1 (mCons (mL fLenB (mCons (mVar 0) mNil)) mNil))
    (sSet 1 (m2 fAdd (mVar 1) (mL fFz (mLc [3] (gN 3) (mL fRange1 (mCons (mL fLenB (mCons (m2 fIx (mVar 0) (mC (.int 0))) mNil)) mNil)) (m1 asB (m2 fNe (m2 fIx (m2 fIx (mVar 0) (mVar 2)) (mVar 3)) (mC (.str "~")))) (mL fTup (mCons (mVar 2) (mCons (mVar 3) mNil))))))))
    (sRet (mVar 1))))
def f__law_cells : MF := runF 4 m__law_cells
def m__law_hint : MS :=
  (sSeq (sIf (m1 asB (m2 fEq (mVar 1) (mVar 2)))
   (sRet (mC (.str "found")))
   sNil)
   (sSeq (sIf (m1 asB (m2 fEq (m2 fIx (mVar 0) (mC (.int 0))) (mC (.str "rows"))))
    (sRet (mIf (m1 asB (m2 fEq (m2 fIx (mVar 1) (mC (.int 0))) (m2 fIx (mVar 2) (mC (.int 0))))) (mC (.str "level")) (mIf (m1 asB (m2 fLt (m2 fIx (mVar 2) (mC (.int 0))) (m2 fIx (mVar 1) (mC (.int 0))))) (mC (.str "north")) (mC (.str "south")))))
    sNil)
    (sSeq (sIf (m1 asB (m2 fEq (m2 fIx (mVar 0) (mC (.int 0))) (mC (.str "near"))))
     (sSeq (sSet 3 (m2 fAdd (mL fAbs (mCons (m2 fSub (m2 fIx (mVar 1) (mC (.int 0))) (m2 fIx (mVar 2) (mC (.int 0)))) mNil)) (mL fAbs (mCons (m2 fSub (m2 fIx (mVar 1) (mC (.int 1))) (m2 fIx (mVar 2) (mC (.int 1)))) mNil))))
      (sRet (mIf (m1 asB (m2 fLe (mVar 3) (m2 fIx (mVar 0) (mC (.int 1))))) (mC (.str "near")) (mC (.str "far")))))
     sNil)
     (sRet (mC (.str "empty"))))))
def f__law_hint : MF := runF 4 m__law_hint
def m__law_split : MS :=
  (sSeq (sSet 3 mDNewK)
   (sSeq (sFor (gN 4) (m1 fIter (mVar 2))
    (sIf (m1 asB (m2 fNe (mVar 4) (mVar 1)))
     (sSeq (sSet 5 (mL (fCall f__law_hint) (mCons (mVar 0) (mCons (mVar 1) (mCons (mVar 4) mNil)))))
      (sDPut (mVar 3) (mVar 5) (m2 fAdd (mDGet2 (mVar 3) (mVar 5) (mL fTup mNil)) (mL fTup (mCons (mVar 4) mNil)))))
     sNil))
    (sFzD 3 (sRet (mVar 3)))))
def f__law_split : MF := runF 6 m__law_split
def r__law_least (f : MG) : MS :=
  (sSeq (sIf (m1 asB (m2 fEq (mVar 2) (mL fTup mNil)))
   (sRet (mC (.int 0)))
   sNil)
   (sSeq (sIf (m1 asB (m2 fDNotIn (mVar 2) (mVar 3)))
    (sSeq (sSet 4 (mC (.int 99)))
     (sSeq (sFor (gN 5) (m1 fIter (mVar 1))
      (sSeq (sSet 6 (mL (fCall f__law_split) (mCons (mVar 0) (mCons (mVar 5) (mCons (mVar 2) mNil)))))
       (sIf (m1 asB (m2 fNotIn (mVar 2) (mL fFz (m1 fDVals (mVar 6)))))
        (sSet 4 (mL fMin2 (mCons (mVar 4) (mCons (m2 fAdd (mC (.int 1)) (mL fMax1 (mCons (m2 fAdd (mL fFz (mL fLen (mCons (mC (.int 0)) mNil))) (mL fFz (mLc [7] (gN 7) (m1 fDKeysI (mVar 6)) mYes (mL f (mCons (mVar 0) (mCons (mVar 1) (mCons (m2 fDGet (mVar 6) (mVar 7)) (mCons (mVar 3) mNil)))))))) mNil))) mNil))))
        sNil)))
      (sDPut (mVar 3) (mVar 2) (mVar 4))))
    sNil)
    (sRet (m2 fDGet (mVar 3) (mVar 2)))))
def f__law_least : Nat → MG
  | 0 => fun _ _ => .stuck
  | n + 1 => runG 8 (r__law_least (f__law_least n))
def m__law_mix : MS :=
  (sSeq (sSet 2 (mVar 1))
   (sSeq (sFor (gN 3) (m1 fIter (mVar 0))
    (sSet 2 (m2 fMod (mL fIntB (mCons (m2 fAdd (m2 fAdd (m2 fMul (mVar 2) (mC (.int 48271))) (m2 fMod (mL fIntB (mCons (mVar 3) mNil)) (mC (.int 2147483629)))) (mC (.int 1))) mNil)) (mC (.int 2147483647)))))
    (sRet (mL fNew (mL fLen (mCons (mVar 2) (mCons (mL fNew (mL fListL (mCons (mVar 0) mNil))) (mCons (mC (.int 0)) mNil))))))))
def f__law_mix : List Val → T → R Val := runG 4 m__law_mix
def m__law_next : MS :=
  (sSeq (sSet 2 (m2 fIx (m2 fAdd (m2 fIx (mVar 0) (mC (.int 1))) (mL fFz (mL fLen (mCons (mC (.int 0)) mNil)))) (m2 fMod (mL fIntB (mCons (m2 fIx (mVar 0) (mC (.int 2))) mNil)) (mL fMax2 (mCons (mC (.int 1)) (mCons (mL fLenB (mCons (m2 fIx (mVar 0) (mC (.int 1))) mNil)) mNil))))))
   (sSeq (sIf (m1 asB (m2 fGe (mVar 2) (m2 fPow (mC (.int 10)) (mC (.int 18)))))
    (sSeq (sSub (m2 fIx (mVar 0) (mC (.int 1))) (m2 fMod (mL fIntB (mCons (m2 fIx (mVar 0) (mC (.int 2))) mNil)) (mL fLenB (mCons (m2 fIx (mVar 0) (mC (.int 1))) mNil))) (m2 fDiv (mVar 2) (mVar 1)))
     (sRet (m2 fMod (mL fIntB (mCons (mVar 2) mNil)) (mVar 1))))
    sNil)
    (sSeq (sSub (mVar 0) (mC (.int 0)) (m2 fMod (mL fIntB (mCons (m2 fAdd (m2 fAdd (m2 fMul (m2 fIx (mVar 0) (mC (.int 0))) (mC (.int 48271))) (m2 fMul (mVar 2) (mC (.int 69621)))) (mC (.int 11))) mNil)) (mC (.int 2147483647))))
     (sSeq (sSub (mVar 0) (mC (.int 2)) (m2 fAdd (m2 fIx (mVar 0) (mC (.int 2))) (mC (.int 1))))
      (sRet (m2 fMod (mL fIntB (mCons (m2 fDiv (m2 fIx (mVar 0) (mC (.int 0))) (mC (.int 7))) mNil)) (mVar 1)))))))
def f__law_next : List Val → T → R Val := runG 3 m__law_next
def m__law_some : MS :=
  (sSeq (sPar 3 4 (mCons (mL fNew (mL fListL (mCons (mVar 1) mNil))) (mCons (mL fNew (mL fLen mNil)) mNil)))
   (sSeq (sFor (gN 5) (mL fRange1 (mCons (mL (fDraw drNext) (mCons (mVar 0) (mCons (m2 fAdd (mVar 2) (mC (.int 1))) mNil))) mNil))
    (sIf (m1 asB (m2 fNe (mVar 3) (mL fFz (mL fLen mNil))))
     (sDrop (mMeth isLstB fAppend (mVar 4) (mCons (mMeth isLstB fPopAt (mVar 3) (mCons (mL (fDraw drNext) (mCons (mVar 0) (mCons (mL fLenB (mCons (mVar 3) mNil)) mNil))) mNil)) mNil)))
     sNil))
    (sFz 4 (sRet (mL fTuple (mCons (mL fSorted (mCons (mVar 4) mNil)) mNil))))))
def f__law_some : MF := runF 6 m__law_some
def m_Island__cells : MS :=
  (sSeq (sSet 1 (mL fNew (mL fLen mNil)))
   (sSeq (sFor (gT 2 (gsCons (gN 2) (gsCons (gN 3) gsNil))) (mL fEnum (mCons (m1 (fFld ["Island"] "own_rows") (mVar 0)) mNil))
    (sDrop (mMeth isLstB fExtend (mVar 1) (mCons (mL fFz (mLc [4, 5] (gT 2 (gsCons (gN 4) (gsCons (gN 5) gsNil))) (mL fEnum (mCons (mVar 3) mNil)) (m1 asB (m2 fNe (mVar 5) (mC d_WATER))) (mL fTup (mCons (mVar 2) (mCons (mVar 4) mNil))))) mNil))))
    (sFz 1 (sRet (mVar 1)))))
def f_Island__cells : MF := runF 6 m_Island__cells
def m_Digger____init__ : MS :=
  (sSeq (sFldV ["Digger"] "cells_to_dig" (mVar 0) (m1 (fProp "Island" f_Island__cells) (mVar 1)))
   (sSeq (sFldV ["Digger"] "rule" (mVar 0) (mVar 2))
    (sFldV ["Digger"] "known" (mVar 0) (mDisp1 (mL fTup mNil) (mC (.int 0))))))
def f_Digger____init__ : List Val → T → R Val := runG 3 m_Digger____init__
def m_told_of : MS :=
  (sSeq (sIf (m1 asB (m2 fEq (mVar 1) (mVar 2)))
   (sRet (mC d_FOUND))
   sNil)
   (sSeq (sIf (m1 asB (m2 fEq (m2 fIx (mVar 0) (mC (.int 0))) (mC d_PLAIN)))
    (sRet (mC d_EMPTY))
    sNil)
    (sSeq (sIf (m1 asB (m2 fEq (m2 fIx (mVar 0) (mC (.int 0))) (mC d_NEARNESS)))
     (sRet (mIf (m1 asB (m2 fLe (m2 fAdd (mL fAbs (mCons (m2 fSub (m2 fIx (mVar 1) (mC (.int 0))) (m2 fIx (mVar 2) (mC (.int 0)))) mNil)) (mL fAbs (mCons (m2 fSub (m2 fIx (mVar 1) (mC (.int 1))) (m2 fIx (mVar 2) (mC (.int 1)))) mNil))) (m2 fIx (mVar 0) (mC (.int 1))))) (mC d_NEARNESS) (mC d_FAR)))
     sNil)
     (sSeq (sIf (m1 asB (m2 fEq (m2 fIx (mVar 1) (mC (.int 0))) (m2 fIx (mVar 2) (mC (.int 0)))))
      (sRet (mC d_LEVEL))
      sNil)
      (sRet (mIf (m1 asB (m2 fLt (m2 fIx (mVar 2) (mC (.int 0))) (m2 fIx (mVar 1) (mC (.int 0))))) (mC d_NORTH) (mC d_SOUTH)))))))
def f_told_of : MF := runF 3 m_told_of
def m_parted : MS :=
  (sSeq (sSet 3 mDNewK)
   (sSeq (sFor (gN 4) (m1 fIter (mVar 0))
    (sSeq (sSet 5 (mL (fCall f_told_of) (mCons (mVar 1) (mCons (mVar 2) (mCons (mVar 4) mNil)))))
     (sIf (m1 asB (m2 fNe (mVar 5) (mC d_FOUND)))
      (sDPut (mVar 3) (mVar 5) (m2 fAdd (mDGet2 (mVar 3) (mVar 5) (mL fTup mNil)) (mL fTup (mCons (mVar 4) mNil))))
      sNil)))
    (sFzD 3 (sRet (mVar 3)))))
def f_parted : MF := runF 6 m_parted
def r_Digger__fewest (f : MG) : MS :=
  (sSeq (sIf (m1 asB (m2 fDNotIn (mVar 1) (m1 (fFld ["Digger"] "known") (mVar 0))))
   (sSeq (sDPut (m1 (fFld ["Digger"] "known") (mVar 0)) (mVar 1) (mL fLenB (mCons (mVar 1) mNil)))
    (sFor (gN 2) (m1 fIter (m1 (fFld ["Digger"] "cells_to_dig") (mVar 0)))
     (sSeq (sSet 3 (mL fFz (m1 fDVals (mL (fCall f_parted) (mCons (mVar 1) (mCons (m1 (fFld ["Digger"] "rule") (mVar 0)) (mCons (mVar 2) mNil)))))))
      (sIf (m1 asB (m2 fNotIn (mVar 1) (mVar 3)))
       (sSeq (sSet 4 (mL fMax1 (mCons (m2 fAdd (mL fFz (mL fLen (mCons (mC (.int 0)) mNil))) (mL fFz (mLc [5] (gN 5) (m1 fIter (mVar 3)) mYes (mMethG "Digger" "fewest" f (mVar 0) (mCons (mVar 5) mNil))))) mNil)))
        (sDPut (m1 (fFld ["Digger"] "known") (mVar 0)) (mVar 1) (mL fMin2 (mCons (m2 fDGet (m1 (fFld ["Digger"] "known") (mVar 0)) (mVar 1)) (mCons (m2 fAdd (mC (.int 1)) (mVar 4)) mNil)))))
       sNil))))
   sNil)
   (sRet (m2 fDGet (m1 (fFld ["Digger"] "known") (mVar 0)) (mVar 1))))
def f_Digger__fewest : Nat → MG
  | 0 => fun _ _ => .stuck
  | n + 1 => runG 6 (r_Digger__fewest (f_Digger__fewest n))
def m_Island____contains__ : MS :=
  (sSeq (sAsg (gT 2 (gsCons (gN 2) (gsCons (gN 3) gsNil))) (mVar 1))
   (sSeq (sIf (mOr (mNot (m1 asB (m3c fLe fLt (mC (.int 0)) (mVar 2) (mL fLenB (mCons (m1 (fFld ["Island"] "own_rows") (mVar 0)) mNil))))) (mNot (m1 asB (m3c fLe fLt (mC (.int 0)) (mVar 3) (mL fLenB (mCons (m2 fIx (m1 (fFld ["Island"] "own_rows") (mVar 0)) (mC (.int 0))) mNil))))))
    (sRet (mC (.bl false)))
    sNil)
    (sRet (m2 fNe (m2 fIx (m2 fIx (m1 (fFld ["Island"] "own_rows") (mVar 0)) (mVar 2)) (mVar 3)) (mC d_WATER)))))
def f_Island____contains__ : MF := runF 4 m_Island____contains__
def m_validate_cell : MS :=
  (sIf (m1 asB (m2 (fInO "Island" f_Island____contains__ true) (mVar 1) (mVar 0)))
   sNever
   sNil)
def f_validate_cell : MF := runF 2 m_validate_cell
def m_is_number : MS :=
  (sRet (mAndV (m1 (fIsi ["int"]) (mVar 0)) (mAndV (mNotV (m1 (fIsi ["bool"]) (mVar 0))) (m3c fLe fLe (mVar 1) (mVar 0) (mVar 2)))))
def f_is_number : MF := runF 3 m_is_number
def m_validate_rule : MS :=
  (sIf (mAnd (m1 asB (m2 fEq (m2 fIx (mVar 0) (mC (.int 0))) (mC d_NEARNESS))) (mNot (m1 asB (mL (fCall f_is_number) (mCons (m2 fIx (mVar 0) (mC (.int 1))) (mCons (mC (.int 1)) (mCons (mC d_MAX_FAR) mNil)))))))
   sNever
   sNil)
def f_validate_rule : MF := runF 1 m_validate_rule
def m_validate_places : MS :=
  (sSeq (sFor (gN 3) (m1 fIter (mVar 1))
   (sDrop (mL (fCall f_validate_cell) (mCons (mVar 0) (mCons (mVar 3) mNil)))))
   (sDrop (mL (fCall f_validate_rule) (mCons (mVar 2) mNil))))
def f_validate_places : MF := runF 4 m_validate_places
def m_fewest_digs : MS :=
  (sSeq (sDrop (mL (fCall f_validate_places) (mCons (mVar 0) (mCons (mVar 1) (mCons (mVar 2) mNil)))))
   (sSeq (sIf (m1 asB (m2 fGt (mL fLenB (mCons (mVar 1) mNil)) (mC d_MAX_DUG)))
    sNever
    sNil)
    (sRet (mMethG "Digger" "fewest" (f_Digger__fewest 10) (mL (fMakeG "Digger" f_Digger____init__) (mCons (mVar 0) (mCons (mVar 2) mNil))) (mCons (mL fTuple (mCons (mVar 1) mNil)) mNil)))))
def f_fewest_digs : MF := runF 3 m_fewest_digs
def m_hint : MS :=
  (sSeq (sDrop (mL (fCall f_validate_rule) (mCons (mVar 0) mNil)))
   (sRet (mL (fCall f_told_of) (mCons (mVar 0) (mCons (mVar 1) (mCons (mVar 2) mNil))))))
def f_hint : MF := runF 3 m_hint
def m_remaining : MS :=
  (sRet (mL fTuple (mCons (mL fFz (mLc [4] (gN 4) (m1 fIter (mVar 0)) (m1 asB (m2 fEq (mL (fCall f_told_of) (mCons (mVar 1) (mCons (mVar 2) (mCons (mVar 4) mNil)))) (mVar 3))) (mVar 4))) mNil)))
def f_remaining : MF := runF 5 m_remaining
def m_validate_digs : MS :=
  (sSeq (sFor (gT 2 (gsCons (gN 3) (gsCons (gN 4) gsNil))) (m1 fIter (mVar 2))
   (sDrop (mL (fCall f_validate_cell) (mCons (mVar 0) (mCons (mVar 3) mNil)))))
   (sFor (gT 2 (gsCons (gN 5) (gsCons (gT 2 (gsCons (gN 3) (gsCons (gN 4) gsNil))) gsNil))) (mL fEnum (mCons (mVar 2) mNil))
    (sIf (m1 asB (m2 fNotIn (mVar 4) (m1 (fTab t_WORDS) (m2 fIx (mVar 1) (mC (.int 0))))))
     sNever
     sNil)))
def f_validate_digs : MF := runF 6 m_validate_digs
def m_left_after : MS :=
  (sSeq (sDrop (mL (fCall f_validate_places) (mCons (mVar 0) (mCons (mVar 1) (mCons (mVar 2) mNil)))))
   (sSeq (sDrop (mL (fCall f_validate_digs) (mCons (mVar 0) (mCons (mVar 2) (mCons (mVar 3) mNil)))))
    (sSeq (sFor (gT 2 (gsCons (gN 4) (gsCons (gN 5) gsNil))) (m1 fIter (mVar 3))
     (sSet 1 (mL (fCall f_remaining) (mCons (mVar 1) (mCons (mVar 2) (mCons (mVar 4) (mCons (mVar 5) mNil)))))))
     (sRet (mL fFz (mL fListL (mCons (mVar 1) mNil)))))))
def f_left_after : MF := runF 6 m_left_after
def m_next_dig : MS :=
  (sSeq (sDrop (mL (fCall f_validate_places) (mCons (mVar 0) (mCons (mVar 1) (mCons (mVar 2) mNil)))))
   (sSeq (sAsgT (gsCons (gN 3) (gsCons (gN 4) gsNil)) 2 (mCons (mC .non) (mCons (mC .non) mNil)))
    (sSeq (sFor (gN 5) (m1 fIter (m1 (fProp "Island" f_Island__cells) (mVar 0)))
     (sSeq (sSet 6 (mL fMax1 (mCons (m2 fAdd (mL fFz (mL fLen (mCons (mC (.int 0)) mNil))) (mL fFz (mLc [7] (gN 7) (m1 fDValsI (mL (fCall f_parted) (mCons (mVar 1) (mCons (mVar 2) (mCons (mVar 5) mNil))))) mYes (mL fLenB (mCons (mVar 7) mNil))))) mNil)))
      (sIf (mOr (m1 asB (m2 fIsN (mVar 3) (mC .non))) (m1 asB (m2 fLt (mVar 6) (mVar 3))))
       (sPar 3 4 (mCons (mVar 6) (mCons (mVar 5) mNil)))
       sNil)))
     (sRet (mVar 4)))))
def f_next_dig : MF := runF 8 m_next_dig
def m_law : MS :=
  (sSeq (sSet 1 (mL (fBegun bg_law_mix) (mCons (mVar 0) (mCons (mC (.int 90)) mNil))))
   (sSeq (sSet 2 (mL fNew (mL fLen mNil)))
    (sSeq (sFor (gN 3) (mL fRange1 (mCons (mC (.int 12)) mNil))
     (sDrop (mMeth isLstB fAppend (mVar 2) (mCons (mMeth isStrB fJoin (mC (.str "")) (mCons (mL fFz (mLc [17] (gN 17) (mL fRange1 (mCons (mC (.int 12)) mNil)) mYes (m2 fIx (mL fFz (mL fLen (mCons (mC (.str ".")) (mCons (mC (.str ".")) (mCons (mC (.str ".")) (mCons (mC (.str "~")) (mCons (mC (.str "A")) (mCons (mC (.str "B")) mNil)))))))) (mL (fDraw drNext) (mCons (mVar 1) (mCons (mC (.int 6)) mNil)))))) mNil)) mNil))))
     (sSeq (sSub (mVar 2) (mC (.int 11)) (m2 fAdd (mC (.str ".")) (mSl (m2 fIx (mVar 2) (mC (.int 11))) (m1 asPart (mC (.int 1))) mNoPart)))
      (sFz 2 (sSeq (sPar 4 5 (mCons (mL (fMake "Island" f_Island____init__) (mCons (mL fTuple (mCons (mVar 2) mNil)) mNil)) (mCons (mL (fCall f__law_cells) (mCons (mVar 2) mNil)) mNil)))
       (sSeq (sSet 6 (mL (if false then fNew else fFz) (mLc [9] (gN 9) (m1 fIter (mVar 5)) (m1 asB (m2 fGt (m2 fIx (mVar 9) (mC (.int 0))) (m2 fAdd (mC (.int 7)) (mL (fDraw drNext) (mCons (mVar 1) (mCons (mC (.int 3)) mNil)))))) (mVar 9))))
        (sSeq (sFor (gN 7) (m1 fIter (mL fTup (mCons (mL fTup (mCons (mC (.str "plain")) mNil)) (mCons (mL fTup (mCons (mC (.str "rows")) mNil)) (mCons (mL fTup (mCons (mC (.str "near")) (mCons (m2 fAdd (mC (.int 1)) (mL (fDraw drNext) (mCons (mVar 1) (mCons (mC (.int 22)) mNil)))) mNil))) mNil)))))
         (sSeq (sFor (gN 8) (mL fRange1 (mCons (mC (.int 8)) mNil))
          (sSeq (sPar 9 10 (mCons (m2 fIx (mVar 5) (mL (fDraw drNext) (mCons (mVar 1) (mCons (mL fLenB (mCons (mVar 5) mNil)) mNil)))) (mCons (m2 fIx (mVar 5) (mL (fDraw drNext) (mCons (mVar 1) (mCons (mL fLenB (mCons (mVar 5) mNil)) mNil)))) mNil)))
           (sIf (mNot (m1 asB (mL (fCall (f__law_alike 6)) (mCons (mL (fCall f_hint) (mCons (mVar 7) (mCons (mVar 9) (mCons (mVar 10) mNil)))) (mCons (mL (fCall f__law_hint) (mCons (mVar 7) (mCons (mVar 9) (mCons (mVar 10) mNil)))) mNil)))))
            (sRet (mC (.bl false)))
            sNil)))
          (sSeq (sSet 11 (mL (fCall f__law_some) (mCons (mVar 1) (mCons (m2 fIx (mL fFz (mL fLen (mCons (mVar 6) (mCons (mVar 5) mNil)))) (mL (fDraw drNext) (mCons (mVar 1) (mCons (mC (.int 2)) mNil)))) (mCons (mC (.int 3)) mNil)))))
           (sSeq (sSet 12 (mL fNew (mL fLen mNil)))
            (sSeq (sFor (gN 9) (m1 fIter (mVar 5))
             (sSeq (sSet 13 (mL (fCall f__law_split) (mCons (mVar 7) (mCons (mVar 9) (mCons (mVar 11) mNil)))))
              (sDrop (mMeth isLstB fAppend (mVar 12) (mCons (mL fMax1 (mCons (m2 fAdd (mL fFz (mL fLen (mCons (mC (.int 0)) mNil))) (mL fFz (mLc [18] (gN 18) (m1 fDKeysI (mVar 13)) mYes (mL fLenB (mCons (m2 fDGet (mVar 13) (mVar 18)) mNil))))) mNil)) mNil)))))
             (sFz 12 (sSeq (sIf (mNot (m1 asB (mL (fCall (f__law_alike 6)) (mCons (mL (fCall f_next_dig) (mCons (mVar 4) (mCons (mVar 11) (mCons (mVar 7) mNil)))) (mCons (m2 fIx (mVar 5) (mMeth isLstB fIndexI (mVar 12) (mCons (mL fMin1 (mCons (mVar 12) mNil)) mNil))) mNil)))))
              (sRet (mC (.bl false)))
              sNil)
              (sSeq (sIf (mNot (m1 asB (mL (fCall (f__law_alike 6)) (mCons (mL (fCall f_fewest_digs) (mCons (mVar 4) (mCons (mVar 11) (mCons (mVar 7) mNil)))) (mCons (mL (f__law_least 10) (mCons (mVar 7) (mCons (mVar 5) (mCons (mVar 11) (mCons mDNewT mNil))))) mNil)))))
               (sRet (mC (.bl false)))
               sNil)
               (sSeq (sSet 10 (m2 fIx (mVar 5) (mL (fDraw drNext) (mCons (mVar 1) (mCons (mL fLenB (mCons (mVar 5) mNil)) mNil)))))
                (sSeq (sSet 14 (m2 fAdd (mL (fCall f__law_some) (mCons (mVar 1) (mCons (mVar 5) (mCons (mC (.int 20)) mNil)))) (mL fTup (mCons (mVar 10) mNil))))
                 (sSeq (sAsgT (gsCons (gN 14) (gsCons (gN 15) gsNil)) 2 (mCons (mL fTuple (mCons (mL fSortSet (mCons (mVar 14) mNil)) mNil)) (mCons (mL fNew (mL fLen mNil)) mNil)))
                  (sSeq (sFor (gN 8) (mL fRange1 (mCons (mC (.int 3)) mNil))
                   (sSeq (sSet 9 (m2 fIx (mVar 5) (mL (fDraw drNext) (mCons (mVar 1) (mCons (mL fLenB (mCons (mVar 5) mNil)) mNil)))))
                    (sDrop (mMeth isLstB fAppend (mVar 15) (mCons (mL fTup (mCons (mVar 9) (mCons (mL (fCall f__law_hint) (mCons (mVar 7) (mCons (mVar 9) (mCons (mVar 10) mNil)))) mNil))) mNil)))))
                   (sFz 15 (sSeq (sSet 16 (mL (if false then fNew else fFz) (mLc [19] (gN 19) (m1 fIter (mVar 14)) (m1 asB (m2 fEq (mL fFz (mLc [20] (gN 20) (m1 fIter (mVar 15)) (m1 asB (m2 fNe (mL (fCall f__law_hint) (mCons (mVar 7) (mCons (m2 fIx (mVar 20) (mC (.int 0))) (mCons (mVar 19) mNil)))) (m2 fIx (mVar 20) (mC (.int 1))))) (mVar 20))) (mL fFz (mL fLen mNil)))) (mVar 19))))
                    (sIf (mNot (m1 asB (mL (fCall (f__law_alike 6)) (mCons (mL (fCall f_left_after) (mCons (mVar 4) (mCons (mVar 14) (mCons (mVar 7) (mCons (mVar 15) mNil))))) (mCons (mVar 16) mNil)))))
                     (sRet (mC (.bl false)))
                     sNil)))))))))))))))
         (sRet (mC (.bl true)))))))))))
def f_law : MF := runF 21 m_law
end K90
set_option Elab.async false
set_option linter.all false
set_option maxRecDepth 100000
set_option maxHeartbeats 2000000
namespace En
open PySem PySem.Spec PyProof.Rows L2
theorem datas_map (ds : List D) : datas (ds.map Val.d) = some ds := by
  induction ds with
  | nil => rfl
  | cons d ds ih => simp only [List.map_cons, datas, ih]
theorem dints_eq (ns : List Int) : dints ns = (ns.map D.int).map Val.d := by simp [dints]
theorem dints_len (ns : List Int) : (dints ns).length = ns.length := by simp [dints]
theorem ixN_of {n : Nat} {i : Int} (h0 : 0 ≤ i) (h : i < n) : ixN n i = some i.toNat := by
  unfold ixN
  rw [if_pos h0, if_pos h]
theorem atI_of {α : Type} {xs : List α} {i : Int} (h0 : 0 ≤ i) (h : i < xs.length) : atI xs i = xs[i.toNat]? := by
  unfold atI
  rw [ixN_of h0 h]
  rfl
theorem mVar_eq {i : Nat} {v : Val} {ρ : Rho} {t : T} (h : ρ[i]? = some (some v)) : mVar i ρ t = .ok v t := by
  unfold mVar
  rw [h]
def m_next : MS :=
  (sSeq (sSet 2 (m2 fIx (m2 fAdd (m2 fIx (mVar 0) (mC (.int 1))) (mL fFz (mL fLen (mCons (mC (.int 0)) mNil)))) (m2 fMod (mL fIntB (mCons (m2 fIx (mVar 0) (mC (.int 2))) mNil)) (mL fMax2 (mCons (mC (.int 1)) (mCons (mL fLenB (mCons (m2 fIx (mVar 0) (mC (.int 1))) mNil)) mNil))))))
   (sSeq (sIf (m1 asB (m2 fGe (mVar 2) (m2 fPow (mC (.int 10)) (mC (.int 18)))))
    (sSeq (sSub (m2 fIx (mVar 0) (mC (.int 1))) (m2 fMod (mL fIntB (mCons (m2 fIx (mVar 0) (mC (.int 2))) mNil)) (mL fLenB (mCons (m2 fIx (mVar 0) (mC (.int 1))) mNil))) (m2 fDiv (mVar 2) (mVar 1)))
     (sRet (m2 fMod (mL fIntB (mCons (mVar 2) mNil)) (mVar 1))))
    sNil)
    (sSeq (sSub (mVar 0) (mC (.int 0)) (m2 fMod (mL fIntB (mCons (m2 fAdd (m2 fAdd (m2 fMul (m2 fIx (mVar 0) (mC (.int 0))) (mC (.int 48271))) (m2 fMul (mVar 2) (mC (.int 69621)))) (mC (.int 11))) mNil)) (mC (.int 2147483647))))
     (sSeq (sSub (mVar 0) (mC (.int 2)) (m2 fAdd (m2 fIx (mVar 0) (mC (.int 2))) (mC (.int 1))))
      (sRet (m2 fMod (mL fIntB (mCons (m2 fDiv (m2 fIx (mVar 0) (mC (.int 0))) (mC (.int 7))) mNil)) (mVar 1)))))))
theorem drCell_ix (b : Box) : (0 : Int) ≤ b.ix % max 1 (b.ns.length : Int) ∧ b.ix % max 1 (b.ns.length : Int) < ((b.ns ++ [0]).length : Nat) := by
  have h1 : (0 : Int) < max 1 (b.ns.length : Int) := by omega
  have h2 := Int.emod_nonneg b.ix (show max 1 (b.ns.length : Int) ≠ 0 by omega)
  have h3 := Int.emod_lt_of_pos b.ix h1
  refine ⟨h2, ?_⟩
  simp only [List.length_append, List.length_cons, List.length_nil]
  omega
theorem max2_eq (i j : Int) : (if j > i then j else i) = max i j := by
  simp only [Int.max_def]
  split <;> split <;> omega
theorem R.bind_ok {α β : Type} (a : α) (t : T) (f : α → T → R β) : (R.ok a t).bind f = f a t := rfl
theorem R.toS_ok {α : Type} (a : α) (t : T) (ρ : Rho) (f : α → T → RS) : (R.ok a t).toS ρ f = f a t := rfl
def BT (b : Box) : T := ⟨[.lst (dints b.ns), .lst [.d (.int b.st), .loc 0, .d (.int b.ix)]], box0⟩
theorem boxCells_f {b : Box} (hv : b.v = false) : (⟨boxCells b, box0⟩ : T) = BT b := by
  unfold boxCells BT
  rw [hv] <;> rfl
section
variable {b : Box} {n : Int}
theorem bt_ix0 : fIx (.loc 1) (.d (.int 0)) (BT b) = .ok (.d (.int b.st)) (BT b) := rfl
theorem bt_ix1 : fIx (.loc 1) (.d (.int 1)) (BT b) = .ok (.loc 0) (BT b) := rfl
theorem bt_ix2 : fIx (.loc 1) (.d (.int 2)) (BT b) = .ok (.d (.int b.ix)) (BT b) := rfl
theorem bt_len : fLenB [.loc 0] (BT b) = .ok (.d (.int (b.ns.length : Int))) (BT b) := by
  show retI ((dints b.ns).length : Nat) _ = _
  rw [dints_len] <;> rfl
theorem bt_add (hl : b.ns.length ≤ 1000) : fAdd (.loc 0) (.d (.lst [.int 0])) (BT b) = .ok (.d (.lst ((b.ns ++ [0]).map D.int))) (BT b) := by
  show (if (dints b.ns).length + 1 ≤ lim then _ else _) = _
  rw [dints_len, if_pos (by show b.ns.length + 1 ≤ 100000; omega)]
  have e1 : dints b.ns ++ [Val.d (.int 0)] = ((b.ns ++ [0]).map D.int).map Val.d := by simp [dints]
  show (match datas (dints b.ns ++ [Val.d (.int 0)]) with | some ds => _ | none => _) = _
  rw [e1, datas_map]
theorem max2_ok {i j : Int} {t : T} : fMax2 [.d (.int i), .d (.int j)] t = .ok (.d (.int (max i j))) t := by
  show retI _ _ = _
  rw [max2_eq] <;> rfl
theorem mod_ok {i j : Int} {t : T} (h : 0 < j) : fMod (.d (.int i)) (.d (.int j)) t = .ok (.d (.int (i % j))) t := by
  show (if decide ((0 : Int) < j) = true then _ else _) = _
  rw [if_pos (decide_eq_true h)] <;> rfl
theorem div_ok {i j : Int} {t : T} (h : 0 < j) (h2 : j < 1073741824) : fDiv (.d (.int i)) (.d (.int j)) t = .ok (.d (.int (i / j))) t := by
  show (if cDiv i j = true then _ else _) = _
  rw [if_pos (by unfold cDiv; simp [h, h2])] <;> rfl
theorem mul_ok {i j : Int} {t : T} (h : cMul i j = true) : fMul (.d (.int i)) (.d (.int j)) t = .ok (.d (.int (i * j))) t := by
  show (if cMul i j = true then _ else _) = _
  rw [if_pos h] <;> rfl
theorem add_ok {i j : Int} {t : T} : fAdd (.d (.int i)) (.d (.int j)) t = .ok (.d (.int (i + j))) t := rfl
theorem sub_ok {i j : Int} {t : T} : fSub (.d (.int i)) (.d (.int j)) t = .ok (.d (.int (i - j))) t := rfl
theorem int_ok' {i : Int} {t : T} : fIntB [.d (.int i)] t = .ok (.d (.int i)) t := rfl
theorem ge_ok {i j : Int} {t : T} : fGe (.d (.int i)) (.d (.int j)) t = .ok (.d (.bl (decide (j ≤ i)))) t := rfl
theorem pow_ok (t : T) : fPow (.d (.int 10)) (.d (.int 18)) t = .ok (.d (.int (10 ^ 18))) t := by
  have h : cPow 10 18 = true := by decide
  unfold fPow fInt2
  simp only [h, if_true]
  rfl
theorem fLen_ok {vs : List Val} {t : T} (h : vs.length ≤ lim) : fLen vs t = .ok vs t := if_pos h
theorem fz0_ok (t : T) : fFz [.d (.int 0)] t = .ok (.d (.lst [.int 0])) t := rfl
theorem len1_ok (v : Val) (t : T) : fLen [v] t = .ok [v] t := rfl
theorem ixl_ok {ds : List D} {i : Int} {t : T} (h0 : 0 ≤ i) (h : i < ds.length) : fIx (.d (.lst ds)) (.d (.int i)) t = .ok (.d (ds.getD i.toNat .non)) t := by
  show (match atI (ds.map Val.d) i with | some v => _ | none => _) = _
  rw [atI_of h0 (by simpa using h)]
  have h3 : i.toNat < ds.length := by omega
  rw [List.getElem?_map, List.getD_eq_getElem?_getD, List.getElem?_eq_getElem h3]
  rfl
theorem ixt_ok {ds : List D} {i : Int} {t : T} (h0 : 0 ≤ i) (h : i < ds.length) : fIx (.d (.tup ds)) (.d (.int i)) t = .ok (.d (ds.getD i.toNat .non)) t := by
  show (match atI (ds.map Val.d) i with | some v => _ | none => _) = _
  rw [atI_of h0 (by simpa using h)]
  have h3 : i.toNat < ds.length := by omega
  rw [List.getElem?_map, List.getD_eq_getElem?_getD, List.getElem?_eq_getElem h3]
  rfl
theorem bt_cell : fIx (.d (.lst ((b.ns ++ [0]).map D.int))) (.d (.int (b.ix % max 1 (b.ns.length : Int)))) (BT b) = .ok (.d (.int (drCell b))) (BT b) := by
  obtain ⟨h1, h2⟩ := drCell_ix b
  rw [ixl_ok h1 (by simpa using h2)]
  have h3 : (b.ix % max 1 (b.ns.length : Int)).toNat < (b.ns ++ [0]).length := by omega
  rw [List.getD_eq_getElem?_getD, List.getElem?_map]
  unfold drCell
  rw [List.getD_eq_getElem?_getD, List.getElem?_eq_getElem h3]
  rfl
theorem bt_st0 : (BT b).st[0]? = some (.lst (dints b.ns)) := rfl
theorem bt_st1 : (BT b).st[1]? = some (.lst [.d (.int b.st), .loc 0, .d (.int b.ix)]) := rfl
theorem bt_put0 {k : Nat} {v : Int} : putL 0 ((dints b.ns).set k (.d (.int v))) (BT b) = BT { b with ns := b.ns.set k v } := by
  unfold putL BT
  have e : (dints b.ns).set k (.d (.int v)) = dints (b.ns.set k v) := by simp [dints, List.map_set]
  rw [e] <;> rfl
theorem bt_put1 {s i : Int} : putL 1 [.d (.int s), .loc 0, .d (.int i)] (BT b) = BT { b with st := s, ix := i } := rfl
theorem ixN_30 : ixN 3 0 = some 0 := rfl
theorem ixN_32 : ixN 3 2 = some 2 := rfl
theorem asB_ok (k : Bool) (t : T) : asB (.d (.bl k)) t = .ok k t := rfl
end
theorem drNextOk0 : DrawOk drNext (runG 3 m_next) := by
  intro b n hv hn hl
  have hv' : b.v = false := hv
  have hb : BT b = ⟨boxCells b, box0⟩ := (boxCells_f hv').symm
  unfold okN at hn
  simp only [Bool.and_eq_true, decide_eq_true_eq] at hn
  obtain ⟨hn0, hn1⟩ := hn
  have hmax : (0 : Int) < max 1 (b.ns.length : Int) := by omega
  have c1 : cMul b.st 48271 = true := by simp [cMul]
  have c2 : cMul (drCell b) 69621 = true := by simp [cMul]
  by_cases hc : (10 : Int) ^ 18 ≤ drCell b
  · have hg : drNext.go b n = (drCell b % n, { b with ns := b.ns.set (b.ix % (b.ns.length : Int)).toNat (drCell b / n) }) := by
      show (if _ then _ else _) = _
      rw [if_pos hc]
    rw [hg]
    have hlen : 0 < b.ns.length := by
      rcases Nat.eq_zero_or_pos b.ns.length with z | z
      · exfalso
        have e : b.ns = [] := List.eq_nil_of_length_eq_zero z
        have : drCell b = 0 := by
          unfold drCell
          rw [e]
          have z1 : b.ix % max 1 ((([] : List Int).length : Nat) : Int) = 0 := by
            show b.ix % 1 = 0
            exact Int.emod_one _
          rw [z1]
          rfl
        rw [this] at hc
        exact absurd hc (by decide)
      · exact z
    have hlen' : (0 : Int) < (b.ns.length : Int) := by omega
    refine ⟨?_, rfl, rfl⟩
    have hb2 : (⟨boxCells { b with ns := b.ns.set (b.ix % (b.ns.length : Int)).toNat (drCell b / n) }, box0⟩ : T) = BT { b with ns := b.ns.set (b.ix % (b.ns.length : Int)).toNat (drCell b / n) } := boxCells_f hv'
    rw [hb2, ← hb]
    have hx := Int.emod_nonneg b.ix (show (b.ns.length : Int) ≠ 0 by omega)
    have hy := Int.emod_lt_of_pos b.ix hlen'
    unfold runG m_next
    simp only [List.map_cons, List.map_nil, List.length_cons, List.length_nil, List.replicate, List.cons_append, List.nil_append, sSeq, sSet, sIf, sSub, sRet, sNil, m2, m1, mL, mCons, mNil, mC, mVar, List.getElem?_cons_zero, List.getElem?_cons_succ, R.bind_ok, R.toS_ok, bt_ix0, bt_ix1, bt_ix2, bt_len, len1_ok, fz0_ok, int_ok', max2_ok, mod_ok hmax, mod_ok hlen', mod_ok hn0, div_ok hn0 hn1, bt_add hl, bt_cell, List.set_cons_succ, List.set_cons_zero, pow_ok, ge_ok, asB_ok, decide_eq_true hc, if_true]
    simp only [bt_st0, dints_len, ixN_of hx hy, bt_put0, List.getElem?_cons_zero, List.getElem?_cons_succ, R.bind_ok, R.toS_ok, int_ok', mod_ok hn0]
  · have hg : drNext.go b n = (((b.st * 48271 + drCell b * 69621 + 11) % 2147483647) / 7 % n, { b with st := (b.st * 48271 + drCell b * 69621 + 11) % 2147483647, ix := b.ix + 1 }) := by
      show (if _ then _ else _) = _
      rw [if_neg hc]
    rw [hg]
    refine ⟨?_, rfl, rfl⟩
    have hb2 : (⟨boxCells { b with st := (b.st * 48271 + drCell b * 69621 + 11) % 2147483647, ix := b.ix + 1 }, box0⟩ : T) = BT { b with st := (b.st * 48271 + drCell b * 69621 + 11) % 2147483647, ix := b.ix + 1 } := boxCells_f hv'
    rw [hb2, ← hb]
    have hk : (0 : Int) < 2147483647 := by decide
    have h7 : (0 : Int) < 7 := by decide
    have h71 : (7 : Int) < 1073741824 := by decide
    unfold runG m_next
    simp only [List.map_cons, List.map_nil, List.length_cons, List.length_nil, List.replicate, List.cons_append, List.nil_append, sSeq, sSet, sIf, sSub, sRet, sNil, m2, m1, mL, mCons, mNil, mC, mVar, List.getElem?_cons_zero, List.getElem?_cons_succ, R.bind_ok, R.toS_ok, bt_ix0, bt_ix1, bt_ix2, bt_len, len1_ok, fz0_ok, int_ok', max2_ok, mod_ok hmax, mod_ok hk, mod_ok hn0, div_ok hn0 hn1, div_ok h7 h71, bt_add hl, bt_cell, List.set_cons_succ, List.set_cons_zero, pow_ok, ge_ok, asB_ok, decide_eq_false hc, Bool.false_eq_true, if_false, mul_ok c1, mul_ok c2, add_ok, bt_st1, Nat.zero_add, Nat.reduceAdd, ixN_30, ixN_32, bt_put1]
def m_mix : MS :=
  (sSeq (sSet 2 (mVar 1))
   (sSeq (sFor (gN 3) (m1 fIter (mVar 0))
    (sSet 2 (m2 fMod (mL fIntB (mCons (m2 fAdd (m2 fAdd (m2 fMul (mVar 2) (mC (.int 48271))) (m2 fMod (mL fIntB (mCons (mVar 3) mNil)) (mC (.int 2147483629)))) (mC (.int 1))) mNil)) (mC (.int 2147483647)))))
    (sRet (mL fNew (mL fLen (mCons (mVar 2) (mCons (mL fNew (mL fListL (mCons (mVar 0) mNil))) (mCons (mC (.int 0)) mNil))))))))
theorem mix_loop {s sd : Option Val} {t : T} : ∀ (ns : List Int) (st : Int) (o : Option Val), ∃ o', forM (gN 3) (sSet 2 (m2 fMod (mL fIntB (mCons (m2 fAdd (m2 fAdd (m2 fMul (mVar 2) (mC (.int 48271))) (m2 fMod (mL fIntB (mCons (mVar 3) mNil)) (mC (.int 2147483629)))) (mC (.int 1))) mNil)) (mC (.int 2147483647)))) (ns.map fun n => .d (.int n)) [s, sd, some (.d (.int st)), o] t = .nx [s, sd, some (.d (.int (mixSt ns st))), o'] t
  | [], st, o => ⟨o, rfl⟩
  | n :: ns, st, o => by
    obtain ⟨o', h⟩ := mix_loop (s := s) (sd := sd) (t := t) ns ((st * 48271 + n % 2147483629 + 1) % 2147483647) (some (.d (.int n)))
    refine ⟨o', ?_⟩
    have c1 : cMul st 48271 = true := by simp [cMul]
    have hk : (0 : Int) < 2147483647 := by decide
    have hk2 : (0 : Int) < 2147483629 := by decide
    rw [List.map_cons]
    unfold forM
    simp only [gN, List.set_cons_succ, List.set_cons_zero, sSet, m2, m1, mL, mCons, mNil, mC, mVar, List.getElem?_cons_zero, List.getElem?_cons_succ, R.bind_ok, R.toS_ok, mul_ok c1, int_ok', mod_ok hk, mod_ok hk2, add_ok, turnS]
    exact h
theorem bgOk_mix0 : BegunOk 2 bg_law_mix (runG 4 m_mix) := by
  intro vs b h
  unfold bg_law_mix at h
  split at h
  · rename_i ns seed
    split at h
    · rename_i hl
      cases h
      refine ⟨rfl, rfl, rfl, ?_⟩
      obtain ⟨o', hloop⟩ := mix_loop (s := some (.d (.scr ns))) (sd := some (.d (.int seed))) (t := ⟨[], box0⟩) ns seed none
      unfold runG m_mix
      simp only [List.map_cons, List.map_nil, List.length_cons, List.length_nil, List.replicate, List.cons_append, List.nil_append, sSeq, sSet, sFor, mVar, m1, List.getElem?_cons_zero, List.getElem?_cons_succ, R.bind_ok, R.toS_ok, List.set_cons_succ, List.set_cons_zero, fIter, Nat.reduceAdd, Nat.reduceSub, Nat.zero_add]
      rw [hloop]
      rfl
    · cases h
  · cases h
end En
set_option Elab.async false
set_option linter.all false
set_option maxRecDepth 100000
set_option maxHeartbeats 2000000
namespace En
open PySem PySem.Spec PyProof.Rows L2
def R.sat {α : Type} (r : R α) (Q : α → T → Prop) : Prop := ∃ a t, r = .ok a t ∧ Q a t
def RS.sat (r : RS) (N : Rho → T → Prop) (V : Val → T → Prop) : Prop := match r with
  | .nx ρ t => N ρ t
  | .rt v t => V v t
  | _ => False
theorem sat_ok {α : Type} {a : α} {t : T} {Q : α → T → Prop} : (R.ok a t).sat Q = Q a t := by
  apply propext
  constructor
  · rintro ⟨a', t', e, q⟩
    cases e
    exact q
  · intro q
    exact ⟨a, t, rfl, q⟩
theorem sat_stuck {α : Type} {Q : α → T → Prop} : (R.stuck : R α).sat Q = False := by
  apply propext
  constructor
  · rintro ⟨_, _, e, _⟩
    cases e
  · exact False.elim
theorem sat_bind {α β : Type} {r : R α} {f : α → T → R β} {Q : β → T → Prop} : (r.bind f).sat Q = r.sat fun a t => (f a t).sat Q := by
  apply propext
  cases r with
  | ok a t => simp only [R.bind, sat_ok]
  | exc x t =>
    constructor
    · rintro ⟨_, _, e, _⟩
      cases e
    · rintro ⟨_, _, e, _⟩
      cases e
  | stuck => simp only [R.bind, sat_stuck]
theorem sat_toS {α : Type} {r : R α} {ρ : Rho} {f : α → T → RS} {N : Rho → T → Prop} {V : Val → T → Prop} : (r.toS ρ f).sat N V = r.sat fun a t => (f a t).sat N V := by
  apply propext
  cases r with
  | ok a t => simp only [R.toS, sat_ok]
  | exc x t =>
    constructor
    · intro h
      exact h.elim
    · rintro ⟨_, _, e, _⟩
      cases e
  | stuck =>
    simp only [R.toS, sat_stuck]
    exact Iff.rfl
theorem sat_mono {α : Type} {r : R α} {Q Q' : α → T → Prop} (h : r.sat Q) (k : ∀ a t, Q a t → Q' a t) : r.sat Q' := by
  obtain ⟨a, t, e, q⟩ := h
  exact ⟨a, t, e, k a t q⟩
section
variable {ρ : Rho} {t : T} {ma mb : ME Val} {α : Type}
theorem w_m2 {f : Val → Val → T → R α} {Q : α → T → Prop} : (m2 f ma mb ρ t).sat Q = (ma ρ t).sat fun x t => (mb ρ t).sat fun y t => (f x y t).sat Q := by
  unfold m2; simp only [sat_bind]
theorem w_m1 {f : Val → T → R α} {Q : α → T → Prop} : (m1 f ma ρ t).sat Q = (ma ρ t).sat fun x t => (f x t).sat Q := by
  unfold m1; simp only [sat_bind]
theorem w_mL {f : List Val → T → R α} {m : ME (List Val)} {Q : α → T → Prop} : (mL f m ρ t).sat Q = (m ρ t).sat fun x t => (f x t).sat Q := by
  unfold mL; simp only [sat_bind]
theorem w_mCons {m : ME (List Val)} {Q : List Val → T → Prop} : (mCons ma m ρ t).sat Q = (ma ρ t).sat fun x t => (m ρ t).sat fun xs t => Q (x :: xs) t := by
  unfold mCons; simp only [sat_bind, sat_ok]
theorem w_mNil {Q : List Val → T → Prop} : (mNil ρ t).sat Q = Q [] t := by unfold mNil; exact sat_ok
theorem w_mC {d : D} {Q : Val → T → Prop} : (mC d ρ t).sat Q = Q (.d d) t := by unfold mC; exact sat_ok
theorem w_mVar {i : Nat} {v : Val} {Q : Val → T → Prop} (h : ρ[i]? = some (some v)) : (mVar i ρ t).sat Q = Q v t := by rw [mVar_eq h]; exact sat_ok
theorem w_mIf {c : ME Bool} {a b : ME α} {Q : α → T → Prop} : (mIf c a b ρ t).sat Q = (c ρ t).sat fun k t => (if k then a ρ t else b ρ t).sat Q := by
  unfold mIf; simp only [sat_bind]
theorem w_mAnd {a b : ME Bool} {Q : Bool → T → Prop} : (mAnd a b ρ t).sat Q = (a ρ t).sat fun k t => (if k then b ρ t else .ok false t).sat Q := by
  unfold mAnd; simp only [sat_bind]
theorem w_mOr {a b : ME Bool} {Q : Bool → T → Prop} : (mOr a b ρ t).sat Q = (a ρ t).sat fun k t => (if k then .ok true t else b ρ t).sat Q := by
  unfold mOr; simp only [sat_bind]
theorem w_mNot {a : ME Bool} {Q : Bool → T → Prop} : (mNot a ρ t).sat Q = (a ρ t).sat fun k t => Q (!k) t := by
  unfold mNot; simp only [sat_bind, sat_ok]
theorem w_asB {k : Bool} {Q : Bool → T → Prop} : (asB (.d (.bl k)) t).sat Q = Q k t := by rw [asB_ok]; exact sat_ok
theorem w_sNil {N : Rho → T → Prop} {V : Val → T → Prop} : (sNil ρ t).sat N V = N ρ t := rfl
theorem w_sSeq {a b : MS} {N : Rho → T → Prop} {V : Val → T → Prop} : (sSeq a b ρ t).sat N V = (a ρ t).sat (fun ρ t => (b ρ t).sat N V) V := by
  unfold sSeq
  cases a ρ t <;> rfl
theorem w_sSet {i : Nat} {N : Rho → T → Prop} {V : Val → T → Prop} : (sSet i ma ρ t).sat N V = (ma ρ t).sat fun v t => N (ρ.set i (some v)) t := by
  unfold sSet; rw [sat_toS]; rfl
theorem w_sRet {N : Rho → T → Prop} {V : Val → T → Prop} : (sRet ma ρ t).sat N V = (ma ρ t).sat fun v t => V v t := by
  unfold sRet; rw [sat_toS]; rfl
theorem w_sDrop {N : Rho → T → Prop} {V : Val → T → Prop} : (sDrop ma ρ t).sat N V = (ma ρ t).sat fun _ t => N ρ t := by
  unfold sDrop; rw [sat_toS]; rfl
theorem w_sIf {c : ME Bool} {a b : MS} {N : Rho → T → Prop} {V : Val → T → Prop} : (sIf c a b ρ t).sat N V = (c ρ t).sat fun k t => (if k then a ρ t else b ρ t).sat N V := by
  unfold sIf; rw [sat_toS]
theorem w_sFor {f : Val → Rho → Option Rho} {mi : ME (List Val)} {b : MS} {N : Rho → T → Prop} {V : Val → T → Prop} : (sFor f mi b ρ t).sat N V = (mi ρ t).sat fun vs t => (forM f b vs ρ t).sat N V := by
  unfold sFor; rw [sat_toS]
end
theorem forM_sat {f : Val → Rho → Option Rho} {b : MS} {N : Rho → T → Prop} {V : Val → T → Prop} (I : List Val → Rho → T → Prop) : ∀ (vs : List Val) (ρ : Rho) (t : T), I vs ρ t →
    (∀ v vs ρ t, I (v :: vs) ρ t → ∃ ρ', f v ρ = some ρ' ∧ (b ρ' t).sat (fun ρ t => I vs ρ t) V) → (∀ ρ t, I [] ρ t → N ρ t) → (forM f b vs ρ t).sat N V
  | [], ρ, t, h, _, he => he ρ t h
  | v :: vs, ρ, t, h, hs, he => by
    obtain ⟨ρ', e, q⟩ := hs v vs ρ t h
    unfold forM
    rw [e]
    show RS.sat (turnS (b ρ' t) (forM f b vs)) N V
    cases hb : b ρ' t with
    | nx ρ2 t2 =>
      rw [hb] at q
      exact forM_sat I vs ρ2 t2 q hs he
    | rt v2 t2 =>
      rw [hb] at q
      exact q
    | bk _ _ => rw [hb] at q; exact q.elim
    | ct _ _ => rw [hb] at q; exact q.elim
    | exc _ _ _ => rw [hb] at q; exact q.elim
    | stuck => rw [hb] at q; exact q.elim
theorem lcM_sat {f : Val → Rho → Option Rho} {tt : ME Bool} {te : ME Val} {ρ : Rho} {Q : List Val → T → Prop} (I : List Val → List Val → T → Prop) : ∀ (vs acc : List Val) (t : T), I vs acc t →
    (∀ v vs acc t, I (v :: vs) acc t → ∃ ρ', f v ρ = some ρ' ∧ (tt ρ' t).sat fun k t => if k then (te ρ' t).sat fun y t => acc.length < lim ∧ I vs (acc ++ [y]) t else I vs acc t) → (∀ acc t, I [] acc t → Q acc t) → (lcM f tt te ρ vs acc t).sat Q
  | [], acc, t, h, _, he => ⟨acc, t, rfl, he acc t h⟩
  | v :: vs, acc, t, h, hs, he => by
    obtain ⟨ρ', e, k, t1, e1, q⟩ := hs v vs acc t h
    unfold lcM
    rw [e]
    show ((tt ρ' t).bindN _).sat Q
    rw [e1]
    show (if k = true then _ else _ : R (List Val)).sat Q
    cases k with
    | true =>
      rw [if_pos rfl] at q ⊢
      obtain ⟨y, t2, e2, hl, q2⟩ := q
      rw [e2]
      show (if acc.length < lim then _ else _ : R (List Val)).sat Q
      rw [if_pos hl]
      exact lcM_sat I vs _ t2 q2 hs he
    | false =>
      rw [if_neg (by decide)] at q ⊢
      exact lcM_sat I vs acc t1 q hs he
theorem call_sat {mf : MF} {vs : List Val} {t : T} {Q : Val → T → Prop} (ha : vs.all argOk = true) (h : (mf vs t.b).sat fun v t' => ∃ d, v = .d d ∧ t'.b.on = t.b.on ∧ Q (.d d) { t with b := t'.b }) : (fCall mf vs t).sat Q := by
  obtain ⟨v, t', e, d, rfl, hon, q⟩ := h
  unfold fCall
  rw [if_pos ha, e]
  simp only [hon, if_true]
  exact sat_ok ▸ q
theorem run_sat {n : Nat} {ms : MS} {vs : List Val} {t : T} {Q : Val → T → Prop} (h : (ms (vs.map some ++ List.replicate (n - vs.length) none) t).sat (fun _ t => Q (.d .non) t) Q) : (runG n ms vs t).sat Q := by
  unfold runG
  cases hm : ms (vs.map some ++ List.replicate (n - vs.length) none) t with
  | nx ρ t' => rw [hm] at h; exact ⟨_, _, rfl, h⟩
  | rt v t' => rw [hm] at h; exact ⟨_, _, rfl, h⟩
  | bk _ _ => rw [hm] at h; exact h.elim
  | ct _ _ => rw [hm] at h; exact h.elim
  | exc _ _ _ => rw [hm] at h; exact h.elim
  | stuck => rw [hm] at h; exact h.elim
structure GoodB (b : Box) : Prop where
  on : b.on = true
  v : b.v = false
  len : b.ns.length ≤ 1000
theorem draw_sat {n : Int} {t : T} {Q : Val → T → Prop} (g : GoodB t.b) (h0 : 0 < n) (h1 : n < 1073741824) (h : ∀ (k : Int) (b : Box), 0 ≤ k → k < n → GoodB b → Q (.d (.int k)) { t with b := b }) : (fDraw drNext [.box, .d (.int n)] t).sat Q := by
  have e : fDraw drNext [.box, .d (.int n)] t = .ok (.d (.int (drNext.go t.b n).1)) { t with b := (drNext.go t.b n).2 } := by
    show (if (okN n && (t.b.v == drNext.v) && decide (t.b.ns.length ≤ 1000)) = true then _ else _) = _
    rw [if_pos]
    have hv : (t.b.v == drNext.v) = true := by rw [g.v]; rfl
    rw [hv]
    simp [okN, h0, h1, g.len]
  rw [e, sat_ok]
  by_cases hc : (10 : Int) ^ 18 ≤ drCell t.b
  · have hg : drNext.go t.b n = (drCell t.b % n, { t.b with ns := t.b.ns.set (t.b.ix % (t.b.ns.length : Int)).toNat (drCell t.b / n) }) := by
      show (if _ then _ else _) = _
      rw [if_pos hc]
    rw [hg]
    exact h _ _ (Int.emod_nonneg _ (by omega)) (Int.emod_lt_of_pos _ h0) ⟨g.on, g.v, by simpa using g.len⟩
  · have hg : drNext.go t.b n = (((t.b.st * 48271 + drCell t.b * 69621 + 11) % 2147483647) / 7 % n, { t.b with st := (t.b.st * 48271 + drCell t.b * 69621 + 11) % 2147483647, ix := t.b.ix + 1 }) := by
      show (if _ then _ else _) = _
      rw [if_neg hc]
    rw [hg]
    exact h _ _ (Int.emod_nonneg _ (by omega)) (Int.emod_lt_of_pos _ h0) ⟨g.on, g.v, g.len⟩
end En
set_option Elab.async false
set_option linter.all false
set_option maxRecDepth 100000
set_option maxHeartbeats 2000000
namespace En
open PySem PySem.Spec PyProof.Rows L2
def cellD (c : Int × Int) : D := .tup [.int c.1, .int c.2]
def cellP (c : Int × Int) : PyData := .tuple [.int c.1, .int c.2]
theorem val_cell (c : Int × Int) (t : T) : valPy (.d (cellD c)) t = some (cellP c) := rfl
theorem val_int (i : Int) (t : T) : valPy (.d (.int i)) t = some (.int i) := rfl
theorem val_bl (i : Bool) (t : T) : valPy (.d (.bl i)) t = some (.bool i) := rfl
theorem val_non (t : T) : valPy (.d .non) t = some .none := rfl
theorem val_str {x : Str} (h : PyData.strOk x = true) (t : T) : valPy (.d (.str x)) t = some (.str x) := by
  show (if SeqAt.shaped (.str x) = true then _ else _) = _
  rw [if_pos]
  unfold SeqAt.shaped
  simp only [PyData.canLay0, PyData.depth]
  rw [show PyData.strOk x = true from h]
  rfl
theorem eqv_cell (c p : Int × Int) : PyData.eqv (cellP c) (cellP p) = decide (c = p) := by
  obtain ⟨a, b⟩ := c
  obtain ⟨a', b'⟩ := p
  show PyData.eqv (.tuple [.int a, .int b]) (.tuple [.int a', .int b']) = _
  simp only [PyData.eqv, PyData.eqvAll, Bool.and_true, Prod.mk.injEq]
  by_cases h1 : a = a' <;> by_cases h2 : b = b' <;> simp [h1, h2]
theorem eq_of_val {a b : Val} {x y : PyData} {t : T} (h1 : valPy a t = some x) (h2 : valPy b t = some y) : fEq a b t = .ok (.d (.bl (PyData.eqv x y))) t := by
  unfold fEq
  rw [h1, h2]
  rfl
theorem ne_of_val {a b : Val} {x y : PyData} {t : T} (h1 : valPy a t = some x) (h2 : valPy b t = some y) : fNe a b t = .ok (.d (.bl (!PyData.eqv x y))) t := by
  unfold fNe
  rw [h1, h2]
  rfl
theorem eq_cell (c p : Int × Int) (t : T) : fEq (.d (cellD c)) (.d (cellD p)) t = .ok (.d (.bl (decide (c = p)))) t := by
  rw [eq_of_val (val_cell c t) (val_cell p t), eqv_cell]
theorem eq_int (i j : Int) (t : T) : fEq (.d (.int i)) (.d (.int j)) t = .ok (.d (.bl (decide (i = j)))) t := by
  rw [eq_of_val (val_int i t) (val_int j t)]
  simp only [PyData.eqv]
  by_cases h : i = j <;> simp [h]
theorem ne_int (i j : Int) (t : T) : fNe (.d (.int i)) (.d (.int j)) t = .ok (.d (.bl (!decide (i = j)))) t := by
  rw [ne_of_val (val_int i t) (val_int j t)]
  simp only [PyData.eqv]
  by_cases h : i = j <;> simp [h]
theorem eq_str {x y : Str} (hx : PyData.strOk x = true) (hy : PyData.strOk y = true) (t : T) : fEq (.d (.str x)) (.d (.str y)) t = .ok (.d (.bl (x == y))) t := by
  rw [eq_of_val (val_str hx t) (val_str hy t)]
  simp only [PyData.eqv]
theorem ne_str {x y : Str} (hx : PyData.strOk x = true) (hy : PyData.strOk y = true) (t : T) : fNe (.d (.str x)) (.d (.str y)) t = .ok (.d (.bl (!(x == y)))) t := by
  rw [ne_of_val (val_str hx t) (val_str hy t)]
  simp only [PyData.eqv]
theorem cell_0 (c : Int × Int) (t : T) : fIx (.d (cellD c)) (.d (.int 0)) t = .ok (.d (.int c.1)) t := rfl
theorem cell_1 (c : Int × Int) (t : T) : fIx (.d (cellD c)) (.d (.int 1)) t = .ok (.d (.int c.2)) t := rfl
inductive Rule where
  | plain | rows | near (k : Int)
def ruleD : Rule → D
  | .plain => .tup [.str "plain"]
  | .rows => .tup [.str "rows"]
  | .near k => .tup [.str "near", .int k]
def Rule.ok : Rule → Prop
  | .near k => 1 ≤ k ∧ k ≤ 22
  | _ => True
def absI (i : Int) : Int := if i < 0 then -i else i
def told (r : Rule) (c p : Int × Int) : Str := if c = p then "found" else match r with
  | .plain => "empty"
  | .near k => if absI (c.1 - p.1) + absI (c.2 - p.2) ≤ k then "near" else "far"
  | .rows => if c.1 = p.1 then "level" else if p.1 < c.1 then "north" else "south"
theorem abs_ok (i : Int) (t : T) : fAbs [.d (.int i)] t = .ok (.d (.int (absI i))) t := rfl
theorem le_ok (i j : Int) (t : T) : fLe (.d (.int i)) (.d (.int j)) t = .ok (.d (.bl (decide (i ≤ j)))) t := rfl
theorem lt_ok (i j : Int) (t : T) : fLt (.d (.int i)) (.d (.int j)) t = .ok (.d (.bl (decide (i < j)))) t := rfl
end En
set_option Elab.async false
set_option linter.all false
set_option maxRecDepth 100000
set_option maxHeartbeats 2000000
namespace K90
open PySem PySem.Spec PyProof.Rows L2 En
theorem drNextOk : DrawOk drNext f__law_next := drNextOk0
theorem bgOk_law_mix : BegunOk 2 bg_law_mix f__law_mix := bgOk_mix0
theorem eqL {x y : Str} {k : Bool} (t : T) (hx : PyData.strOk x = true := by decide +kernel) (hy : PyData.strOk y = true := by decide +kernel) (hk : (x == y) = k := by decide +kernel) : fEq (.d (.str x)) (.d (.str y)) t = .ok (.d (.bl k)) t := by
  rw [En.eq_str hx hy, hk]
theorem e_pp (t : T) : fEq (.d (.str "plain")) (.d (.str "plain")) t = .ok (.d (.bl true)) t := eqL t
theorem e_rp (t : T) : fEq (.d (.str "rows")) (.d (.str "plain")) t = .ok (.d (.bl false)) t := eqL t
theorem e_np (t : T) : fEq (.d (.str "near")) (.d (.str "plain")) t = .ok (.d (.bl false)) t := eqL t
theorem e_pn (t : T) : fEq (.d (.str "plain")) (.d (.str "near")) t = .ok (.d (.bl false)) t := eqL t
theorem e_rn (t : T) : fEq (.d (.str "rows")) (.d (.str "near")) t = .ok (.d (.bl false)) t := eqL t
theorem e_nn (t : T) : fEq (.d (.str "near")) (.d (.str "near")) t = .ok (.d (.bl true)) t := eqL t
theorem e_pr (t : T) : fEq (.d (.str "plain")) (.d (.str "rows")) t = .ok (.d (.bl false)) t := eqL t
theorem e_rr (t : T) : fEq (.d (.str "rows")) (.d (.str "rows")) t = .ok (.d (.bl true)) t := eqL t
theorem e_nr (t : T) : fEq (.d (.str "near")) (.d (.str "rows")) t = .ok (.d (.bl false)) t := eqL t
theorem ru_p (t : T) : fIx (.d (ruleD .plain)) (.d (.int 0)) t = .ok (.d (.str "plain")) t := rfl
theorem ru_r (t : T) : fIx (.d (ruleD .rows)) (.d (.int 0)) t = .ok (.d (.str "rows")) t := rfl
theorem ru_n (k : Int) (t : T) : fIx (.d (ruleD (.near k))) (.d (.int 0)) t = .ok (.d (.str "near")) t := rfl
theorem ru_k (k : Int) (t : T) : fIx (.d (ruleD (.near k))) (.d (.int 1)) t = .ok (.d (.int k)) t := rfl
theorem told_of_eq (r : Rule) (c p : Int × Int) (b : Box) : f_told_of [.d (ruleD r), .d (cellD c), .d (cellD p)] b = .ok (.d (.str (told r c p))) ⟨[], b⟩ := by
  unfold f_told_of runF runG m_told_of told
  by_cases h : c = p
  · simp only [List.map_cons, List.map_nil, List.length_cons, List.length_nil, List.replicate, List.cons_append, List.nil_append, List.append_nil, sSeq, sIf, sRet, sNil, sSet, sDrop, m2, m1, mL, mCons, mNil, mC, mVar, mIf, List.getElem?_cons_zero, List.getElem?_cons_succ, List.set_cons_zero, List.set_cons_succ, R.bind_ok, R.toS_ok, Nat.reduceAdd, Nat.reduceSub, Nat.zero_add, En.eq_cell, En.asB_ok, En.eq_int, En.lt_ok, En.le_ok, En.sub_ok, En.add_ok, En.abs_ok, En.cell_0, En.cell_1, decide_true, decide_false, Bool.false_eq_true, if_true, if_false, Bool.not_true, Bool.not_false, h, d_FOUND]
  · cases r with
    | plain => simp only [List.map_cons, List.map_nil, List.length_cons, List.length_nil, List.replicate, List.cons_append, List.nil_append, List.append_nil, sSeq, sIf, sRet, sNil, sSet, sDrop, m2, m1, mL, mCons, mNil, mC, mVar, mIf, List.getElem?_cons_zero, List.getElem?_cons_succ, List.set_cons_zero, List.set_cons_succ, R.bind_ok, R.toS_ok, Nat.reduceAdd, Nat.reduceSub, Nat.zero_add, En.eq_cell, En.asB_ok, En.eq_int, En.lt_ok, En.le_ok, En.sub_ok, En.add_ok, En.abs_ok, En.cell_0, En.cell_1, decide_true, decide_false, Bool.false_eq_true, if_true, if_false, Bool.not_true, Bool.not_false, h, d_PLAIN, d_EMPTY, ru_p, e_pp]
    | rows =>
      by_cases h1 : c.1 = p.1
      · simp only [List.map_cons, List.map_nil, List.length_cons, List.length_nil, List.replicate, List.cons_append, List.nil_append, List.append_nil, sSeq, sIf, sRet, sNil, sSet, sDrop, m2, m1, mL, mCons, mNil, mC, mVar, mIf, List.getElem?_cons_zero, List.getElem?_cons_succ, List.set_cons_zero, List.set_cons_succ, R.bind_ok, R.toS_ok, Nat.reduceAdd, Nat.reduceSub, Nat.zero_add, En.eq_cell, En.asB_ok, En.eq_int, En.lt_ok, En.le_ok, En.sub_ok, En.add_ok, En.abs_ok, En.cell_0, En.cell_1, decide_true, decide_false, Bool.false_eq_true, if_true, if_false, Bool.not_true, Bool.not_false, h, d_PLAIN, d_NEARNESS, ru_r, e_rp, e_rn, h1, d_LEVEL]
      · by_cases h2 : p.1 < c.1
        · simp only [List.map_cons, List.map_nil, List.length_cons, List.length_nil, List.replicate, List.cons_append, List.nil_append, List.append_nil, sSeq, sIf, sRet, sNil, sSet, sDrop, m2, m1, mL, mCons, mNil, mC, mVar, mIf, List.getElem?_cons_zero, List.getElem?_cons_succ, List.set_cons_zero, List.set_cons_succ, R.bind_ok, R.toS_ok, Nat.reduceAdd, Nat.reduceSub, Nat.zero_add, En.eq_cell, En.asB_ok, En.eq_int, En.lt_ok, En.le_ok, En.sub_ok, En.add_ok, En.abs_ok, En.cell_0, En.cell_1, decide_true, decide_false, Bool.false_eq_true, if_true, if_false, Bool.not_true, Bool.not_false, h, d_PLAIN, d_NEARNESS, ru_r, e_rp, e_rn, h1, h2, d_NORTH]
        · simp only [List.map_cons, List.map_nil, List.length_cons, List.length_nil, List.replicate, List.cons_append, List.nil_append, List.append_nil, sSeq, sIf, sRet, sNil, sSet, sDrop, m2, m1, mL, mCons, mNil, mC, mVar, mIf, List.getElem?_cons_zero, List.getElem?_cons_succ, List.set_cons_zero, List.set_cons_succ, R.bind_ok, R.toS_ok, Nat.reduceAdd, Nat.reduceSub, Nat.zero_add, En.eq_cell, En.asB_ok, En.eq_int, En.lt_ok, En.le_ok, En.sub_ok, En.add_ok, En.abs_ok, En.cell_0, En.cell_1, decide_true, decide_false, Bool.false_eq_true, if_true, if_false, Bool.not_true, Bool.not_false, h, d_PLAIN, d_NEARNESS, ru_r, e_rp, e_rn, h1, h2, d_SOUTH]
    | near k =>
      by_cases h1 : absI (c.1 - p.1) + absI (c.2 - p.2) ≤ k
      · simp only [List.map_cons, List.map_nil, List.length_cons, List.length_nil, List.replicate, List.cons_append, List.nil_append, List.append_nil, sSeq, sIf, sRet, sNil, sSet, sDrop, m2, m1, mL, mCons, mNil, mC, mVar, mIf, List.getElem?_cons_zero, List.getElem?_cons_succ, List.set_cons_zero, List.set_cons_succ, R.bind_ok, R.toS_ok, Nat.reduceAdd, Nat.reduceSub, Nat.zero_add, En.eq_cell, En.asB_ok, En.eq_int, En.lt_ok, En.le_ok, En.sub_ok, En.add_ok, En.abs_ok, En.cell_0, En.cell_1, decide_true, decide_false, Bool.false_eq_true, if_true, if_false, Bool.not_true, Bool.not_false, h, d_PLAIN, d_NEARNESS, ru_n, ru_k, e_np, e_nn, h1]
      · simp only [List.map_cons, List.map_nil, List.length_cons, List.length_nil, List.replicate, List.cons_append, List.nil_append, List.append_nil, sSeq, sIf, sRet, sNil, sSet, sDrop, m2, m1, mL, mCons, mNil, mC, mVar, mIf, List.getElem?_cons_zero, List.getElem?_cons_succ, List.set_cons_zero, List.set_cons_succ, R.bind_ok, R.toS_ok, Nat.reduceAdd, Nat.reduceSub, Nat.zero_add, En.eq_cell, En.asB_ok, En.eq_int, En.lt_ok, En.le_ok, En.sub_ok, En.add_ok, En.abs_ok, En.cell_0, En.cell_1, decide_true, decide_false, Bool.false_eq_true, if_true, if_false, Bool.not_true, Bool.not_false, h, d_PLAIN, d_NEARNESS, ru_n, ru_k, e_np, e_nn, h1, d_FAR]
theorem law_hint_eq (r : Rule) (c p : Int × Int) (b : Box) : f__law_hint [.d (ruleD r), .d (cellD c), .d (cellD p)] b = .ok (.d (.str (told r c p))) ⟨[], b⟩ := by
  unfold f__law_hint runF runG m__law_hint told
  by_cases h : c = p
  · simp only [List.map_cons, List.map_nil, List.length_cons, List.length_nil, List.replicate, List.cons_append, List.nil_append, List.append_nil, sSeq, sIf, sRet, sNil, sSet, sDrop, m2, m1, mL, mCons, mNil, mC, mVar, mIf, List.getElem?_cons_zero, List.getElem?_cons_succ, List.set_cons_zero, List.set_cons_succ, R.bind_ok, R.toS_ok, Nat.reduceAdd, Nat.reduceSub, Nat.zero_add, En.eq_cell, En.asB_ok, En.eq_int, En.lt_ok, En.le_ok, En.sub_ok, En.add_ok, En.abs_ok, En.cell_0, En.cell_1, decide_true, decide_false, Bool.false_eq_true, if_true, if_false, Bool.not_true, Bool.not_false, h]
  · cases r with
    | plain => simp only [List.map_cons, List.map_nil, List.length_cons, List.length_nil, List.replicate, List.cons_append, List.nil_append, List.append_nil, sSeq, sIf, sRet, sNil, sSet, sDrop, m2, m1, mL, mCons, mNil, mC, mVar, mIf, List.getElem?_cons_zero, List.getElem?_cons_succ, List.set_cons_zero, List.set_cons_succ, R.bind_ok, R.toS_ok, Nat.reduceAdd, Nat.reduceSub, Nat.zero_add, En.eq_cell, En.asB_ok, En.eq_int, En.lt_ok, En.le_ok, En.sub_ok, En.add_ok, En.abs_ok, En.cell_0, En.cell_1, decide_true, decide_false, Bool.false_eq_true, if_true, if_false, Bool.not_true, Bool.not_false, h, ru_p, e_pr, e_pn]
    | rows =>
      by_cases h1 : c.1 = p.1
      · simp only [List.map_cons, List.map_nil, List.length_cons, List.length_nil, List.replicate, List.cons_append, List.nil_append, List.append_nil, sSeq, sIf, sRet, sNil, sSet, sDrop, m2, m1, mL, mCons, mNil, mC, mVar, mIf, List.getElem?_cons_zero, List.getElem?_cons_succ, List.set_cons_zero, List.set_cons_succ, R.bind_ok, R.toS_ok, Nat.reduceAdd, Nat.reduceSub, Nat.zero_add, En.eq_cell, En.asB_ok, En.eq_int, En.lt_ok, En.le_ok, En.sub_ok, En.add_ok, En.abs_ok, En.cell_0, En.cell_1, decide_true, decide_false, Bool.false_eq_true, if_true, if_false, Bool.not_true, Bool.not_false, h, ru_r, e_rr, h1]
      · by_cases h2 : p.1 < c.1
        · simp only [List.map_cons, List.map_nil, List.length_cons, List.length_nil, List.replicate, List.cons_append, List.nil_append, List.append_nil, sSeq, sIf, sRet, sNil, sSet, sDrop, m2, m1, mL, mCons, mNil, mC, mVar, mIf, List.getElem?_cons_zero, List.getElem?_cons_succ, List.set_cons_zero, List.set_cons_succ, R.bind_ok, R.toS_ok, Nat.reduceAdd, Nat.reduceSub, Nat.zero_add, En.eq_cell, En.asB_ok, En.eq_int, En.lt_ok, En.le_ok, En.sub_ok, En.add_ok, En.abs_ok, En.cell_0, En.cell_1, decide_true, decide_false, Bool.false_eq_true, if_true, if_false, Bool.not_true, Bool.not_false, h, ru_r, e_rr, h1, h2]
        · simp only [List.map_cons, List.map_nil, List.length_cons, List.length_nil, List.replicate, List.cons_append, List.nil_append, List.append_nil, sSeq, sIf, sRet, sNil, sSet, sDrop, m2, m1, mL, mCons, mNil, mC, mVar, mIf, List.getElem?_cons_zero, List.getElem?_cons_succ, List.set_cons_zero, List.set_cons_succ, R.bind_ok, R.toS_ok, Nat.reduceAdd, Nat.reduceSub, Nat.zero_add, En.eq_cell, En.asB_ok, En.eq_int, En.lt_ok, En.le_ok, En.sub_ok, En.add_ok, En.abs_ok, En.cell_0, En.cell_1, decide_true, decide_false, Bool.false_eq_true, if_true, if_false, Bool.not_true, Bool.not_false, h, ru_r, e_rr, h1, h2]
    | near k =>
      by_cases h1 : absI (c.1 - p.1) + absI (c.2 - p.2) ≤ k
      · simp only [List.map_cons, List.map_nil, List.length_cons, List.length_nil, List.replicate, List.cons_append, List.nil_append, List.append_nil, sSeq, sIf, sRet, sNil, sSet, sDrop, m2, m1, mL, mCons, mNil, mC, mVar, mIf, List.getElem?_cons_zero, List.getElem?_cons_succ, List.set_cons_zero, List.set_cons_succ, R.bind_ok, R.toS_ok, Nat.reduceAdd, Nat.reduceSub, Nat.zero_add, En.eq_cell, En.asB_ok, En.eq_int, En.lt_ok, En.le_ok, En.sub_ok, En.add_ok, En.abs_ok, En.cell_0, En.cell_1, decide_true, decide_false, Bool.false_eq_true, if_true, if_false, Bool.not_true, Bool.not_false, h, ru_n, ru_k, e_nr, e_nn, h1]
      · simp only [List.map_cons, List.map_nil, List.length_cons, List.length_nil, List.replicate, List.cons_append, List.nil_append, List.append_nil, sSeq, sIf, sRet, sNil, sSet, sDrop, m2, m1, mL, mCons, mNil, mC, mVar, mIf, List.getElem?_cons_zero, List.getElem?_cons_succ, List.set_cons_zero, List.set_cons_succ, R.bind_ok, R.toS_ok, Nat.reduceAdd, Nat.reduceSub, Nat.zero_add, En.eq_cell, En.asB_ok, En.eq_int, En.lt_ok, En.le_ok, En.sub_ok, En.add_ok, En.abs_ok, En.cell_0, En.cell_1, decide_true, decide_false, Bool.false_eq_true, if_true, if_false, Bool.not_true, Bool.not_false, h, ru_n, ru_k, e_nr, e_nn, h1]
theorem isi_int (i : Int) (t : T) : fIsi ["int"] (.d (.int i)) t = .ok (.d (.bl true)) t := rfl
theorem isb_int (i : Int) (t : T) : fIsi ["bool"] (.d (.int i)) t = .ok (.d (.bl false)) t := rfl
theorem is_number_eq (i j k : Int) (b : Box) : f_is_number [.d (.int i), .d (.int j), .d (.int k)] b = .ok (.d (.bl (decide (j ≤ i) && decide (i ≤ k)))) ⟨[], b⟩ := by
  unfold f_is_number runF runG m_is_number
  simp only [List.map_cons, List.map_nil, List.length_cons, List.length_nil, List.replicate, List.cons_append, List.nil_append, List.append_nil, sSeq, sIf, sRet, sNil, sSet, sDrop, m2, m1, mL, mCons, mNil, mC, mVar, mIf, List.getElem?_cons_zero, List.getElem?_cons_succ, List.set_cons_zero, List.set_cons_succ, R.bind_ok, R.toS_ok, Nat.reduceAdd, Nat.reduceSub, Nat.zero_add, En.eq_cell, En.asB_ok, En.eq_int, En.lt_ok, En.le_ok, En.sub_ok, En.add_ok, En.abs_ok, En.cell_0, En.cell_1, decide_true, decide_false, Bool.false_eq_true, if_true, if_false, Bool.not_true, Bool.not_false, mAndV, mNotV, m3c, isi_int, isb_int]
  by_cases h : j ≤ i <;> by_cases h2 : i ≤ k <;> simp only [List.map_cons, List.map_nil, List.length_cons, List.length_nil, List.replicate, List.cons_append, List.nil_append, List.append_nil, sSeq, sIf, sRet, sNil, sSet, sDrop, m2, m1, mL, mCons, mNil, mC, mVar, mIf, List.getElem?_cons_zero, List.getElem?_cons_succ, List.set_cons_zero, List.set_cons_succ, R.bind_ok, R.toS_ok, Nat.reduceAdd, Nat.reduceSub, Nat.zero_add, En.eq_cell, En.asB_ok, En.eq_int, En.lt_ok, En.le_ok, En.sub_ok, En.add_ok, En.abs_ok, En.cell_0, En.cell_1, decide_true, decide_false, Bool.false_eq_true, if_true, if_false, Bool.not_true, Bool.not_false, h, h2, Bool.and_true, Bool.and_false, Bool.true_and, Bool.false_and]
theorem call_eq {mf : MF} {vs : List Val} {t : T} {d : D} (ha : vs.all argOk = true) (h : mf vs t.b = .ok (.d d) ⟨[], t.b⟩) : fCall mf vs t = .ok (.d d) t := by
  unfold fCall
  rw [if_pos ha, h]
  simp only [if_true]
theorem validate_rule_eq {r : Rule} (hr : r.ok) (b : Box) : f_validate_rule [.d (ruleD r)] b = .ok (.d .non) ⟨[], b⟩ := by
  unfold f_validate_rule runF runG m_validate_rule
  cases r with
  | plain => simp only [List.map_cons, List.map_nil, List.length_cons, List.length_nil, List.replicate, List.cons_append, List.nil_append, List.append_nil, sSeq, sIf, sRet, sNil, sSet, sDrop, m2, m1, mL, mCons, mNil, mC, mVar, mIf, List.getElem?_cons_zero, List.getElem?_cons_succ, List.set_cons_zero, List.set_cons_succ, R.bind_ok, R.toS_ok, Nat.reduceAdd, Nat.reduceSub, Nat.zero_add, En.eq_cell, En.asB_ok, En.eq_int, En.lt_ok, En.le_ok, En.sub_ok, En.add_ok, En.abs_ok, En.cell_0, En.cell_1, decide_true, decide_false, Bool.false_eq_true, if_true, if_false, Bool.not_true, Bool.not_false, mAnd, mNot, d_NEARNESS, ru_p, e_pn]
  | rows => simp only [List.map_cons, List.map_nil, List.length_cons, List.length_nil, List.replicate, List.cons_append, List.nil_append, List.append_nil, sSeq, sIf, sRet, sNil, sSet, sDrop, m2, m1, mL, mCons, mNil, mC, mVar, mIf, List.getElem?_cons_zero, List.getElem?_cons_succ, List.set_cons_zero, List.set_cons_succ, R.bind_ok, R.toS_ok, Nat.reduceAdd, Nat.reduceSub, Nat.zero_add, En.eq_cell, En.asB_ok, En.eq_int, En.lt_ok, En.le_ok, En.sub_ok, En.add_ok, En.abs_ok, En.cell_0, En.cell_1, decide_true, decide_false, Bool.false_eq_true, if_true, if_false, Bool.not_true, Bool.not_false, mAnd, mNot, d_NEARNESS, ru_r, e_rn]
  | near k =>
    obtain ⟨h1, h2⟩ := hr
    have hc : ∀ t : T, fCall f_is_number [.d (.int k), .d (.int 1), .d (.int 22)] t = .ok (.d (.bl true)) t := fun t => call_eq rfl (by rw [is_number_eq, decide_eq_true h1, decide_eq_true h2]; rfl)
    simp only [List.map_cons, List.map_nil, List.length_cons, List.length_nil, List.replicate, List.cons_append, List.nil_append, List.append_nil, sSeq, sIf, sRet, sNil, sSet, sDrop, m2, m1, mL, mCons, mNil, mC, mVar, mIf, List.getElem?_cons_zero, List.getElem?_cons_succ, List.set_cons_zero, List.set_cons_succ, R.bind_ok, R.toS_ok, Nat.reduceAdd, Nat.reduceSub, Nat.zero_add, En.eq_cell, En.asB_ok, En.eq_int, En.lt_ok, En.le_ok, En.sub_ok, En.add_ok, En.abs_ok, En.cell_0, En.cell_1, decide_true, decide_false, Bool.false_eq_true, if_true, if_false, Bool.not_true, Bool.not_false, mAnd, mNot, d_NEARNESS, d_MAX_FAR, ru_n, ru_k, e_nn, hc]
theorem hint_eq {r : Rule} (hr : r.ok) (c p : Int × Int) (b : Box) : f_hint [.d (ruleD r), .d (cellD c), .d (cellD p)] b = .ok (.d (.str (told r c p))) ⟨[], b⟩ := by
  unfold f_hint runF runG m_hint
  have h1 : ∀ t : T, fCall f_validate_rule [.d (ruleD r)] t = .ok (.d .non) t := fun t => call_eq rfl (validate_rule_eq hr t.b)
  have h2 : ∀ t : T, fCall f_told_of [.d (ruleD r), .d (cellD c), .d (cellD p)] t = .ok (.d (.str (told r c p))) t := fun t => call_eq rfl (told_of_eq r c p t.b)
  simp only [List.map_cons, List.map_nil, List.length_cons, List.length_nil, List.replicate, List.cons_append, List.nil_append, List.append_nil, sSeq, sIf, sRet, sNil, sSet, sDrop, m2, m1, mL, mCons, mNil, mC, mVar, mIf, List.getElem?_cons_zero, List.getElem?_cons_succ, List.set_cons_zero, List.set_cons_succ, R.bind_ok, R.toS_ok, Nat.reduceAdd, Nat.reduceSub, Nat.zero_add, En.eq_cell, En.asB_ok, En.eq_int, En.lt_ok, En.le_ok, En.sub_ok, En.add_ok, En.abs_ok, En.cell_0, En.cell_1, decide_true, decide_false, Bool.false_eq_true, if_true, if_false, Bool.not_true, Bool.not_false, h1, h2]
end K90
set_option Elab.async false
set_option linter.all false
set_option maxRecDepth 100000
set_option maxHeartbeats 4000000
namespace K90
open PySem PySem.Spec PyProof.Rows L2 En
abbrev P : Program := PySem.Challenge.pw_oldmap_k90_whole_digs_on_great_islands
def top (i : Nat) : Stmt := P.main.body.getD i (.Pass ⟨0, 0, 0, 0⟩)
abbrev s_Island____init__ : Stmt := (clsB (top 14)).getD 0 (.Pass ⟨0, 0, 0, 0⟩)
abbrev s__law_alike : Stmt := top 43
abbrev s__law_cells : Stmt := top 44
abbrev s__law_hint : Stmt := top 45
abbrev s__law_split : Stmt := top 47
abbrev s__law_least : Stmt := top 48
abbrev s__law_mix : Stmt := top 41
abbrev s__law_next : Stmt := top 42
abbrev s__law_some : Stmt := top 46
abbrev s_Island__cells : Stmt := (clsB (top 14)).getD 4 (.Pass ⟨0, 0, 0, 0⟩)
abbrev s_Digger____init__ : Stmt := (clsB (top 38)).getD 0 (.Pass ⟨0, 0, 0, 0⟩)
abbrev s_told_of : Stmt := top 31
abbrev s_parted : Stmt := top 36
abbrev s_Digger__fewest : Stmt := (clsB (top 38)).getD 1 (.Pass ⟨0, 0, 0, 0⟩)
abbrev s_Island____contains__ : Stmt := (clsB (top 14)).getD 9 (.Pass ⟨0, 0, 0, 0⟩)
abbrev s_validate_cell : Stmt := top 15
abbrev s_is_number : Stmt := top 13
abbrev s_validate_rule : Stmt := top 29
abbrev s_validate_places : Stmt := top 32
abbrev s_fewest_digs : Stmt := top 39
abbrev s_hint : Stmt := top 30
abbrev s_remaining : Stmt := top 34
abbrev s_validate_digs : Stmt := top 33
abbrev s_left_after : Stmt := top 35
abbrev s_next_dig : Stmt := top 37
abbrev s_law : Stmt := top 49
structure Fx (w : World) (K : PySem.W.Frag) (mg : Str → Option Value) where
  fd_Island____init__ : FuncData
  F_Island____init__ : FunD K "__init__" "Island.__init__" (defArgs s_Island____init__) (defBody s_Island____init__) (defScope s_Island____init__) [] [] (He.ma K (He.ga K "Island") "__init__") fd_Island____init__
  fd__law_alike : FuncData
  F__law_alike : FunD K "_law_alike" "_law_alike" (defArgs s__law_alike) (defBody s__law_alike) (defScope s__law_alike) [] [] (He.ga K "_law_alike") fd__law_alike
  fd__law_cells : FuncData
  F__law_cells : FunD K "_law_cells" "_law_cells" (defArgs s__law_cells) (defBody s__law_cells) (defScope s__law_cells) [] [] (He.ga K "_law_cells") fd__law_cells
  fd__law_hint : FuncData
  F__law_hint : FunD K "_law_hint" "_law_hint" (defArgs s__law_hint) (defBody s__law_hint) (defScope s__law_hint) [] [] (He.ga K "_law_hint") fd__law_hint
  fd__law_split : FuncData
  F__law_split : FunD K "_law_split" "_law_split" (defArgs s__law_split) (defBody s__law_split) (defScope s__law_split) [] [] (He.ga K "_law_split") fd__law_split
  fd__law_least : FuncData
  F__law_least : FunD K "_law_least" "_law_least" (defArgs s__law_least) (defBody s__law_least) (defScope s__law_least) [] [] (He.ga K "_law_least") fd__law_least
  fd__law_mix : FuncData
  F__law_mix : FunD K "_law_mix" "_law_mix" (defArgs s__law_mix) (defBody s__law_mix) (defScope s__law_mix) [] [] (He.ga K "_law_mix") fd__law_mix
  fd__law_next : FuncData
  F__law_next : FunD K "_law_next" "_law_next" (defArgs s__law_next) (defBody s__law_next) (defScope s__law_next) [] [] (He.ga K "_law_next") fd__law_next
  fd__law_some : FuncData
  F__law_some : FunD K "_law_some" "_law_some" (defArgs s__law_some) (defBody s__law_some) (defScope s__law_some) [] [] (He.ga K "_law_some") fd__law_some
  fd_Island__cells : FuncData
  F_Island__cells : FunD K "cells" "Island.cells" (defArgs s_Island__cells) (defBody s_Island__cells) (defScope s_Island__cells) [] [] (pgAt K "Island" "cells") fd_Island__cells
  fd_Digger____init__ : FuncData
  F_Digger____init__ : FunD K "__init__" "Digger.__init__" (defArgs s_Digger____init__) (defBody s_Digger____init__) (defScope s_Digger____init__) [] [] (He.ma K (He.ga K "Digger") "__init__") fd_Digger____init__
  fd_told_of : FuncData
  F_told_of : FunD K "told_of" "told_of" (defArgs s_told_of) (defBody s_told_of) (defScope s_told_of) [] [] (He.ga K "told_of") fd_told_of
  fd_parted : FuncData
  F_parted : FunD K "parted" "parted" (defArgs s_parted) (defBody s_parted) (defScope s_parted) [] [] (He.ga K "parted") fd_parted
  fd_Digger__fewest : FuncData
  F_Digger__fewest : FunD K "fewest" "Digger.fewest" (defArgs s_Digger__fewest) (defBody s_Digger__fewest) (defScope s_Digger__fewest) [] [] (He.ma K (He.ga K "Digger") "fewest") fd_Digger__fewest
  fd_Island____contains__ : FuncData
  F_Island____contains__ : FunD K "__contains__" "Island.__contains__" (defArgs s_Island____contains__) (defBody s_Island____contains__) (defScope s_Island____contains__) [] [] (He.ma K (He.ga K "Island") "__contains__") fd_Island____contains__
  fd_validate_cell : FuncData
  F_validate_cell : FunD K "validate_cell" "validate_cell" (defArgs s_validate_cell) (defBody s_validate_cell) (defScope s_validate_cell) [] [] (He.ga K "validate_cell") fd_validate_cell
  fd_is_number : FuncData
  F_is_number : FunD K "is_number" "is_number" (defArgs s_is_number) (defBody s_is_number) (defScope s_is_number) [] [] (He.ga K "is_number") fd_is_number
  fd_validate_rule : FuncData
  F_validate_rule : FunD K "validate_rule" "validate_rule" (defArgs s_validate_rule) (defBody s_validate_rule) (defScope s_validate_rule) [] [] (He.ga K "validate_rule") fd_validate_rule
  fd_validate_places : FuncData
  F_validate_places : FunD K "validate_places" "validate_places" (defArgs s_validate_places) (defBody s_validate_places) (defScope s_validate_places) [] [] (He.ga K "validate_places") fd_validate_places
  fd_fewest_digs : FuncData
  F_fewest_digs : FunD K "fewest_digs" "fewest_digs" (defArgs s_fewest_digs) (defBody s_fewest_digs) (defScope s_fewest_digs) [] [] (He.ga K "fewest_digs") fd_fewest_digs
  fd_hint : FuncData
  F_hint : FunD K "hint" "hint" (defArgs s_hint) (defBody s_hint) (defScope s_hint) [] [] (He.ga K "hint") fd_hint
  fd_remaining : FuncData
  F_remaining : FunD K "remaining" "remaining" (defArgs s_remaining) (defBody s_remaining) (defScope s_remaining) [] [] (He.ga K "remaining") fd_remaining
  fd_validate_digs : FuncData
  F_validate_digs : FunD K "validate_digs" "validate_digs" (defArgs s_validate_digs) (defBody s_validate_digs) (defScope s_validate_digs) [] [] (He.ga K "validate_digs") fd_validate_digs
  fd_left_after : FuncData
  F_left_after : FunD K "left_after" "left_after" (defArgs s_left_after) (defBody s_left_after) (defScope s_left_after) [] [] (He.ga K "left_after") fd_left_after
  fd_next_dig : FuncData
  F_next_dig : FunD K "next_dig" "next_dig" (defArgs s_next_dig) (defBody s_next_dig) (defScope s_next_dig) [] [] (He.ga K "next_dig") fd_next_dig
  fd_law : FuncData
  F_law : FunD K "law" "law" (defArgs s_law) (defBody s_law) (defScope s_law) [] [] (He.ga K "law") fd_law
  g__law_mix : mg "_law_mix" = some (.ref (He.ga K "_law_mix"))
  g__law_next : mg "_law_next" = some (.ref (He.ga K "_law_next"))
  g_Island : mg "Island" = some (.ref (He.ga K "Island"))
  g__law_cells : mg "_law_cells" = some (.ref (He.ga K "_law_cells"))
  g_hint : mg "hint" = some (.ref (He.ga K "hint"))
  g__law_hint : mg "_law_hint" = some (.ref (He.ga K "_law_hint"))
  g__law_alike : mg "_law_alike" = some (.ref (He.ga K "_law_alike"))
  g__law_some : mg "_law_some" = some (.ref (He.ga K "_law_some"))
  g__law_split : mg "_law_split" = some (.ref (He.ga K "_law_split"))
  g_next_dig : mg "next_dig" = some (.ref (He.ga K "next_dig"))
  g_fewest_digs : mg "fewest_digs" = some (.ref (He.ga K "fewest_digs"))
  g__law_least : mg "_law_least" = some (.ref (He.ga K "_law_least"))
  g_left_after : mg "left_after" = some (.ref (He.ga K "left_after"))
  g_validate_places : mg "validate_places" = some (.ref (He.ga K "validate_places"))
  g_Digger : mg "Digger" = some (.ref (He.ga K "Digger"))
  g_parted : mg "parted" = some (.ref (He.ga K "parted"))
  g_told_of : mg "told_of" = some (.ref (He.ga K "told_of"))
  g_validate_cell : mg "validate_cell" = some (.ref (He.ga K "validate_cell"))
  g_validate_rule : mg "validate_rule" = some (.ref (He.ga K "validate_rule"))
  g_is_number : mg "is_number" = some (.ref (He.ga K "is_number"))
  g_validate_digs : mg "validate_digs" = some (.ref (He.ga K "validate_digs"))
  g_remaining : mg "remaining" = some (.ref (He.ga K "remaining"))
  fr_range : mg "range" = none
  fr_tuple : mg "tuple" = none
  fr_len : mg "len" = none
  fr_max : mg "max" = none
  fr_min : mg "min" = none
  fr_sorted : mg "sorted" = none
  fr_set : mg "set" = none
  fr_enumerate : mg "enumerate" = none
  fr_isinstance : mg "isinstance" = none
  fr_dict : mg "dict" = none
  fr_list : mg "list" = none
  fr_str : mg "str" = none
  fr_int : mg "int" = none
  fr_bool : mg "bool" = none
  fr_abs : mg "abs" = none
  gc_MAX_SIZE : GlobD mg K "MAX_SIZE" d_MAX_SIZE
  gc_LAND : GlobD mg K "LAND" d_LAND
  gc_WATER : GlobD mg K "WATER" d_WATER
  gc_LETTERS : GlobD mg K "LETTERS" d_LETTERS
  gc_MAX_DUG : GlobD mg K "MAX_DUG" d_MAX_DUG
  gc_FOUND : GlobD mg K "FOUND" d_FOUND
  gc_PLAIN : GlobD mg K "PLAIN" d_PLAIN
  gc_EMPTY : GlobD mg K "EMPTY" d_EMPTY
  gc_NEARNESS : GlobD mg K "NEARNESS" d_NEARNESS
  gc_FAR : GlobD mg K "FAR" d_FAR
  gc_LEVEL : GlobD mg K "LEVEL" d_LEVEL
  gc_NORTH : GlobD mg K "NORTH" d_NORTH
  gc_SOUTH : GlobD mg K "SOUTH" d_SOUTH
  gc_MAX_FAR : GlobD mg K "MAX_FAR" d_MAX_FAR
  tb_WORDS : TabD mg K w "WORDS" t_WORDS
  cl_Island : Cls K (He.ga K "Island")
  cl_Digger : Cls K (He.ga K "Digger")
  na_Island_own_rows : NoAttr K (He.ga K "Island") "own_rows"
  na_Digger_cells_to_dig : NoAttr K (He.ga K "Digger") "cells_to_dig"
  na_Digger_rule : NoAttr K (He.ga K "Digger") "rule"
  na_Digger_known : NoAttr K (He.ga K "Digger") "known"
  mk_Island : Mk K (He.ga K "Island") (He.ma K (He.ga K "Island") "__init__")
  mk_Digger : Mk K (He.ga K "Digger") (He.ma K (He.ga K "Digger") "__init__")
  me_Digger_fewest : Meth K (He.ga K "Digger") "fewest" (He.ma K (He.ga K "Digger") "fewest")
  me_Island___contains__ : Meth K (He.ga K "Island") "__contains__" (He.ma K (He.ga K "Island") "__contains__")
  pr_Island_cells : ∃ p, PropOf K (He.ga K "Island") "cells" p (pgAt K "Island" "cells")
variable {w : World} {K : PySem.W.Frag} {mg : Str → Option Value}
theorem sc_Island____init__ : FnScope ["self", "rows", "row", "text", "column", "sign"] ["self", "rows"] (defScope s_Island____init__) := ⟨rfl, rfl, rfl, by decide +kernel, rfl, by decide +kernel, by decide +kernel⟩
theorem b_Island____init__ (c : Fx w K mg) : Binds K c.fd_Island____init__ ["self", "rows"] [] := c.F_Island____init__.bindsN fun _ _ _ _ _ _ us hl => match us, hl with | [_, _], _ => rfl
theorem ok_Island____init__ (c : Fx w K mg) (base : Heap) : FnOk P w K mg base (L2.CX P w) 1 (He.ma K (He.ga K "Island") "__init__") c.fd_Island____init__ ["self", "rows"] (spG K 2 f_Island____init__) := by
  refine (show FnOk P w K mg base (L2.CX P w) (0 + 1) (He.ma K (He.ga K "Island") "__init__") c.fd_Island____init__ ["self", "rows"] (spG K ["self", "rows"].length (runG ["self", "rows", "row", "text", "column", "sign"].length m_Island____init__)) from jdG (N := ["self", "rows", "row", "text", "column", "sign"]) (ps := ["self", "rows"]) (k := 0) (ms := m_Island____init__) c.F_Island____init__ sc_Island____init__ fun cdv A outer s H E hr => ?_)
  unfold m_Island____init__
  exact
    (jss_cons (js_if (jw_pt (jw_or (jt_cmp (op_eqD hr.units) s_eq (nomark _) (je_callB call_len (c_len (X := _)) c.fr_len (ja_cons (je_pv 1) ja_nil)) je_int) (jw_or1 (jt_cmp (op_eqD hr.units) s_eq (nomark _) (je_ix (je_pv 1) je_int) je_str))))
     (jss_one js_never)
     jss_nil)
     (jss_cons (js_for (passes_of rfl) rfl (ji_enum c.fr_enumerate (ja_cons (je_pv 1) ja_nil)) (jg_tup rfl (jgs_cons (jg_name (i := 2) sc_Island____init__.nd rfl (by first | exact .inl rfl | exact .inr rfl)) (jgs_cons (jg_name (i := 3) sc_Island____init__.nd rfl (by first | exact .inl rfl | exact .inr rfl)) jgs_nil)))
      (jss_cons (js_if (jt_cmp (op_eqD hr.units) s_eq (nomark _) (je_pv 2) (je_gc c.gc_MAX_SIZE))
       (jss_one js_never)
       jss_nil)
       (jss_cons (js_for (passes_of rfl) rfl (ji_enum c.fr_enumerate (ja_cons (je_pv 3) ja_nil)) (jg_tup rfl (jgs_cons (jg_name (i := 4) sc_Island____init__.nd rfl (by first | exact .inl rfl | exact .inr rfl)) (jgs_cons (jg_name (i := 5) sc_Island____init__.nd rfl (by first | exact .inl rfl | exact .inr rfl)) jgs_nil)))
        (jss_one (js_if (jw_pt (jw_or (jt_cmp (op_eqD hr.units) s_eq (nomark _) (je_pv 4) (je_callB (call_min2 rfl) c_min2 c.fr_min (ja_cons (je_gc c.gc_MAX_SIZE) (ja_cons (je_callB call_len (c_len (X := _)) c.fr_len (ja_cons (je_ix (je_pv 1) je_int) ja_nil)) ja_nil)))) (jw_or1 (jt_cmp (op_notInAll (u65 hr)) s_notIn (by rfl) (je_pv 5) (je_op op_addAll s_add (je_op op_addAll s_add (je_gc c.gc_LAND) (je_gc c.gc_WATER)) (je_gc c.gc_LETTERS))))))
         (jss_one js_never)
         jss_nil)))
        (jss_one (js_if (jt_cmp op_lt s_cmp (nomark _) (je_callB call_len (c_len (X := _)) c.fr_len (ja_cons (je_pv 3) ja_nil)) (je_callB call_len (c_len (X := _)) c.fr_len (ja_cons (je_ix (je_pv 1) je_int) ja_nil)))
         (jss_one js_never)
         jss_nil)))))
      (jss_one (js_fld ["Island"] (by intro z hz; first | (have e : z = "Island" := by simpa using hz); subst e; exact ⟨c.cl_Island, c.na_Island_own_rows⟩) (je_pv 0) (je_pv 1)))))
theorem sc__law_alike : FnScope ["_law_found", "_law_due", "_law_k"] ["_law_found", "_law_due"] (defScope s__law_alike) := ⟨rfl, rfl, rfl, by decide +kernel, rfl, by decide +kernel, by decide +kernel⟩
theorem b__law_alike (c : Fx w K mg) : Binds K c.fd__law_alike ["_law_found", "_law_due"] [] := c.F__law_alike.bindsN fun _ _ _ _ _ _ us hl => match us, hl with | [_, _], _ => rfl
theorem ok__law_alike (c : Fx w K mg) (base : Heap) : ∀ n : Nat, FnOk P w K mg base (L2.CX P w) (1 + n) (He.ga K "_law_alike") c.fd__law_alike ["_law_found", "_law_due"] (spF K 2 (f__law_alike n))
  | 0 => fnOk0
  | n + 1 => by
    have F := ok__law_alike c base n
    refine (show FnOk P w K mg base (L2.CX P w) ((1 + n) + 1) (He.ga K "_law_alike") c.fd__law_alike ["_law_found", "_law_due"] (spF K ["_law_found", "_law_due"].length (runF ["_law_found", "_law_due", "_law_k"].length (r__law_alike (f__law_alike n)))) from jd (N := ["_law_found", "_law_due", "_law_k"]) (ps := ["_law_found", "_law_due"]) (k := (1 + n)) (ms := (r__law_alike (f__law_alike n))) c.F__law_alike sc__law_alike fun cdv A outer s H E hr => ?_)
    unfold r__law_alike
    exact
      (jss_cons (js_if (jt_val (je_isi (b := "dict") c.fr_isinstance c.fr_dict (je_pv 1)))
       (jss_one (js_ret (je_and (je_isi (b := "dict") c.fr_isinstance c.fr_dict (je_pv 0)) (je_and (je_call F (hr.mono (Nat.le_refl _)) c.g__law_alike c.F__law_alike.kp (b__law_alike c) (takes_of rfl rfl rfl rfl) (ja_cons (je_callB (cr_sortD (u65 hr)) c_sorted c.fr_sorted (ja_cons (je_pv 0) ja_nil)) (ja_cons (je_callB (cr_sortD (u65 hr)) c_sorted c.fr_sorted (ja_cons (je_pv 1) ja_nil)) ja_nil)) (hla := (mCons_len (mCons_len mNil_len)))) (je_one (je_cmp (op_eqD hr.units) s_eq (nomark _) (je_pv 0) (je_pv 1)))))))
       jss_nil)
       (jss_cons (js_if (jt_val (je_isi2 (b := "tuple") (c := "list") c.fr_isinstance c.fr_tuple c.fr_list (je_pv 1)))
        (jss_cons (js_if (jw_pt (jw_or (jt_not (jt_val (je_isi2 (b := "tuple") (c := "list") c.fr_isinstance c.fr_tuple c.fr_list (je_pv 0)))) (jw_or1 (jt_cmp (op_neD hr.units) s_ne (nomark _) (je_isi (b := "list") c.fr_isinstance c.fr_list (je_pv 0)) (je_isi (b := "list") c.fr_isinstance c.fr_list (je_pv 1))))))
         (jss_one (js_ret je_bl))
         jss_nil)
         (jss_cons (js_if (jt_cmp (op_neD hr.units) s_ne (nomark _) (je_callB call_len (c_len (X := _)) c.fr_len (ja_cons (je_pv 0) ja_nil)) (je_callB call_len (c_len (X := _)) c.fr_len (ja_cons (je_pv 1) ja_nil)))
          (jss_one (js_ret je_bl))
          jss_nil)
          (jss_one (js_ret (je_cmp (op_eqD hr.units) s_eq (nomark _) (je_ofL (jl_lc [("_law_k", 2)] rfl sc__law_alike.nd (ji_range1 c.fr_range (ja_cons (je_callB call_len (c_len (X := _)) c.fr_len (ja_cons (je_pv 1) ja_nil)) ja_nil)) (blkOk_by (by kernel_rfl)) ⟨_, nt_name 2, fun _ _ _ _ _ => pg_name sc__law_alike.nd rfl (by first | exact .inl rfl | exact .inr rfl)⟩ (fun _ _ _ _ _ => jts_one (jt_not (jt_val (je_call F (hr.mono (Nat.le_refl _)) c.g__law_alike c.F__law_alike.kp (b__law_alike c) takes0 (ja_cons (je_ix (je_pv 0) (je_pv 2)) (ja_cons (je_ix (je_pv 1) (je_pv 2)) ja_nil)) (hla := (mCons_len (mCons_len mNil_len))))))) (fun _ _ _ _ _ => (je_pv 2)))) (je_ofL (jl_lst ja_nil)))))))
        jss_nil)
        (jss_cons (js_if (jw_pt (jw_or (jt_cmp op_isN s_isN (nomark _) (je_pv 1) je_non) (jw_or1 (jt_val (je_isi (b := "str") c.fr_isinstance c.fr_str (je_pv 1))))))
         (jss_one (js_ret (je_and (je_cmp (op_eqD hr.units) s_eq (nomark _) (je_pv 0) (je_pv 1)) (je_one (je_cmp (op_eqD hr.units) s_eq (nomark _) (je_isi (b := "str") c.fr_isinstance c.fr_str (je_pv 0)) (je_isi (b := "str") c.fr_isinstance c.fr_str (je_pv 1)))))))
         jss_nil)
         (jss_one (js_ret (je_and (je_isi (b := "int") c.fr_isinstance c.fr_int (je_pv 0)) (je_and (je_cmp (op_eqD hr.units) s_eq (nomark _) (je_isi (b := "bool") c.fr_isinstance c.fr_bool (je_pv 0)) (je_isi (b := "bool") c.fr_isinstance c.fr_bool (je_pv 1))) (je_one (je_cmp (op_eqD hr.units) s_eq (nomark _) (je_pv 0) (je_pv 1))))))))))
theorem sc__law_cells : FnScope ["_law_rows", "_law_found", "_law_row", "_law_column"] ["_law_rows"] (defScope s__law_cells) := ⟨rfl, rfl, rfl, by decide +kernel, rfl, by decide +kernel, by decide +kernel⟩
theorem b__law_cells (c : Fx w K mg) : Binds K c.fd__law_cells ["_law_rows"] [] := c.F__law_cells.bindsN fun _ _ _ _ _ _ us hl => match us, hl with | [_], _ => rfl
theorem ok__law_cells (c : Fx w K mg) (base : Heap) : FnOk P w K mg base (L2.CX P w) 1 (He.ga K "_law_cells") c.fd__law_cells ["_law_rows"] (spF K 1 f__law_cells) := by
  refine (show FnOk P w K mg base (L2.CX P w) (0 + 1) (He.ga K "_law_cells") c.fd__law_cells ["_law_rows"] (spF K ["_law_rows"].length (runF ["_law_rows", "_law_found", "_law_row", "_law_column"].length m__law_cells)) from jd (N := ["_law_rows", "_law_found", "_law_row", "_law_column"]) (ps := ["_law_rows"]) (k := 0) (ms := m__law_cells) c.F__law_cells sc__law_cells fun cdv A outer s H E hr => ?_)
  unfold m__law_cells
  exact
    (jss_cons (js_set (i := 1) sc__law_cells.nd rfl (by first | exact .inl rfl | exact .inr rfl) (je_ofL (jl_lst ja_nil)))
     (jss_cons (js_for (passes_of rfl) rfl (ji_range1 c.fr_range (ja_cons (je_callB call_len (c_len (X := _)) c.fr_len (ja_cons (je_pv 0) ja_nil)) ja_nil)) (jg_name (i := 2) sc__law_cells.nd rfl (by first | exact .inl rfl | exact .inr rfl))
      (jss_one (js_set (i := 1) sc__law_cells.nd rfl (by first | exact .inl rfl | exact .inr rfl) (je_op op_addAll s_add (je_pv 1) (je_ofL (jl_lc [("_law_column", 3)] rfl sc__law_cells.nd (ji_range1 c.fr_range (ja_cons (je_callB call_len (c_len (X := _)) c.fr_len (ja_cons (je_ix (je_pv 0) je_int) ja_nil)) ja_nil)) (blkOk_by (by kernel_rfl)) ⟨_, nt_name 3, fun _ _ _ _ _ => pg_name sc__law_cells.nd rfl (by first | exact .inl rfl | exact .inr rfl)⟩ (fun _ _ _ _ _ => jts_one (jt_cmp (op_neD hr.units) s_ne (nomark _) (je_ix (je_ix (je_pv 0) (je_pv 2)) (je_pv 3)) je_str)) (fun _ _ _ _ _ => (je_tup (ja_cons (je_pv 2) (ja_cons (je_pv 3) ja_nil))))))))))
      (jss_one (js_ret (je_pv 1)))))
theorem sc__law_hint : FnScope ["_law_rule", "_law_cell", "_law_place", "_law_paces"] ["_law_rule", "_law_cell", "_law_place"] (defScope s__law_hint) := ⟨rfl, rfl, rfl, by decide +kernel, rfl, by decide +kernel, by decide +kernel⟩
theorem b__law_hint (c : Fx w K mg) : Binds K c.fd__law_hint ["_law_rule", "_law_cell", "_law_place"] [] := c.F__law_hint.bindsN fun _ _ _ _ _ _ us hl => match us, hl with | [_, _, _], _ => rfl
theorem ok__law_hint (c : Fx w K mg) (base : Heap) : FnOk P w K mg base (L2.CX P w) 1 (He.ga K "_law_hint") c.fd__law_hint ["_law_rule", "_law_cell", "_law_place"] (spF K 3 f__law_hint) := by
  refine (show FnOk P w K mg base (L2.CX P w) (0 + 1) (He.ga K "_law_hint") c.fd__law_hint ["_law_rule", "_law_cell", "_law_place"] (spF K ["_law_rule", "_law_cell", "_law_place"].length (runF ["_law_rule", "_law_cell", "_law_place", "_law_paces"].length m__law_hint)) from jd (N := ["_law_rule", "_law_cell", "_law_place", "_law_paces"]) (ps := ["_law_rule", "_law_cell", "_law_place"]) (k := 0) (ms := m__law_hint) c.F__law_hint sc__law_hint fun cdv A outer s H E hr => ?_)
  unfold m__law_hint
  exact
    (jss_cons (js_if (jt_cmp (op_eqD hr.units) s_eq (nomark _) (je_pv 1) (je_pv 2))
     (jss_one (js_ret je_str))
     jss_nil)
     (jss_cons (js_if (jt_cmp (op_eqD hr.units) s_eq (nomark _) (je_ix (je_pv 0) je_int) je_str)
      (jss_one (js_ret (je_if (jt_cmp (op_eqD hr.units) s_eq (nomark _) (je_ix (je_pv 1) je_int) (je_ix (je_pv 2) je_int)) je_str (je_if (jt_cmp op_lt s_cmp (nomark _) (je_ix (je_pv 2) je_int) (je_ix (je_pv 1) je_int)) je_str je_str))))
      jss_nil)
      (jss_cons (js_if (jt_cmp (op_eqD hr.units) s_eq (nomark _) (je_ix (je_pv 0) je_int) je_str)
       (jss_cons (js_set (i := 3) sc__law_hint.nd rfl (by first | exact .inl rfl | exact .inr rfl) (je_op op_addAll s_add (je_callB call_abs c_abs c.fr_abs (ja_cons (je_op op_subC s_sub (je_ix (je_pv 1) je_int) (je_ix (je_pv 2) je_int)) ja_nil)) (je_callB call_abs c_abs c.fr_abs (ja_cons (je_op op_subC s_sub (je_ix (je_pv 1) je_int) (je_ix (je_pv 2) je_int)) ja_nil))))
        (jss_one (js_ret (je_if (jt_cmp op_le s_cmp (nomark _) (je_pv 3) (je_ix (je_pv 0) je_int)) je_str je_str))))
       jss_nil)
       (jss_one (js_ret je_str)))))
theorem sc__law_split : FnScope ["_law_rule", "_law_cell", "_law_spots", "_law_parts", "_law_place", "_law_word"] ["_law_rule", "_law_cell", "_law_spots"] (defScope s__law_split) := ⟨rfl, rfl, rfl, by decide +kernel, rfl, by decide +kernel, by decide +kernel⟩
theorem b__law_split (c : Fx w K mg) : Binds K c.fd__law_split ["_law_rule", "_law_cell", "_law_spots"] [] := c.F__law_split.bindsN fun _ _ _ _ _ _ us hl => match us, hl with | [_, _, _], _ => rfl
theorem ok__law_split (c : Fx w K mg) (base : Heap) : FnOk P w K mg base (L2.CX P w) 2 (He.ga K "_law_split") c.fd__law_split ["_law_rule", "_law_cell", "_law_spots"] (spF K 3 f__law_split) := by
  refine (show FnOk P w K mg base (L2.CX P w) (1 + 1) (He.ga K "_law_split") c.fd__law_split ["_law_rule", "_law_cell", "_law_spots"] (spF K ["_law_rule", "_law_cell", "_law_spots"].length (runF ["_law_rule", "_law_cell", "_law_spots", "_law_parts", "_law_place", "_law_word"].length m__law_split)) from jd (N := ["_law_rule", "_law_cell", "_law_spots", "_law_parts", "_law_place", "_law_word"]) (ps := ["_law_rule", "_law_cell", "_law_spots"]) (k := 1) (ms := m__law_split) c.F__law_split sc__law_split fun cdv A outer s H E hr => ?_)
  unfold m__law_split
  exact
    (jss_cons (js_set (i := 3) sc__law_split.nd rfl (by first | exact .inl rfl | exact .inr rfl) je_dnewK)
     (jss_cons (js_for (passes_of rfl) rfl (ji_val (je_pv 2)) (jg_name (i := 4) sc__law_split.nd rfl (by first | exact .inl rfl | exact .inr rfl))
      (jss_one (js_if (jt_cmp (op_neD hr.units) s_ne (nomark _) (je_pv 4) (je_pv 1))
       (jss_cons (js_set (i := 5) sc__law_split.nd rfl (by first | exact .inl rfl | exact .inr rfl) (je_call (ok__law_hint c _) (hr.mono (by decide)) c.g__law_hint c.F__law_hint.kp (b__law_hint c) (takes_of rfl rfl rfl rfl) (ja_cons (je_pv 0) (ja_cons (je_pv 1) (ja_cons (je_pv 4) ja_nil))) (hla := (mCons_len (mCons_len (mCons_len mNil_len))))))
        (jss_one (js_dput (u65 hr) (je_pv 3) (je_pv 5) (je_op op_addAll s_add (je_dget2 (u65 hr) (je_pv 3) (je_pv 5) (je_tup ja_nil)) (je_tup (ja_cons (je_pv 4) ja_nil))))))
       jss_nil)))
      (jss_fzD 3 (jss_one (js_ret (je_pv 3))))))
theorem sc__law_least : FnScope ["_law_rule", "_law_cells_here", "_law_spots", "_law_known", "_law_best", "_law_cell", "_law_parts", "_law_word"] ["_law_rule", "_law_cells_here", "_law_spots", "_law_known"] (defScope s__law_least) := ⟨rfl, rfl, rfl, by decide +kernel, rfl, by decide +kernel, by decide +kernel⟩
theorem b__law_least (c : Fx w K mg) : Binds K c.fd__law_least ["_law_rule", "_law_cells_here", "_law_spots", "_law_known"] [] := c.F__law_least.bindsN fun _ _ _ _ _ _ us hl => match us, hl with | [_, _, _, _], _ => rfl
theorem ok__law_least (c : Fx w K mg) (base : Heap) : ∀ n : Nat, FnOk P w K mg base (L2.CX P w) (3 + n) (He.ga K "_law_least") c.fd__law_least ["_law_rule", "_law_cells_here", "_law_spots", "_law_known"] (spG K 4 (f__law_least n))
  | 0 => fnOk0G
  | n + 1 => by
    have F := ok__law_least c base n
    refine (show FnOk P w K mg base (L2.CX P w) ((3 + n) + 1) (He.ga K "_law_least") c.fd__law_least ["_law_rule", "_law_cells_here", "_law_spots", "_law_known"] (spG K ["_law_rule", "_law_cells_here", "_law_spots", "_law_known"].length (runG ["_law_rule", "_law_cells_here", "_law_spots", "_law_known", "_law_best", "_law_cell", "_law_parts", "_law_word"].length (r__law_least (f__law_least n)))) from jdG (N := ["_law_rule", "_law_cells_here", "_law_spots", "_law_known", "_law_best", "_law_cell", "_law_parts", "_law_word"]) (ps := ["_law_rule", "_law_cells_here", "_law_spots", "_law_known"]) (k := (3 + n)) (ms := (r__law_least (f__law_least n))) c.F__law_least sc__law_least fun cdv A outer s H E hr => ?_)
    unfold r__law_least
    exact
      (jss_cons (js_if (jt_cmp (op_eqD hr.units) s_eq (nomark _) (je_pv 2) (je_tup ja_nil))
       (jss_one (js_ret je_int))
       jss_nil)
       (jss_cons (js_if (jt_cmp (op_dnotin (u65 hr)) s_dnotin (by rfl) (je_pv 2) (je_pv 3))
        (jss_cons (js_set (i := 4) sc__law_least.nd rfl (by first | exact .inl rfl | exact .inr rfl) je_int)
         (jss_cons (js_for (passes_of rfl) rfl (ji_val (je_pv 1)) (jg_name (i := 5) sc__law_least.nd rfl (by first | exact .inl rfl | exact .inr rfl))
          (jss_cons (js_set (i := 6) sc__law_least.nd rfl (by first | exact .inl rfl | exact .inr rfl) (je_call (ok__law_split c _) (hr.mono (by omega)) c.g__law_split c.F__law_split.kp (b__law_split c) (takes_of rfl rfl rfl rfl) (ja_cons (je_pv 0) (ja_cons (je_pv 5) (ja_cons (je_pv 2) ja_nil))) (hla := (mCons_len (mCons_len (mCons_len mNil_len))))))
           (jss_one (js_if (jt_cmp (op_notInAll (u65 hr)) s_notIn (by rfl) (je_pv 2) (je_ofL (jl_vals rfl c.fr_list (je_pv 6))))
            (jss_one (js_set (i := 4) sc__law_least.nd rfl (by first | exact .inl rfl | exact .inr rfl) (je_callB (call_min2 rfl) c_min2 c.fr_min (ja_cons (je_pv 4) (ja_cons (je_op op_addAll s_add je_int (je_callB (cr_max rfl) c_max1 c.fr_max (ja_cons (je_op op_addAll s_add (je_ofL (jl_lst (ja_cons je_int ja_nil))) (je_ofL (jl_lc [("_law_word", 7)] rfl sc__law_least.nd (ji_keysK (je_pv 6)) (blkOk_by (by kernel_rfl)) ⟨_, nt_name 7, fun _ _ _ _ _ => pg_name sc__law_least.nd rfl (by first | exact .inl rfl | exact .inr rfl)⟩ (fun _ _ _ _ _ => jts_nil) (fun _ _ _ _ _ => (je_callG F (hr.mono (Nat.le_refl _)) c.g__law_least c.F__law_least.kp (b__law_least c) takes0 (ja_cons (je_pv 0) (ja_cons (je_pv 1) (ja_cons (je_dget (u65 hr) (je_pv 6) (je_pv 7)) (ja_cons (je_pv 3) ja_nil)))) (hla := (mCons_len (mCons_len (mCons_len (mCons_len mNil_len)))))))))) ja_nil))) ja_nil)))))
            jss_nil))))
          (jss_one (js_dput (u65 hr) (je_pv 3) (je_pv 2) (je_pv 4)))))
        jss_nil)
        (jss_one (js_ret (je_dget (u65 hr) (je_pv 3) (je_pv 2))))))
theorem sc__law_mix : FnScope ["_law_script", "_law_seed", "_law_state", "_law_cell"] ["_law_script", "_law_seed"] (defScope s__law_mix) := ⟨rfl, rfl, rfl, by decide +kernel, rfl, by decide +kernel, by decide +kernel⟩
theorem b__law_mix (c : Fx w K mg) : Binds K c.fd__law_mix ["_law_script", "_law_seed"] [] := c.F__law_mix.bindsN fun _ _ _ _ _ _ us hl => match us, hl with | [_, _], _ => rfl
theorem ok__law_mix (c : Fx w K mg) (base : Heap) : FnOk P w K mg base (L2.CX P w) 1 (He.ga K "_law_mix") c.fd__law_mix ["_law_script", "_law_seed"] (spG K 2 f__law_mix) := by
  refine (show FnOk P w K mg base (L2.CX P w) (0 + 1) (He.ga K "_law_mix") c.fd__law_mix ["_law_script", "_law_seed"] (spG K ["_law_script", "_law_seed"].length (runG ["_law_script", "_law_seed", "_law_state", "_law_cell"].length m__law_mix)) from jdG (N := ["_law_script", "_law_seed", "_law_state", "_law_cell"]) (ps := ["_law_script", "_law_seed"]) (k := 0) (ms := m__law_mix) c.F__law_mix sc__law_mix fun cdv A outer s H E hr => ?_)
  unfold m__law_mix
  exact
    (jss_cons (js_set (i := 2) sc__law_mix.nd rfl (by first | exact .inl rfl | exact .inr rfl) (je_pv 1))
     (jss_cons (js_for (passes_of rfl) rfl (ji_val (je_pv 0)) (jg_name (i := 3) sc__law_mix.nd rfl (by first | exact .inl rfl | exact .inr rfl))
      (jss_one (js_set (i := 2) sc__law_mix.nd rfl (by first | exact .inl rfl | exact .inr rfl) (je_op op_mod s_mod (je_callTy call_intB c_int c.fr_int (ja_cons (je_op op_addAll s_add (je_op op_addAll s_add (je_op op_mulAll s_mul (je_pv 2) je_int) (je_op op_mod s_mod (je_callTy call_intB c_int c.fr_int (ja_cons (je_pv 3) ja_nil)) je_int)) je_int) ja_nil)) je_int))))
      (jss_one (js_ret (je_new (jl_lst (ja_cons (je_pv 2) (ja_cons (je_new (jl_list c.fr_list (ja_cons (je_pv 0) ja_nil))) (ja_cons je_int ja_nil)))))))))
theorem sc__law_next : FnScope ["_law_h", "_law_limit", "_law_cell"] ["_law_h", "_law_limit"] (defScope s__law_next) := ⟨rfl, rfl, rfl, by decide +kernel, rfl, by decide +kernel, by decide +kernel⟩
theorem b__law_next (c : Fx w K mg) : Binds K c.fd__law_next ["_law_h", "_law_limit"] [] := c.F__law_next.bindsN fun _ _ _ _ _ _ us hl => match us, hl with | [_, _], _ => rfl
theorem ok__law_next (c : Fx w K mg) (base : Heap) : FnOk P w K mg base (L2.CX P w) 1 (He.ga K "_law_next") c.fd__law_next ["_law_h", "_law_limit"] (spG K 2 f__law_next) := by
  refine (show FnOk P w K mg base (L2.CX P w) (0 + 1) (He.ga K "_law_next") c.fd__law_next ["_law_h", "_law_limit"] (spG K ["_law_h", "_law_limit"].length (runG ["_law_h", "_law_limit", "_law_cell"].length m__law_next)) from jdG (N := ["_law_h", "_law_limit", "_law_cell"]) (ps := ["_law_h", "_law_limit"]) (k := 0) (ms := m__law_next) c.F__law_next sc__law_next fun cdv A outer s H E hr => ?_)
  unfold m__law_next
  exact
    (jss_cons (js_set (i := 2) sc__law_next.nd rfl (by first | exact .inl rfl | exact .inr rfl) (je_ix (je_op op_addAll s_add (je_ix (je_pv 0) je_int) (je_ofL (jl_lst (ja_cons je_int ja_nil)))) (je_op op_mod s_mod (je_callTy call_intB c_int c.fr_int (ja_cons (je_ix (je_pv 0) je_int) ja_nil)) (je_callB (call_max2 rfl) c_max2 c.fr_max (ja_cons je_int (ja_cons (je_callB call_len (c_len (X := _)) c.fr_len (ja_cons (je_ix (je_pv 0) je_int) ja_nil)) ja_nil))))))
     (jss_cons (js_if (jt_cmp op_ge s_cmp (nomark _) (je_pv 2) (je_op op_pow s_pow je_int je_int))
      (jss_cons (js_sub (je_ix (je_pv 0) je_int) (je_op op_mod s_mod (je_callTy call_intB c_int c.fr_int (ja_cons (je_ix (je_pv 0) je_int) ja_nil)) (je_callB call_len (c_len (X := _)) c.fr_len (ja_cons (je_ix (je_pv 0) je_int) ja_nil))) (je_op op_fdiv s_div (je_pv 2) (je_pv 1)))
       (jss_one (js_ret (je_op op_mod s_mod (je_callTy call_intB c_int c.fr_int (ja_cons (je_pv 2) ja_nil)) (je_pv 1)))))
      jss_nil)
      (jss_cons (js_sub (je_pv 0) je_int (je_op op_mod s_mod (je_callTy call_intB c_int c.fr_int (ja_cons (je_op op_addAll s_add (je_op op_addAll s_add (je_op op_mulAll s_mul (je_ix (je_pv 0) je_int) je_int) (je_op op_mulAll s_mul (je_pv 2) je_int)) je_int) ja_nil)) je_int))
       (jss_cons (js_sub (je_pv 0) je_int (je_op op_addAll s_add (je_ix (je_pv 0) je_int) je_int))
        (jss_one (js_ret (je_op op_mod s_mod (je_callTy call_intB c_int c.fr_int (ja_cons (je_op op_fdiv s_div (je_ix (je_pv 0) je_int) je_int) ja_nil)) (je_pv 1))))))))
theorem sc__law_some : FnScope ["_law_h", "_law_cells_here", "_law_most", "_law_left", "_law_found", "_law_k"] ["_law_h", "_law_cells_here", "_law_most"] (defScope s__law_some) := ⟨rfl, rfl, rfl, by decide +kernel, rfl, by decide +kernel, by decide +kernel⟩
theorem b__law_some (c : Fx w K mg) : Binds K c.fd__law_some ["_law_h", "_law_cells_here", "_law_most"] [] := c.F__law_some.bindsN fun _ _ _ _ _ _ us hl => match us, hl with | [_, _, _], _ => rfl
theorem ok__law_some (c : Fx w K mg) (base : Heap) : FnOk P w K mg base (L2.CX P w) 2 (He.ga K "_law_some") c.fd__law_some ["_law_h", "_law_cells_here", "_law_most"] (spF K 3 f__law_some) := by
  refine (show FnOk P w K mg base (L2.CX P w) (1 + 1) (He.ga K "_law_some") c.fd__law_some ["_law_h", "_law_cells_here", "_law_most"] (spF K ["_law_h", "_law_cells_here", "_law_most"].length (runF ["_law_h", "_law_cells_here", "_law_most", "_law_left", "_law_found", "_law_k"].length m__law_some)) from jd (N := ["_law_h", "_law_cells_here", "_law_most", "_law_left", "_law_found", "_law_k"]) (ps := ["_law_h", "_law_cells_here", "_law_most"]) (k := 1) (ms := m__law_some) c.F__law_some sc__law_some fun cdv A outer s H E hr => ?_)
  unfold m__law_some
  exact
    (jss_cons (js_par (i := 3) (j := 4) rfl sc__law_some.nd (ja_cons (je_new (jl_list c.fr_list (ja_cons (je_pv 1) ja_nil))) (ja_cons (je_new (jl_lst ja_nil)) ja_nil)))
     (jss_cons (js_for (passes_of rfl) rfl (ji_range1 c.fr_range (ja_cons (je_draw drNextOk (ok__law_next c _) (hr.mono (by decide)) c.g__law_next c.F__law_next.kp (b__law_next c) (takes_of rfl rfl rfl rfl) (ja_cons (je_pv 0) (ja_cons (je_op op_addAll s_add (je_pv 2) je_int) ja_nil))) ja_nil)) (jg_name (i := 5) sc__law_some.nd rfl (by first | exact .inl rfl | exact .inr rfl))
      (jss_one (js_if (jt_cmp (op_neD hr.units) s_ne (nomark _) (je_pv 3) (je_ofL (jl_lst ja_nil)))
       (jss_one (js_expr (je_bm F.plainAttrs_list F.slot_list_append F.type_list_append mt_append m_append ty_lst (je_pv 4) (ja_cons (je_bm F.plainAttrs_list F.slot_list_pop F.type_list_pop mt_popAt m_popAt ty_lst (je_pv 3) (ja_cons (je_draw drNextOk (ok__law_next c _) (hr.mono (by decide)) c.g__law_next c.F__law_next.kp (b__law_next c) (takes_of rfl rfl rfl rfl) (ja_cons (je_pv 0) (ja_cons (je_callB call_len (c_len (X := _)) c.fr_len (ja_cons (je_pv 3) ja_nil)) ja_nil))) ja_nil)) ja_nil))))
       jss_nil)))
      (jss_fz 4 (jss_one (js_ret (je_callTy call_tuple_of c_tuple c.fr_tuple (ja_cons (je_callB (cr_sortD (u65 hr)) c_sorted c.fr_sorted (ja_cons (je_pv 4) ja_nil)) ja_nil)))))))
theorem sc_Island__cells : FnScope ["self", "found", "row", "text", "column", "sign"] ["self"] (defScope s_Island__cells) := ⟨rfl, rfl, rfl, by decide +kernel, rfl, by decide +kernel, by decide +kernel⟩
theorem b_Island__cells (c : Fx w K mg) : Binds K c.fd_Island__cells ["self"] [] := c.F_Island__cells.bindsN fun _ _ _ _ _ _ us hl => match us, hl with | [_], _ => rfl
theorem ok_Island__cells (c : Fx w K mg) (base : Heap) : FnOk P w K mg base (L2.CX P w) 1 (pgAt K "Island" "cells") c.fd_Island__cells ["self"] (spF K 1 f_Island__cells) := by
  refine (show FnOk P w K mg base (L2.CX P w) (0 + 1) (pgAt K "Island" "cells") c.fd_Island__cells ["self"] (spF K ["self"].length (runF ["self", "found", "row", "text", "column", "sign"].length m_Island__cells)) from jd (N := ["self", "found", "row", "text", "column", "sign"]) (ps := ["self"]) (k := 0) (ms := m_Island__cells) c.F_Island__cells sc_Island__cells fun cdv A outer s H E hr => ?_)
  unfold m_Island__cells
  exact
    (jss_cons (js_set (i := 1) sc_Island__cells.nd rfl (by first | exact .inl rfl | exact .inr rfl) (je_new (jl_lst ja_nil)))
     (jss_cons (js_for (passes_of rfl) rfl (ji_enum c.fr_enumerate (ja_cons (je_fld ["Island"] (by intro z hz; first | (have e : z = "Island" := by simpa using hz); subst e; exact ⟨c.cl_Island, c.na_Island_own_rows⟩) (je_pv 0)) ja_nil)) (jg_tup rfl (jgs_cons (jg_name (i := 2) sc_Island__cells.nd rfl (by first | exact .inl rfl | exact .inr rfl)) (jgs_cons (jg_name (i := 3) sc_Island__cells.nd rfl (by first | exact .inl rfl | exact .inr rfl)) jgs_nil)))
      (jss_one (js_expr (je_bm F.plainAttrs_list F.slot_list_extend F.type_list_extend mt_extend m_extend ty_lst (je_pv 1) (ja_cons (je_ofL (jl_lc [("column", 4), ("sign", 5)] rfl sc_Island__cells.nd (ji_enum c.fr_enumerate (ja_cons (je_pv 3) ja_nil)) (blkOk_by (by kernel_rfl)) ⟨_, nt_tup (nts_cons (nt_name 4) (nts_cons (nt_name 5) nts_nil)), fun _ _ _ _ _ => pg_tup rfl (pgs_cons (pg_name sc_Island__cells.nd rfl (by first | exact .inl rfl | exact .inr rfl)) (pgs_cons (pg_name sc_Island__cells.nd rfl (by first | exact .inl rfl | exact .inr rfl)) pgs_nil))⟩ (fun _ _ _ _ _ => jts_one (jt_cmp (op_neD hr.units) s_ne (nomark _) (je_pv 5) (je_gc c.gc_WATER))) (fun _ _ _ _ _ => (je_tup (ja_cons (je_pv 2) (ja_cons (je_pv 4) ja_nil)))))) ja_nil)))))
      (jss_fz 1 (jss_one (js_ret (je_pv 1))))))
theorem sc_Digger____init__ : FnScope ["self", "island", "rule"] ["self", "island", "rule"] (defScope s_Digger____init__) := ⟨rfl, rfl, rfl, by decide +kernel, rfl, by decide +kernel, by decide +kernel⟩
theorem b_Digger____init__ (c : Fx w K mg) : Binds K c.fd_Digger____init__ ["self", "island", "rule"] [] := c.F_Digger____init__.bindsN fun _ _ _ _ _ _ us hl => match us, hl with | [_, _, _], _ => rfl
theorem ok_Digger____init__ (c : Fx w K mg) (base : Heap) : FnOk P w K mg base (L2.CX P w) 3 (He.ma K (He.ga K "Digger") "__init__") c.fd_Digger____init__ ["self", "island", "rule"] (spG K 3 f_Digger____init__) := by
  refine (show FnOk P w K mg base (L2.CX P w) (2 + 1) (He.ma K (He.ga K "Digger") "__init__") c.fd_Digger____init__ ["self", "island", "rule"] (spG K ["self", "island", "rule"].length (runG ["self", "island", "rule"].length m_Digger____init__)) from jdG (N := ["self", "island", "rule"]) (ps := ["self", "island", "rule"]) (k := 2) (ms := m_Digger____init__) c.F_Digger____init__ sc_Digger____init__ fun cdv A outer s H E hr => ?_)
  unfold m_Digger____init__
  exact
    (jss_cons (js_fld ["Digger"] (by intro z hz; first | (have e : z = "Digger" := by simpa using hz); subst e; exact ⟨c.cl_Digger, c.na_Digger_cells_to_dig⟩) (je_pv 0) (je_prop c.cl_Island c.pr_Island_cells.choose_spec (ok_Island__cells c _) (hr.mono (by decide)) (b_Island__cells c) (je_pv 1)))
     (jss_cons (js_fld ["Digger"] (by intro z hz; first | (have e : z = "Digger" := by simpa using hz); subst e; exact ⟨c.cl_Digger, c.na_Digger_rule⟩) (je_pv 0) (je_pv 2))
      (jss_one (js_fld ["Digger"] (by intro z hz; first | (have e : z = "Digger" := by simpa using hz); subst e; exact ⟨c.cl_Digger, c.na_Digger_known⟩) (je_pv 0) (je_disp1 (u65 hr) (je_tup ja_nil) je_int)))))
theorem sc_told_of : FnScope ["rule", "cell", "place"] ["rule", "cell", "place"] (defScope s_told_of) := ⟨rfl, rfl, rfl, by decide +kernel, rfl, by decide +kernel, by decide +kernel⟩
theorem b_told_of (c : Fx w K mg) : Binds K c.fd_told_of ["rule", "cell", "place"] [] := c.F_told_of.bindsN fun _ _ _ _ _ _ us hl => match us, hl with | [_, _, _], _ => rfl
theorem ok_told_of (c : Fx w K mg) (base : Heap) : FnOk P w K mg base (L2.CX P w) 1 (He.ga K "told_of") c.fd_told_of ["rule", "cell", "place"] (spF K 3 f_told_of) := by
  refine (show FnOk P w K mg base (L2.CX P w) (0 + 1) (He.ga K "told_of") c.fd_told_of ["rule", "cell", "place"] (spF K ["rule", "cell", "place"].length (runF ["rule", "cell", "place"].length m_told_of)) from jd (N := ["rule", "cell", "place"]) (ps := ["rule", "cell", "place"]) (k := 0) (ms := m_told_of) c.F_told_of sc_told_of fun cdv A outer s H E hr => ?_)
  unfold m_told_of
  exact
    (jss_cons (js_if (jt_cmp (op_eqD hr.units) s_eq (nomark _) (je_pv 1) (je_pv 2))
     (jss_one (js_ret (je_gc c.gc_FOUND)))
     jss_nil)
     (jss_cons (js_if (jt_cmp (op_eqD hr.units) s_eq (nomark _) (je_ix (je_pv 0) je_int) (je_gc c.gc_PLAIN))
      (jss_one (js_ret (je_gc c.gc_EMPTY)))
      jss_nil)
      (jss_cons (js_if (jt_cmp (op_eqD hr.units) s_eq (nomark _) (je_ix (je_pv 0) je_int) (je_gc c.gc_NEARNESS))
       (jss_one (js_ret (je_if (jt_cmp op_le s_cmp (nomark _) (je_op op_addAll s_add (je_callB call_abs c_abs c.fr_abs (ja_cons (je_op op_subC s_sub (je_ix (je_pv 1) je_int) (je_ix (je_pv 2) je_int)) ja_nil)) (je_callB call_abs c_abs c.fr_abs (ja_cons (je_op op_subC s_sub (je_ix (je_pv 1) je_int) (je_ix (je_pv 2) je_int)) ja_nil))) (je_ix (je_pv 0) je_int)) (je_gc c.gc_NEARNESS) (je_gc c.gc_FAR))))
       jss_nil)
       (jss_cons (js_if (jt_cmp (op_eqD hr.units) s_eq (nomark _) (je_ix (je_pv 1) je_int) (je_ix (je_pv 2) je_int))
        (jss_one (js_ret (je_gc c.gc_LEVEL)))
        jss_nil)
        (jss_one (js_ret (je_if (jt_cmp op_lt s_cmp (nomark _) (je_ix (je_pv 2) je_int) (je_ix (je_pv 1) je_int)) (je_gc c.gc_NORTH) (je_gc c.gc_SOUTH))))))))
theorem sc_parted : FnScope ["places", "rule", "cell", "found", "place", "told"] ["places", "rule", "cell"] (defScope s_parted) := ⟨rfl, rfl, rfl, by decide +kernel, rfl, by decide +kernel, by decide +kernel⟩
theorem b_parted (c : Fx w K mg) : Binds K c.fd_parted ["places", "rule", "cell"] [] := c.F_parted.bindsN fun _ _ _ _ _ _ us hl => match us, hl with | [_, _, _], _ => rfl
theorem ok_parted (c : Fx w K mg) (base : Heap) : FnOk P w K mg base (L2.CX P w) 2 (He.ga K "parted") c.fd_parted ["places", "rule", "cell"] (spF K 3 f_parted) := by
  refine (show FnOk P w K mg base (L2.CX P w) (1 + 1) (He.ga K "parted") c.fd_parted ["places", "rule", "cell"] (spF K ["places", "rule", "cell"].length (runF ["places", "rule", "cell", "found", "place", "told"].length m_parted)) from jd (N := ["places", "rule", "cell", "found", "place", "told"]) (ps := ["places", "rule", "cell"]) (k := 1) (ms := m_parted) c.F_parted sc_parted fun cdv A outer s H E hr => ?_)
  unfold m_parted
  exact
    (jss_cons (js_set (i := 3) sc_parted.nd rfl (by first | exact .inl rfl | exact .inr rfl) je_dnewK)
     (jss_cons (js_for (passes_of rfl) rfl (ji_val (je_pv 0)) (jg_name (i := 4) sc_parted.nd rfl (by first | exact .inl rfl | exact .inr rfl))
      (jss_cons (js_set (i := 5) sc_parted.nd rfl (by first | exact .inl rfl | exact .inr rfl) (je_call (ok_told_of c _) (hr.mono (by decide)) c.g_told_of c.F_told_of.kp (b_told_of c) (takes_of rfl rfl rfl rfl) (ja_cons (je_pv 1) (ja_cons (je_pv 2) (ja_cons (je_pv 4) ja_nil))) (hla := (mCons_len (mCons_len (mCons_len mNil_len))))))
       (jss_one (js_if (jt_cmp (op_neD hr.units) s_ne (nomark _) (je_pv 5) (je_gc c.gc_FOUND))
        (jss_one (js_dput (u65 hr) (je_pv 3) (je_pv 5) (je_op op_addAll s_add (je_dget2 (u65 hr) (je_pv 3) (je_pv 5) (je_tup ja_nil)) (je_tup (ja_cons (je_pv 4) ja_nil)))))
        jss_nil))))
      (jss_fzD 3 (jss_one (js_ret (je_pv 3))))))
theorem sc_Digger__fewest : FnScope ["self", "places", "cell", "parts", "worst", "some"] ["self", "places"] (defScope s_Digger__fewest) := ⟨rfl, rfl, rfl, by decide +kernel, rfl, by decide +kernel, by decide +kernel⟩
theorem b_Digger__fewest (c : Fx w K mg) : Binds K c.fd_Digger__fewest ["self", "places"] [] := c.F_Digger__fewest.bindsN fun _ _ _ _ _ _ us hl => match us, hl with | [_, _], _ => rfl
theorem ok_Digger__fewest (c : Fx w K mg) (base : Heap) : ∀ n : Nat, FnOk P w K mg base (L2.CX P w) (3 + n) (He.ma K (He.ga K "Digger") "fewest") c.fd_Digger__fewest ["self", "places"] (spG K 2 (f_Digger__fewest n))
  | 0 => fnOk0G
  | n + 1 => by
    have F := ok_Digger__fewest c base n
    refine (show FnOk P w K mg base (L2.CX P w) ((3 + n) + 1) (He.ma K (He.ga K "Digger") "fewest") c.fd_Digger__fewest ["self", "places"] (spG K ["self", "places"].length (runG ["self", "places", "cell", "parts", "worst", "some"].length (r_Digger__fewest (f_Digger__fewest n)))) from jdG (N := ["self", "places", "cell", "parts", "worst", "some"]) (ps := ["self", "places"]) (k := (3 + n)) (ms := (r_Digger__fewest (f_Digger__fewest n))) c.F_Digger__fewest sc_Digger__fewest fun cdv A outer s H E hr => ?_)
    unfold r_Digger__fewest
    exact
      (jss_cons (js_if (jt_cmp (op_dnotin (u65 hr)) s_dnotin (by rfl) (je_pv 1) (je_fld ["Digger"] (by intro z hz; first | (have e : z = "Digger" := by simpa using hz); subst e; exact ⟨c.cl_Digger, c.na_Digger_known⟩) (je_pv 0)))
       (jss_cons (js_dput (u65 hr) (je_fld ["Digger"] (by intro z hz; first | (have e : z = "Digger" := by simpa using hz); subst e; exact ⟨c.cl_Digger, c.na_Digger_known⟩) (je_pv 0)) (je_pv 1) (je_callB call_len (c_len (X := _)) c.fr_len (ja_cons (je_pv 1) ja_nil)))
        (jss_one (js_for (passes_of rfl) rfl (ji_val (je_fld ["Digger"] (by intro z hz; first | (have e : z = "Digger" := by simpa using hz); subst e; exact ⟨c.cl_Digger, c.na_Digger_cells_to_dig⟩) (je_pv 0))) (jg_name (i := 2) sc_Digger__fewest.nd rfl (by first | exact .inl rfl | exact .inr rfl))
         (jss_cons (js_set (i := 3) sc_Digger__fewest.nd rfl (by first | exact .inl rfl | exact .inr rfl) (je_ofL (jl_vals rfl c.fr_list (je_call (ok_parted c _) (hr.mono (by omega)) c.g_parted c.F_parted.kp (b_parted c) (takes_of rfl rfl rfl rfl) (ja_cons (je_pv 1) (ja_cons (je_fld ["Digger"] (by intro z hz; first | (have e : z = "Digger" := by simpa using hz); subst e; exact ⟨c.cl_Digger, c.na_Digger_rule⟩) (je_pv 0)) (ja_cons (je_pv 2) ja_nil))) (hla := (mCons_len (mCons_len (mCons_len mNil_len))))))))
          (jss_one (js_if (jt_cmp (op_notInAll (u65 hr)) s_notIn (by rfl) (je_pv 1) (je_pv 3))
           (jss_cons (js_set (i := 4) sc_Digger__fewest.nd rfl (by first | exact .inl rfl | exact .inr rfl) (je_callB (cr_max rfl) c_max1 c.fr_max (ja_cons (je_op op_addAll s_add (je_ofL (jl_lst (ja_cons je_int ja_nil))) (je_ofL (jl_lc [("some", 5)] rfl sc_Digger__fewest.nd (ji_val (je_pv 3)) (blkOk_by (by kernel_rfl)) ⟨_, nt_name 5, fun _ _ _ _ _ => pg_name sc_Digger__fewest.nd rfl (by first | exact .inl rfl | exact .inr rfl)⟩ (fun _ _ _ _ _ => jts_nil) (fun _ _ _ _ _ => (je_methG (je_pv 0) c.cl_Digger c.me_Digger_fewest F (hr.mono (Nat.le_refl _)) (b_Digger__fewest c) takes0 (ja_cons (je_pv 5) ja_nil) (mCons_len mNil_len)))))) ja_nil)))
            (jss_one (js_dput (u65 hr) (je_fld ["Digger"] (by intro z hz; first | (have e : z = "Digger" := by simpa using hz); subst e; exact ⟨c.cl_Digger, c.na_Digger_known⟩) (je_pv 0)) (je_pv 1) (je_callB (call_min2 rfl) c_min2 c.fr_min (ja_cons (je_dget (u65 hr) (je_fld ["Digger"] (by intro z hz; first | (have e : z = "Digger" := by simpa using hz); subst e; exact ⟨c.cl_Digger, c.na_Digger_known⟩) (je_pv 0)) (je_pv 1)) (ja_cons (je_op op_addAll s_add je_int (je_pv 4)) ja_nil))))))
           jss_nil))))))
       jss_nil)
       (jss_one (js_ret (je_dget (u65 hr) (je_fld ["Digger"] (by intro z hz; first | (have e : z = "Digger" := by simpa using hz); subst e; exact ⟨c.cl_Digger, c.na_Digger_known⟩) (je_pv 0)) (je_pv 1)))))
theorem sc_Island____contains__ : FnScope ["self", "cell", "row", "column"] ["self", "cell"] (defScope s_Island____contains__) := ⟨rfl, rfl, rfl, by decide +kernel, rfl, by decide +kernel, by decide +kernel⟩
theorem b_Island____contains__ (c : Fx w K mg) : Binds K c.fd_Island____contains__ ["self", "cell"] [] := c.F_Island____contains__.bindsN fun _ _ _ _ _ _ us hl => match us, hl with | [_, _], _ => rfl
theorem ok_Island____contains__ (c : Fx w K mg) (base : Heap) : FnOk P w K mg base (L2.CX P w) 1 (He.ma K (He.ga K "Island") "__contains__") c.fd_Island____contains__ ["self", "cell"] (spF K 2 f_Island____contains__) := by
  refine (show FnOk P w K mg base (L2.CX P w) (0 + 1) (He.ma K (He.ga K "Island") "__contains__") c.fd_Island____contains__ ["self", "cell"] (spF K ["self", "cell"].length (runF ["self", "cell", "row", "column"].length m_Island____contains__)) from jd (N := ["self", "cell", "row", "column"]) (ps := ["self", "cell"]) (k := 0) (ms := m_Island____contains__) c.F_Island____contains__ sc_Island____contains__ fun cdv A outer s H E hr => ?_)
  unfold m_Island____contains__
  exact
    (jss_cons (js_asg (jg_tup rfl (jgs_cons (jg_name (i := 2) sc_Island____contains__.nd rfl (by first | exact .inl rfl | exact .inr rfl)) (jgs_cons (jg_name (i := 3) sc_Island____contains__.nd rfl (by first | exact .inl rfl | exact .inr rfl)) jgs_nil))) (je_pv 1))
     (jss_cons (js_if (jw_pt (jw_or (jt_not (jt_chain op_le s_cmp op_lt s_cmp je_int (je_pv 2) (je_callB call_len (c_len (X := _)) c.fr_len (ja_cons (je_fld ["Island"] (by intro z hz; first | (have e : z = "Island" := by simpa using hz); subst e; exact ⟨c.cl_Island, c.na_Island_own_rows⟩) (je_pv 0)) ja_nil)))) (jw_or1 (jt_not (jt_chain op_le s_cmp op_lt s_cmp je_int (je_pv 3) (je_callB call_len (c_len (X := _)) c.fr_len (ja_cons (je_ix (je_fld ["Island"] (by intro z hz; first | (have e : z = "Island" := by simpa using hz); subst e; exact ⟨c.cl_Island, c.na_Island_own_rows⟩) (je_pv 0)) je_int) ja_nil)))))))
      (jss_one (js_ret je_bl))
      jss_nil)
      (jss_one (js_ret (je_cmp (op_neD hr.units) s_ne (nomark _) (je_ix (je_ix (je_fld ["Island"] (by intro z hz; first | (have e : z = "Island" := by simpa using hz); subst e; exact ⟨c.cl_Island, c.na_Island_own_rows⟩) (je_pv 0)) (je_pv 2)) (je_pv 3)) (je_gc c.gc_WATER))))))
theorem sc_validate_cell : FnScope ["island", "cell"] ["island", "cell"] (defScope s_validate_cell) := ⟨rfl, rfl, rfl, by decide +kernel, rfl, by decide +kernel, by decide +kernel⟩
theorem b_validate_cell (c : Fx w K mg) : Binds K c.fd_validate_cell ["island", "cell"] [] := c.F_validate_cell.bindsN fun _ _ _ _ _ _ us hl => match us, hl with | [_, _], _ => rfl
theorem ok_validate_cell (c : Fx w K mg) (base : Heap) : FnOk P w K mg base (L2.CX P w) 2 (He.ga K "validate_cell") c.fd_validate_cell ["island", "cell"] (spF K 2 f_validate_cell) := by
  refine (show FnOk P w K mg base (L2.CX P w) (1 + 1) (He.ga K "validate_cell") c.fd_validate_cell ["island", "cell"] (spF K ["island", "cell"].length (runF ["island", "cell"].length m_validate_cell)) from jd (N := ["island", "cell"]) (ps := ["island", "cell"]) (k := 1) (ms := m_validate_cell) c.F_validate_cell sc_validate_cell fun cdv A outer s H E hr => ?_)
  unfold m_validate_cell
  exact
    (jss_one (js_if (jt_cmp (op_notInO c.me_Island___contains__ (ok_Island____contains__ c _) (hr.mono (by decide)) (b_Island____contains__ c)) s_inO (by rfl) (je_pv 1) (je_pv 0))
     (jss_one js_never)
     jss_nil))
theorem sc_is_number : FnScope ["value", "lowest", "highest"] ["value", "lowest", "highest"] (defScope s_is_number) := ⟨rfl, rfl, rfl, by decide +kernel, rfl, by decide +kernel, by decide +kernel⟩
theorem b_is_number (c : Fx w K mg) : Binds K c.fd_is_number ["value", "lowest", "highest"] [] := c.F_is_number.bindsN fun _ _ _ _ _ _ us hl => match us, hl with | [_, _, _], _ => rfl
theorem ok_is_number (c : Fx w K mg) (base : Heap) : FnOk P w K mg base (L2.CX P w) 1 (He.ga K "is_number") c.fd_is_number ["value", "lowest", "highest"] (spF K 3 f_is_number) := by
  refine (show FnOk P w K mg base (L2.CX P w) (0 + 1) (He.ga K "is_number") c.fd_is_number ["value", "lowest", "highest"] (spF K ["value", "lowest", "highest"].length (runF ["value", "lowest", "highest"].length m_is_number)) from jd (N := ["value", "lowest", "highest"]) (ps := ["value", "lowest", "highest"]) (k := 0) (ms := m_is_number) c.F_is_number sc_is_number fun cdv A outer s H E hr => ?_)
  unfold m_is_number
  exact
    (jss_one (js_ret (je_and (je_isi (b := "int") c.fr_isinstance c.fr_int (je_pv 0)) (je_and (je_not (je_isi (b := "bool") c.fr_isinstance c.fr_bool (je_pv 0))) (je_one (je_chain op_le s_cmp op_le s_cmp (je_pv 1) (je_pv 0) (je_pv 2)))))))
theorem sc_validate_rule : FnScope ["rule"] ["rule"] (defScope s_validate_rule) := ⟨rfl, rfl, rfl, by decide +kernel, rfl, by decide +kernel, by decide +kernel⟩
theorem b_validate_rule (c : Fx w K mg) : Binds K c.fd_validate_rule ["rule"] [] := c.F_validate_rule.bindsN fun _ _ _ _ _ _ us hl => match us, hl with | [_], _ => rfl
theorem ok_validate_rule (c : Fx w K mg) (base : Heap) : FnOk P w K mg base (L2.CX P w) 2 (He.ga K "validate_rule") c.fd_validate_rule ["rule"] (spF K 1 f_validate_rule) := by
  refine (show FnOk P w K mg base (L2.CX P w) (1 + 1) (He.ga K "validate_rule") c.fd_validate_rule ["rule"] (spF K ["rule"].length (runF ["rule"].length m_validate_rule)) from jd (N := ["rule"]) (ps := ["rule"]) (k := 1) (ms := m_validate_rule) c.F_validate_rule sc_validate_rule fun cdv A outer s H E hr => ?_)
  unfold m_validate_rule
  exact
    (jss_one (js_if (jw_pt (jw_and (jt_cmp (op_eqD hr.units) s_eq (nomark _) (je_ix (je_pv 0) je_int) (je_gc c.gc_NEARNESS)) (jw_and1 (jt_not (jt_val (je_call (ok_is_number c _) (hr.mono (by decide)) c.g_is_number c.F_is_number.kp (b_is_number c) (takes_of rfl rfl rfl rfl) (ja_cons (je_ix (je_pv 0) je_int) (ja_cons je_int (ja_cons (je_gc c.gc_MAX_FAR) ja_nil))) (hla := (mCons_len (mCons_len (mCons_len mNil_len))))))))))
     (jss_one js_never)
     jss_nil))
theorem sc_validate_places : FnScope ["island", "places", "rule", "place"] ["island", "places", "rule"] (defScope s_validate_places) := ⟨rfl, rfl, rfl, by decide +kernel, rfl, by decide +kernel, by decide +kernel⟩
theorem b_validate_places (c : Fx w K mg) : Binds K c.fd_validate_places ["island", "places", "rule"] [] := c.F_validate_places.bindsN fun _ _ _ _ _ _ us hl => match us, hl with | [_, _, _], _ => rfl
theorem ok_validate_places (c : Fx w K mg) (base : Heap) : FnOk P w K mg base (L2.CX P w) 3 (He.ga K "validate_places") c.fd_validate_places ["island", "places", "rule"] (spF K 3 f_validate_places) := by
  refine (show FnOk P w K mg base (L2.CX P w) (2 + 1) (He.ga K "validate_places") c.fd_validate_places ["island", "places", "rule"] (spF K ["island", "places", "rule"].length (runF ["island", "places", "rule", "place"].length m_validate_places)) from jd (N := ["island", "places", "rule", "place"]) (ps := ["island", "places", "rule"]) (k := 2) (ms := m_validate_places) c.F_validate_places sc_validate_places fun cdv A outer s H E hr => ?_)
  unfold m_validate_places
  exact
    (jss_cons (js_for (passes_of rfl) rfl (ji_val (je_pv 1)) (jg_name (i := 3) sc_validate_places.nd rfl (by first | exact .inl rfl | exact .inr rfl))
     (jss_one (js_expr (je_call (ok_validate_cell c _) (hr.mono (by decide)) c.g_validate_cell c.F_validate_cell.kp (b_validate_cell c) (takes_of rfl rfl rfl rfl) (ja_cons (je_pv 0) (ja_cons (je_pv 3) ja_nil)) (hla := (mCons_len (mCons_len mNil_len)))))))
     (jss_one (js_expr (je_call (ok_validate_rule c _) (hr.mono (by decide)) c.g_validate_rule c.F_validate_rule.kp (b_validate_rule c) (takes_of rfl rfl rfl rfl) (ja_cons (je_pv 2) ja_nil) (hla := (mCons_len mNil_len))))))
theorem sc_fewest_digs : FnScope ["island", "places", "rule"] ["island", "places", "rule"] (defScope s_fewest_digs) := ⟨rfl, rfl, rfl, by decide +kernel, rfl, by decide +kernel, by decide +kernel⟩
theorem b_fewest_digs (c : Fx w K mg) : Binds K c.fd_fewest_digs ["island", "places", "rule"] [] := c.F_fewest_digs.bindsN fun _ _ _ _ _ _ us hl => match us, hl with | [_, _, _], _ => rfl
theorem ok_fewest_digs (c : Fx w K mg) (base : Heap) : FnOk P w K mg base (L2.CX P w) 14 (He.ga K "fewest_digs") c.fd_fewest_digs ["island", "places", "rule"] (spF K 3 f_fewest_digs) := by
  refine (show FnOk P w K mg base (L2.CX P w) (13 + 1) (He.ga K "fewest_digs") c.fd_fewest_digs ["island", "places", "rule"] (spF K ["island", "places", "rule"].length (runF ["island", "places", "rule"].length m_fewest_digs)) from jd (N := ["island", "places", "rule"]) (ps := ["island", "places", "rule"]) (k := 13) (ms := m_fewest_digs) c.F_fewest_digs sc_fewest_digs fun cdv A outer s H E hr => ?_)
  unfold m_fewest_digs
  exact
    (jss_cons (js_expr (je_call (ok_validate_places c _) (hr.mono (by decide)) c.g_validate_places c.F_validate_places.kp (b_validate_places c) (takes_of rfl rfl rfl rfl) (ja_cons (je_pv 0) (ja_cons (je_pv 1) (ja_cons (je_pv 2) ja_nil))) (hla := (mCons_len (mCons_len (mCons_len mNil_len))))))
     (jss_cons (js_if (jt_cmp op_gt s_cmp (nomark _) (je_callB call_len (c_len (X := _)) c.fr_len (ja_cons (je_pv 1) ja_nil)) (je_gc c.gc_MAX_DUG))
      (jss_one js_never)
      jss_nil)
      (jss_one (js_ret (je_methG (je_makeG c.mk_Digger (ok_Digger____init__ c _) (hr.mono (by decide)) c.g_Digger (b_Digger____init__ c) (takes_of rfl rfl rfl rfl) (ja_cons (je_pv 0) (ja_cons (je_pv 2) ja_nil)) (mCons_len (mCons_len mNil_len))) c.cl_Digger c.me_Digger_fewest (ok_Digger__fewest c _ 10) (hr.mono (by decide)) (b_Digger__fewest c) (takes_of rfl rfl rfl rfl) (ja_cons (je_callTy call_tuple_of c_tuple c.fr_tuple (ja_cons (je_pv 1) ja_nil)) ja_nil) (mCons_len mNil_len))))))
theorem sc_hint : FnScope ["rule", "cell", "place"] ["rule", "cell", "place"] (defScope s_hint) := ⟨rfl, rfl, rfl, by decide +kernel, rfl, by decide +kernel, by decide +kernel⟩
theorem b_hint (c : Fx w K mg) : Binds K c.fd_hint ["rule", "cell", "place"] [] := c.F_hint.bindsN fun _ _ _ _ _ _ us hl => match us, hl with | [_, _, _], _ => rfl
theorem ok_hint (c : Fx w K mg) (base : Heap) : FnOk P w K mg base (L2.CX P w) 3 (He.ga K "hint") c.fd_hint ["rule", "cell", "place"] (spF K 3 f_hint) := by
  refine (show FnOk P w K mg base (L2.CX P w) (2 + 1) (He.ga K "hint") c.fd_hint ["rule", "cell", "place"] (spF K ["rule", "cell", "place"].length (runF ["rule", "cell", "place"].length m_hint)) from jd (N := ["rule", "cell", "place"]) (ps := ["rule", "cell", "place"]) (k := 2) (ms := m_hint) c.F_hint sc_hint fun cdv A outer s H E hr => ?_)
  unfold m_hint
  exact
    (jss_cons (js_expr (je_call (ok_validate_rule c _) (hr.mono (by decide)) c.g_validate_rule c.F_validate_rule.kp (b_validate_rule c) (takes_of rfl rfl rfl rfl) (ja_cons (je_pv 0) ja_nil) (hla := (mCons_len mNil_len))))
     (jss_one (js_ret (je_call (ok_told_of c _) (hr.mono (by decide)) c.g_told_of c.F_told_of.kp (b_told_of c) (takes_of rfl rfl rfl rfl) (ja_cons (je_pv 0) (ja_cons (je_pv 1) (ja_cons (je_pv 2) ja_nil))) (hla := (mCons_len (mCons_len (mCons_len mNil_len))))))))
theorem sc_remaining : FnScope ["places", "rule", "cell", "told", "place"] ["places", "rule", "cell", "told"] (defScope s_remaining) := ⟨rfl, rfl, rfl, by decide +kernel, rfl, by decide +kernel, by decide +kernel⟩
theorem b_remaining (c : Fx w K mg) : Binds K c.fd_remaining ["places", "rule", "cell", "told"] [] := c.F_remaining.bindsN fun _ _ _ _ _ _ us hl => match us, hl with | [_, _, _, _], _ => rfl
theorem ok_remaining (c : Fx w K mg) (base : Heap) : FnOk P w K mg base (L2.CX P w) 2 (He.ga K "remaining") c.fd_remaining ["places", "rule", "cell", "told"] (spF K 4 f_remaining) := by
  refine (show FnOk P w K mg base (L2.CX P w) (1 + 1) (He.ga K "remaining") c.fd_remaining ["places", "rule", "cell", "told"] (spF K ["places", "rule", "cell", "told"].length (runF ["places", "rule", "cell", "told", "place"].length m_remaining)) from jd (N := ["places", "rule", "cell", "told", "place"]) (ps := ["places", "rule", "cell", "told"]) (k := 1) (ms := m_remaining) c.F_remaining sc_remaining fun cdv A outer s H E hr => ?_)
  unfold m_remaining
  exact
    (jss_one (js_ret (je_callTy call_tuple_of c_tuple c.fr_tuple (ja_cons (je_ofL (jl_lc [("place", 4)] rfl sc_remaining.nd (ji_val (je_pv 0)) (blkOk_by (by kernel_rfl)) ⟨_, nt_name 4, fun _ _ _ _ _ => pg_name sc_remaining.nd rfl (by first | exact .inl rfl | exact .inr rfl)⟩ (fun _ _ _ _ _ => jts_one (jt_cmp (op_eqD hr.units) s_eq (nomark _) (je_call (ok_told_of c _) (hr.mono (by decide)) c.g_told_of c.F_told_of.kp (b_told_of c) takes0 (ja_cons (je_pv 1) (ja_cons (je_pv 2) (ja_cons (je_pv 4) ja_nil))) (hla := (mCons_len (mCons_len (mCons_len mNil_len))))) (je_pv 3))) (fun _ _ _ _ _ => (je_pv 4)))) ja_nil))))
theorem sc_validate_digs : FnScope ["island", "rule", "digs", "cell", "told", "index"] ["island", "rule", "digs"] (defScope s_validate_digs) := ⟨rfl, rfl, rfl, by decide +kernel, rfl, by decide +kernel, by decide +kernel⟩
theorem b_validate_digs (c : Fx w K mg) : Binds K c.fd_validate_digs ["island", "rule", "digs"] [] := c.F_validate_digs.bindsN fun _ _ _ _ _ _ us hl => match us, hl with | [_, _, _], _ => rfl
theorem ok_validate_digs (c : Fx w K mg) (base : Heap) : FnOk P w K mg base (L2.CX P w) 3 (He.ga K "validate_digs") c.fd_validate_digs ["island", "rule", "digs"] (spF K 3 f_validate_digs) := by
  refine (show FnOk P w K mg base (L2.CX P w) (2 + 1) (He.ga K "validate_digs") c.fd_validate_digs ["island", "rule", "digs"] (spF K ["island", "rule", "digs"].length (runF ["island", "rule", "digs", "cell", "told", "index"].length m_validate_digs)) from jd (N := ["island", "rule", "digs", "cell", "told", "index"]) (ps := ["island", "rule", "digs"]) (k := 2) (ms := m_validate_digs) c.F_validate_digs sc_validate_digs fun cdv A outer s H E hr => ?_)
  unfold m_validate_digs
  exact
    (jss_cons (js_for (passes_of rfl) rfl (ji_val (je_pv 2)) (jg_tup rfl (jgs_cons (jg_name (i := 3) sc_validate_digs.nd rfl (by first | exact .inl rfl | exact .inr rfl)) (jgs_cons (jg_name (i := 4) sc_validate_digs.nd rfl (by first | exact .inl rfl | exact .inr rfl)) jgs_nil)))
     (jss_one (js_expr (je_call (ok_validate_cell c _) (hr.mono (by decide)) c.g_validate_cell c.F_validate_cell.kp (b_validate_cell c) (takes_of rfl rfl rfl rfl) (ja_cons (je_pv 0) (ja_cons (je_pv 3) ja_nil)) (hla := (mCons_len (mCons_len mNil_len)))))))
     (jss_one (js_for (passes_of rfl) rfl (ji_enum c.fr_enumerate (ja_cons (je_pv 2) ja_nil)) (jg_tup rfl (jgs_cons (jg_name (i := 5) sc_validate_digs.nd rfl (by first | exact .inl rfl | exact .inr rfl)) (jgs_cons (jg_tup rfl (jgs_cons (jg_name (i := 3) sc_validate_digs.nd rfl (by first | exact .inl rfl | exact .inr rfl)) (jgs_cons (jg_name (i := 4) sc_validate_digs.nd rfl (by first | exact .inl rfl | exact .inr rfl)) jgs_nil))) jgs_nil)))
      (jss_one (js_if (jt_cmp (op_notInAll (u65 hr)) s_notIn (by rfl) (je_pv 4) (je_tab c.tb_WORDS (je_ix (je_pv 1) je_int)))
       (jss_one js_never)
       jss_nil)))))
theorem sc_left_after : FnScope ["island", "places", "rule", "digs", "cell", "told"] ["island", "places", "rule", "digs"] (defScope s_left_after) := ⟨rfl, rfl, rfl, by decide +kernel, rfl, by decide +kernel, by decide +kernel⟩
theorem b_left_after (c : Fx w K mg) : Binds K c.fd_left_after ["island", "places", "rule", "digs"] [] := c.F_left_after.bindsN fun _ _ _ _ _ _ us hl => match us, hl with | [_, _, _, _], _ => rfl
theorem ok_left_after (c : Fx w K mg) (base : Heap) : FnOk P w K mg base (L2.CX P w) 4 (He.ga K "left_after") c.fd_left_after ["island", "places", "rule", "digs"] (spF K 4 f_left_after) := by
  refine (show FnOk P w K mg base (L2.CX P w) (3 + 1) (He.ga K "left_after") c.fd_left_after ["island", "places", "rule", "digs"] (spF K ["island", "places", "rule", "digs"].length (runF ["island", "places", "rule", "digs", "cell", "told"].length m_left_after)) from jd (N := ["island", "places", "rule", "digs", "cell", "told"]) (ps := ["island", "places", "rule", "digs"]) (k := 3) (ms := m_left_after) c.F_left_after sc_left_after fun cdv A outer s H E hr => ?_)
  unfold m_left_after
  exact
    (jss_cons (js_expr (je_call (ok_validate_places c _) (hr.mono (by decide)) c.g_validate_places c.F_validate_places.kp (b_validate_places c) (takes_of rfl rfl rfl rfl) (ja_cons (je_pv 0) (ja_cons (je_pv 1) (ja_cons (je_pv 2) ja_nil))) (hla := (mCons_len (mCons_len (mCons_len mNil_len))))))
     (jss_cons (js_expr (je_call (ok_validate_digs c _) (hr.mono (by decide)) c.g_validate_digs c.F_validate_digs.kp (b_validate_digs c) (takes_of rfl rfl rfl rfl) (ja_cons (je_pv 0) (ja_cons (je_pv 2) (ja_cons (je_pv 3) ja_nil))) (hla := (mCons_len (mCons_len (mCons_len mNil_len))))))
      (jss_cons (js_for (passes_of rfl) rfl (ji_val (je_pv 3)) (jg_tup rfl (jgs_cons (jg_name (i := 4) sc_left_after.nd rfl (by first | exact .inl rfl | exact .inr rfl)) (jgs_cons (jg_name (i := 5) sc_left_after.nd rfl (by first | exact .inl rfl | exact .inr rfl)) jgs_nil)))
       (jss_one (js_set (i := 1) sc_left_after.nd rfl (by first | exact .inl rfl | exact .inr rfl) (je_call (ok_remaining c _) (hr.mono (by decide)) c.g_remaining c.F_remaining.kp (b_remaining c) (takes_of rfl rfl rfl rfl) (ja_cons (je_pv 1) (ja_cons (je_pv 2) (ja_cons (je_pv 4) (ja_cons (je_pv 5) ja_nil)))) (hla := (mCons_len (mCons_len (mCons_len (mCons_len mNil_len)))))))))
       (jss_one (js_ret (je_ofL (jl_list c.fr_list (ja_cons (je_pv 1) ja_nil))))))))
theorem sc_next_dig : FnScope ["island", "places", "rule", "best", "found", "cell", "worst", "some"] ["island", "places", "rule"] (defScope s_next_dig) := ⟨rfl, rfl, rfl, by decide +kernel, rfl, by decide +kernel, by decide +kernel⟩
theorem b_next_dig (c : Fx w K mg) : Binds K c.fd_next_dig ["island", "places", "rule"] [] := c.F_next_dig.bindsN fun _ _ _ _ _ _ us hl => match us, hl with | [_, _, _], _ => rfl
theorem ok_next_dig (c : Fx w K mg) (base : Heap) : FnOk P w K mg base (L2.CX P w) 4 (He.ga K "next_dig") c.fd_next_dig ["island", "places", "rule"] (spF K 3 f_next_dig) := by
  refine (show FnOk P w K mg base (L2.CX P w) (3 + 1) (He.ga K "next_dig") c.fd_next_dig ["island", "places", "rule"] (spF K ["island", "places", "rule"].length (runF ["island", "places", "rule", "best", "found", "cell", "worst", "some"].length m_next_dig)) from jd (N := ["island", "places", "rule", "best", "found", "cell", "worst", "some"]) (ps := ["island", "places", "rule"]) (k := 3) (ms := m_next_dig) c.F_next_dig sc_next_dig fun cdv A outer s H E hr => ?_)
  unfold m_next_dig
  exact
    (jss_cons (js_expr (je_call (ok_validate_places c _) (hr.mono (by decide)) c.g_validate_places c.F_validate_places.kp (b_validate_places c) (takes_of rfl rfl rfl rfl) (ja_cons (je_pv 0) (ja_cons (je_pv 1) (ja_cons (je_pv 2) ja_nil))) (hla := (mCons_len (mCons_len (mCons_len mNil_len))))))
     (jss_cons (js_asgT rfl (jgs_cons (jg_name (i := 3) sc_next_dig.nd rfl (by first | exact .inl rfl | exact .inr rfl)) (jgs_cons (jg_name (i := 4) sc_next_dig.nd rfl (by first | exact .inl rfl | exact .inr rfl)) jgs_nil)) (ja_cons je_non (ja_cons je_non ja_nil)))
      (jss_cons (js_for (passes_of rfl) rfl (ji_val (je_prop c.cl_Island c.pr_Island_cells.choose_spec (ok_Island__cells c _) (hr.mono (by decide)) (b_Island__cells c) (je_pv 0))) (jg_name (i := 5) sc_next_dig.nd rfl (by first | exact .inl rfl | exact .inr rfl))
       (jss_cons (js_set (i := 6) sc_next_dig.nd rfl (by first | exact .inl rfl | exact .inr rfl) (je_callB (cr_max rfl) c_max1 c.fr_max (ja_cons (je_op op_addAll s_add (je_ofL (jl_lst (ja_cons je_int ja_nil))) (je_ofL (jl_lc [("some", 7)] rfl sc_next_dig.nd (ji_vals (je_call (ok_parted c _) (hr.mono (by decide)) c.g_parted c.F_parted.kp (b_parted c) (takes_of rfl rfl rfl rfl) (ja_cons (je_pv 1) (ja_cons (je_pv 2) (ja_cons (je_pv 5) ja_nil))) (hla := (mCons_len (mCons_len (mCons_len mNil_len)))))) (blkOk_by (by kernel_rfl)) ⟨_, nt_name 7, fun _ _ _ _ _ => pg_name sc_next_dig.nd rfl (by first | exact .inl rfl | exact .inr rfl)⟩ (fun _ _ _ _ _ => jts_nil) (fun _ _ _ _ _ => (je_callB call_len (c_len (X := _)) c.fr_len (ja_cons (je_pv 7) ja_nil)))))) ja_nil)))
        (jss_one (js_if (jw_pt (jw_or (jt_cmp op_isN s_isN (nomark _) (je_pv 3) je_non) (jw_or1 (jt_cmp op_lt s_cmp (nomark _) (je_pv 6) (je_pv 3)))))
         (jss_one (js_par (i := 3) (j := 4) rfl sc_next_dig.nd (ja_cons (je_pv 6) (ja_cons (je_pv 5) ja_nil))))
         jss_nil))))
       (jss_one (js_ret (je_pv 4))))))
theorem sc_law : FnScope ["_law_script", "_law_h", "_law_rows", "_law_row", "_law_island", "_law_cells_here", "_law_low", "_law_rule", "_law_k", "_law_cell", "_law_place", "_law_some_here", "_law_worst", "_law_parts", "_law_many", "_law_digs", "_law_due", "_law_column", "_law_word", "_law_one", "_law_dig"] ["_law_script"] (defScope s_law) := ⟨rfl, rfl, rfl, by decide +kernel, rfl, by decide +kernel, by decide +kernel⟩
theorem b_law (c : Fx w K mg) : Binds K c.fd_law ["_law_script"] [] := c.F_law.bindsN fun _ _ _ _ _ _ us hl => match us, hl with | [_], _ => rfl
theorem ok_law (c : Fx w K mg) (base : Heap) : FnOk P w K mg base (L2.CX P w) 15 (He.ga K "law") c.fd_law ["_law_script"] (spF K 1 f_law) := by
  refine (show FnOk P w K mg base (L2.CX P w) (14 + 1) (He.ga K "law") c.fd_law ["_law_script"] (spF K ["_law_script"].length (runF ["_law_script", "_law_h", "_law_rows", "_law_row", "_law_island", "_law_cells_here", "_law_low", "_law_rule", "_law_k", "_law_cell", "_law_place", "_law_some_here", "_law_worst", "_law_parts", "_law_many", "_law_digs", "_law_due", "_law_column", "_law_word", "_law_one", "_law_dig"].length m_law)) from jd (N := ["_law_script", "_law_h", "_law_rows", "_law_row", "_law_island", "_law_cells_here", "_law_low", "_law_rule", "_law_k", "_law_cell", "_law_place", "_law_some_here", "_law_worst", "_law_parts", "_law_many", "_law_digs", "_law_due", "_law_column", "_law_word", "_law_one", "_law_dig"]) (ps := ["_law_script"]) (k := 14) (ms := m_law) c.F_law sc_law fun cdv A outer s H E hr => ?_)
  unfold m_law
  exact
    (jss_cons (js_set (i := 1) sc_law.nd rfl (by first | exact .inl rfl | exact .inr rfl) (je_begun bgOk_law_mix (ok__law_mix c _) (hr.mono (by decide)) c.g__law_mix c.F__law_mix.kp (b__law_mix c) (takes_of rfl rfl rfl rfl) (ja_cons (je_pv 0) (ja_cons je_int ja_nil))))
     (jss_cons (js_set (i := 2) sc_law.nd rfl (by first | exact .inl rfl | exact .inr rfl) (je_new (jl_lst ja_nil)))
      (jss_cons (js_for (passes_of rfl) rfl (ji_range1 c.fr_range (ja_cons je_int ja_nil)) (jg_name (i := 3) sc_law.nd rfl (by first | exact .inl rfl | exact .inr rfl))
       (jss_one (js_expr (je_bm F.plainAttrs_list F.slot_list_append F.type_list_append mt_append m_append ty_lst (je_pv 2) (ja_cons (je_bm F.plainAttrs_str F.slot_str_join F.type_str_join mt_join m_join ty_str je_str (ja_cons (je_ofL (jl_lc [("_law_column", 17)] rfl sc_law.nd (ji_range1 c.fr_range (ja_cons je_int ja_nil)) (blkOk_by (by kernel_rfl)) ⟨_, nt_name 17, fun _ _ _ _ _ => pg_name sc_law.nd rfl (by first | exact .inl rfl | exact .inr rfl)⟩ (fun _ _ _ _ _ => jts_nil) (fun _ _ _ _ _ => (je_ix (je_ofL (jl_lst (ja_cons je_str (ja_cons je_str (ja_cons je_str (ja_cons je_str (ja_cons je_str (ja_cons je_str ja_nil)))))))) (je_draw drNextOk (ok__law_next c _) (hr.mono (by decide)) c.g__law_next c.F__law_next.kp (b__law_next c) takes0 (ja_cons (je_pv 1) (ja_cons je_int ja_nil))))))) ja_nil)) ja_nil)))))
       (jss_cons (js_sub (je_pv 2) je_int (je_op op_addAll s_add je_str (je_sl (je_ix (je_pv 2) je_int) (jo_some je_int) jo_none)))
        (jss_fz 2 (jss_cons (js_par (i := 4) (j := 5) rfl sc_law.nd (ja_cons (je_make c.mk_Island (ok_Island____init__ c _) (hr.mono (by decide)) c.g_Island (b_Island____init__ c) (takes_of rfl rfl rfl rfl) (ja_cons (je_callTy call_tuple_of c_tuple c.fr_tuple (ja_cons (je_pv 2) ja_nil)) ja_nil) (mCons_len mNil_len)) (ja_cons (je_call (ok__law_cells c _) (hr.mono (by decide)) c.g__law_cells c.F__law_cells.kp (b__law_cells c) (takes_of rfl rfl rfl rfl) (ja_cons (je_pv 2) ja_nil) (hla := (mCons_len mNil_len))) ja_nil)))
         (jss_cons (js_setLc (i := 6) [("_law_cell", 9)] false rfl sc_law.nd rfl rfl rfl (ji_val (je_pv 5)) (blkOk_by (by kernel_rfl)) ⟨_, nt_name 9, fun _ _ _ _ _ => pg_name sc_law.nd rfl (by first | exact .inl rfl | exact .inr rfl)⟩ (fun _ _ _ _ _ => jts_one (jt_cmp op_gt s_cmp (nomark _) (je_ix (je_pv 9) je_int) (je_op op_addAll s_add je_int (je_draw drNextOk (ok__law_next c _) (hr.mono (by decide)) c.g__law_next c.F__law_next.kp (b__law_next c) takes0 (ja_cons (je_pv 1) (ja_cons je_int ja_nil)))))) (fun _ _ _ _ _ => (je_pv 9)))
          (jss_cons (js_for (passes_of rfl) rfl (ji_val (je_tup (ja_cons (je_tup (ja_cons je_str ja_nil)) (ja_cons (je_tup (ja_cons je_str ja_nil)) (ja_cons (je_tup (ja_cons je_str (ja_cons (je_op op_addAll s_add je_int (je_draw drNextOk (ok__law_next c _) (hr.mono (by decide)) c.g__law_next c.F__law_next.kp (b__law_next c) (takes_of rfl rfl rfl rfl) (ja_cons (je_pv 1) (ja_cons je_int ja_nil)))) ja_nil))) ja_nil))))) (jg_name (i := 7) sc_law.nd rfl (by first | exact .inl rfl | exact .inr rfl))
           (jss_cons (js_for (passes_of rfl) rfl (ji_range1 c.fr_range (ja_cons je_int ja_nil)) (jg_name (i := 8) sc_law.nd rfl (by first | exact .inl rfl | exact .inr rfl))
            (jss_cons (js_par (i := 9) (j := 10) rfl sc_law.nd (ja_cons (je_ix (je_pv 5) (je_draw drNextOk (ok__law_next c _) (hr.mono (by decide)) c.g__law_next c.F__law_next.kp (b__law_next c) (takes_of rfl rfl rfl rfl) (ja_cons (je_pv 1) (ja_cons (je_callB call_len (c_len (X := _)) c.fr_len (ja_cons (je_pv 5) ja_nil)) ja_nil)))) (ja_cons (je_ix (je_pv 5) (je_draw drNextOk (ok__law_next c _) (hr.mono (by decide)) c.g__law_next c.F__law_next.kp (b__law_next c) (takes_of rfl rfl rfl rfl) (ja_cons (je_pv 1) (ja_cons (je_callB call_len (c_len (X := _)) c.fr_len (ja_cons (je_pv 5) ja_nil)) ja_nil)))) ja_nil)))
             (jss_one (js_if (jt_not (jt_val (je_call (ok__law_alike c _ 6) (hr.mono (by decide)) c.g__law_alike c.F__law_alike.kp (b__law_alike c) (takes_of rfl rfl rfl rfl) (ja_cons (je_call (ok_hint c _) (hr.mono (by decide)) c.g_hint c.F_hint.kp (b_hint c) (takes_of rfl rfl rfl rfl) (ja_cons (je_pv 7) (ja_cons (je_pv 9) (ja_cons (je_pv 10) ja_nil))) (hla := (mCons_len (mCons_len (mCons_len mNil_len))))) (ja_cons (je_call (ok__law_hint c _) (hr.mono (by decide)) c.g__law_hint c.F__law_hint.kp (b__law_hint c) (takes_of rfl rfl rfl rfl) (ja_cons (je_pv 7) (ja_cons (je_pv 9) (ja_cons (je_pv 10) ja_nil))) (hla := (mCons_len (mCons_len (mCons_len mNil_len))))) ja_nil)) (hla := (mCons_len (mCons_len mNil_len))))))
              (jss_one (js_ret je_bl))
              jss_nil))))
            (jss_cons (js_set (i := 11) sc_law.nd rfl (by first | exact .inl rfl | exact .inr rfl) (je_call (ok__law_some c _) (hr.mono (by decide)) c.g__law_some c.F__law_some.kp (b__law_some c) (takes_of rfl rfl rfl rfl) (ja_cons (je_pv 1) (ja_cons (je_ix (je_ofL (jl_lst (ja_cons (je_pv 6) (ja_cons (je_pv 5) ja_nil)))) (je_draw drNextOk (ok__law_next c _) (hr.mono (by decide)) c.g__law_next c.F__law_next.kp (b__law_next c) (takes_of rfl rfl rfl rfl) (ja_cons (je_pv 1) (ja_cons je_int ja_nil)))) (ja_cons je_int ja_nil))) (hla := (mCons_len (mCons_len (mCons_len mNil_len))))))
             (jss_cons (js_set (i := 12) sc_law.nd rfl (by first | exact .inl rfl | exact .inr rfl) (je_new (jl_lst ja_nil)))
              (jss_cons (js_for (passes_of rfl) rfl (ji_val (je_pv 5)) (jg_name (i := 9) sc_law.nd rfl (by first | exact .inl rfl | exact .inr rfl))
               (jss_cons (js_set (i := 13) sc_law.nd rfl (by first | exact .inl rfl | exact .inr rfl) (je_call (ok__law_split c _) (hr.mono (by decide)) c.g__law_split c.F__law_split.kp (b__law_split c) (takes_of rfl rfl rfl rfl) (ja_cons (je_pv 7) (ja_cons (je_pv 9) (ja_cons (je_pv 11) ja_nil))) (hla := (mCons_len (mCons_len (mCons_len mNil_len))))))
                (jss_one (js_expr (je_bm F.plainAttrs_list F.slot_list_append F.type_list_append mt_append m_append ty_lst (je_pv 12) (ja_cons (je_callB (cr_max rfl) c_max1 c.fr_max (ja_cons (je_op op_addAll s_add (je_ofL (jl_lst (ja_cons je_int ja_nil))) (je_ofL (jl_lc [("_law_word", 18)] rfl sc_law.nd (ji_keysK (je_pv 13)) (blkOk_by (by kernel_rfl)) ⟨_, nt_name 18, fun _ _ _ _ _ => pg_name sc_law.nd rfl (by first | exact .inl rfl | exact .inr rfl)⟩ (fun _ _ _ _ _ => jts_nil) (fun _ _ _ _ _ => (je_callB call_len (c_len (X := _)) c.fr_len (ja_cons (je_dget (u65 hr) (je_pv 13) (je_pv 18)) ja_nil)))))) ja_nil)) ja_nil))))))
               (jss_fz 12 (jss_cons (js_if (jt_not (jt_val (je_call (ok__law_alike c _ 6) (hr.mono (by decide)) c.g__law_alike c.F__law_alike.kp (b__law_alike c) (takes_of rfl rfl rfl rfl) (ja_cons (je_call (ok_next_dig c _) (hr.mono (by decide)) c.g_next_dig c.F_next_dig.kp (b_next_dig c) (takes_of rfl rfl rfl rfl) (ja_cons (je_pv 4) (ja_cons (je_pv 11) (ja_cons (je_pv 7) ja_nil))) (hla := (mCons_len (mCons_len (mCons_len mNil_len))))) (ja_cons (je_ix (je_pv 5) (je_bm F.plainAttrs_list F.slot_list_index F.type_list_index mt_index m_indexI ty_lst (je_pv 12) (ja_cons (je_callB (cr_min rfl) c_min1 c.fr_min (ja_cons (je_pv 12) ja_nil)) ja_nil))) ja_nil)) (hla := (mCons_len (mCons_len mNil_len))))))
                (jss_one (js_ret je_bl))
                jss_nil)
                (jss_cons (js_if (jt_not (jt_val (je_call (ok__law_alike c _ 6) (hr.mono (by decide)) c.g__law_alike c.F__law_alike.kp (b__law_alike c) (takes_of rfl rfl rfl rfl) (ja_cons (je_call (ok_fewest_digs c _) (hr.mono (by decide)) c.g_fewest_digs c.F_fewest_digs.kp (b_fewest_digs c) (takes_of rfl rfl rfl rfl) (ja_cons (je_pv 4) (ja_cons (je_pv 11) (ja_cons (je_pv 7) ja_nil))) (hla := (mCons_len (mCons_len (mCons_len mNil_len))))) (ja_cons (je_callG (ok__law_least c _ 10) (hr.mono (by decide)) c.g__law_least c.F__law_least.kp (b__law_least c) (takes_of rfl rfl rfl rfl) (ja_cons (je_pv 7) (ja_cons (je_pv 5) (ja_cons (je_pv 11) (ja_cons je_dnewT ja_nil)))) (hla := (mCons_len (mCons_len (mCons_len (mCons_len mNil_len)))))) ja_nil)) (hla := (mCons_len (mCons_len mNil_len))))))
                 (jss_one (js_ret je_bl))
                 jss_nil)
                 (jss_cons (js_set (i := 10) sc_law.nd rfl (by first | exact .inl rfl | exact .inr rfl) (je_ix (je_pv 5) (je_draw drNextOk (ok__law_next c _) (hr.mono (by decide)) c.g__law_next c.F__law_next.kp (b__law_next c) (takes_of rfl rfl rfl rfl) (ja_cons (je_pv 1) (ja_cons (je_callB call_len (c_len (X := _)) c.fr_len (ja_cons (je_pv 5) ja_nil)) ja_nil)))))
                  (jss_cons (js_set (i := 14) sc_law.nd rfl (by first | exact .inl rfl | exact .inr rfl) (je_op op_addAll s_add (je_call (ok__law_some c _) (hr.mono (by decide)) c.g__law_some c.F__law_some.kp (b__law_some c) (takes_of rfl rfl rfl rfl) (ja_cons (je_pv 1) (ja_cons (je_pv 5) (ja_cons je_int ja_nil))) (hla := (mCons_len (mCons_len (mCons_len mNil_len))))) (je_tup (ja_cons (je_pv 10) ja_nil))))
                   (jss_cons (js_asgT rfl (jgs_cons (jg_name (i := 14) sc_law.nd rfl (by first | exact .inl rfl | exact .inr rfl)) (jgs_cons (jg_name (i := 15) sc_law.nd rfl (by first | exact .inl rfl | exact .inr rfl)) jgs_nil)) (ja_cons (je_callTy call_tuple_of c_tuple c.fr_tuple (ja_cons (je_sortSet rfl (u65 hr) c.fr_sorted c.fr_set (ja_cons (je_pv 14) ja_nil)) ja_nil)) (ja_cons (je_new (jl_lst ja_nil)) ja_nil)))
                    (jss_cons (js_for (passes_of rfl) rfl (ji_range1 c.fr_range (ja_cons je_int ja_nil)) (jg_name (i := 8) sc_law.nd rfl (by first | exact .inl rfl | exact .inr rfl))
                     (jss_cons (js_set (i := 9) sc_law.nd rfl (by first | exact .inl rfl | exact .inr rfl) (je_ix (je_pv 5) (je_draw drNextOk (ok__law_next c _) (hr.mono (by decide)) c.g__law_next c.F__law_next.kp (b__law_next c) (takes_of rfl rfl rfl rfl) (ja_cons (je_pv 1) (ja_cons (je_callB call_len (c_len (X := _)) c.fr_len (ja_cons (je_pv 5) ja_nil)) ja_nil)))))
                      (jss_one (js_expr (je_bm F.plainAttrs_list F.slot_list_append F.type_list_append mt_append m_append ty_lst (je_pv 15) (ja_cons (je_tup (ja_cons (je_pv 9) (ja_cons (je_call (ok__law_hint c _) (hr.mono (by decide)) c.g__law_hint c.F__law_hint.kp (b__law_hint c) (takes_of rfl rfl rfl rfl) (ja_cons (je_pv 7) (ja_cons (je_pv 9) (ja_cons (je_pv 10) ja_nil))) (hla := (mCons_len (mCons_len (mCons_len mNil_len))))) ja_nil))) ja_nil))))))
                     (jss_fz 15 (jss_cons (js_setLc (i := 16) [("_law_one", 19)] false rfl sc_law.nd rfl rfl rfl (ji_val (je_pv 14)) (blkOk_by (by kernel_rfl)) ⟨_, nt_name 19, fun _ _ _ _ _ => pg_name sc_law.nd rfl (by first | exact .inl rfl | exact .inr rfl)⟩ (fun _ _ _ _ _ => jts_one (jt_cmp (op_eqD hr.units) s_eq (nomark _) (je_ofL (jl_lc [("_law_dig", 20)] rfl sc_law.nd (ji_val (je_pv 15)) (blkOk_by (by kernel_rfl)) ⟨_, nt_name 20, fun _ _ _ _ _ => pg_name sc_law.nd rfl (by first | exact .inl rfl | exact .inr rfl)⟩ (fun _ _ _ _ _ => jts_one (jt_cmp (op_neD hr.units) s_ne (nomark _) (je_call (ok__law_hint c _) (hr.mono (by decide)) c.g__law_hint c.F__law_hint.kp (b__law_hint c) takes0 (ja_cons (je_pv 7) (ja_cons (je_ix (je_pv 20) je_int) (ja_cons (je_pv 19) ja_nil))) (hla := (mCons_len (mCons_len (mCons_len mNil_len))))) (je_ix (je_pv 20) je_int))) (fun _ _ _ _ _ => (je_pv 20)))) (je_ofL (jl_lst ja_nil)))) (fun _ _ _ _ _ => (je_pv 19)))
                      (jss_one (js_if (jt_not (jt_val (je_call (ok__law_alike c _ 6) (hr.mono (by decide)) c.g__law_alike c.F__law_alike.kp (b__law_alike c) (takes_of rfl rfl rfl rfl) (ja_cons (je_call (ok_left_after c _) (hr.mono (by decide)) c.g_left_after c.F_left_after.kp (b_left_after c) (takes_of rfl rfl rfl rfl) (ja_cons (je_pv 4) (ja_cons (je_pv 14) (ja_cons (je_pv 7) (ja_cons (je_pv 15) ja_nil)))) (hla := (mCons_len (mCons_len (mCons_len (mCons_len mNil_len)))))) (ja_cons (je_pv 16) ja_nil)) (hla := (mCons_len (mCons_len mNil_len))))))
                       (jss_one (js_ret je_bl))
                       jss_nil))))))))))))))))
           (jss_one (js_ret je_bl))))))))))
end K90
set_option Elab.async false
set_option linter.all false
set_option maxRecDepth 100000
set_option maxHeartbeats 2000000
namespace En
open PySem PySem.Spec PyProof.Rows L2
theorem walk_ofW {l : PySem.W.OpenLaw} {n k : Nat} {q : Program} {loose : List Str} {XP : (Str → Option Value) → Heap → Prop} {YP : World → Heap → Prop} {d : DefRec} {x : Str} {mf : MF}
    (hn : l.most = some n) (hn2 : n ≤ sizeLine) (hdf : d.params.defaults = []) (hr : Room k callerA)
    (F : ∀ (w : World) (mg : Str → Option Value) (fa : Addr) (h : Heap), YP w h → h.Ns mainGlobals mg → mg d.name = some (.ref fa) →
      ∃ (K : PySem.W.Frag) (fd : FuncData), K.In h ∧ (∀ (s : Shared) (u : Value), BindsTo s fd ⟨[u], []⟩ [(x, u)]) ∧
        ∀ base : Heap, K.In base → base.Ns mainGlobals mg → FnOk l.prog w K mg base (L2.CX l.prog w) k fa fd [x] (spF K 1 mf))
    (hlaw : ∀ ns : List Int, ns.length ≤ n → ∃ t, mf [.d (.scr ns)] box0 = .ok (.d (.bl true)) t) :
    PySem.W.WalkO q loose XP YP l.row.toRowW d [] (fun f vs => PySem.call f vs) := by
  refine Att.attach_call hn hdf fun w s₀ s₁ mg mb fa o pm cd doc a vs ns G Y ho hd hcd hmg hobj hints hlen hg => ?_
  obtain ⟨K, fd, KX, hb, hF⟩ := F w mg fa _ Y G.T.g hmg
  refine law_call KX G.T.g G.T.b G.T.builtins G.T.nolimit hg hobj hints (Nat.le_trans hlen hn2) hr hF hb (fun H hO hS => ?_) fun H e s' h => ?_
  · obtain ⟨t, e⟩ := hlaw ns hlen
    have rt : RelT K ⟨[], [], none⟩ ⟨[], box0⟩ H := by
      refine ⟨fun a ha => (by cases ha), rfl, fun i j a h => ?_, fun a h => (by cases h), fun n c h => ?_, rfl, fun b l h => (by cases h)⟩
      · simp at h
      · simp at h
    refine ⟨⟨[], [], none⟩, box0, [.d (.scr ns)], rfl, rfl, rt, .cons (Rep.scr ?_) .nil, ?_⟩
    · have e0 : Fz ⟨[], [], none⟩ H = H := by
        funext b
        unfold Fz
        refine if_neg ?_
        rintro (h | ⟨x, l, h, _⟩ | h)
        · cases h
        · cases h
        · cases h
      rw [e0]
      exact hS
    · rw [e]
      intro w' H' x _ _ rx
      cases rx
      rfl
  · obtain ⟨_, _, _, _, _, _, _, _, _, _, _, _, z⟩ := h
    exact z.elim
end En
set_option Elab.async false
set_option linter.all false
set_option maxRecDepth 100000
set_option maxHeartbeats 0
namespace K90
open PySem PySem.Spec PyProof.Rows L2 En
def fn : List DefX := [
  ⟨fun K => He.ma K (He.ga K "Island") "__init__", "__init__", "Island.__init__", defArgs s_Island____init__, defBody s_Island____init__, defScope s_Island____init__, [], []⟩,
  ⟨fun K => He.ga K "_law_alike", "_law_alike", "_law_alike", defArgs s__law_alike, defBody s__law_alike, defScope s__law_alike, [], []⟩,
  ⟨fun K => He.ga K "_law_cells", "_law_cells", "_law_cells", defArgs s__law_cells, defBody s__law_cells, defScope s__law_cells, [], []⟩,
  ⟨fun K => He.ga K "_law_hint", "_law_hint", "_law_hint", defArgs s__law_hint, defBody s__law_hint, defScope s__law_hint, [], []⟩,
  ⟨fun K => He.ga K "_law_split", "_law_split", "_law_split", defArgs s__law_split, defBody s__law_split, defScope s__law_split, [], []⟩,
  ⟨fun K => He.ga K "_law_least", "_law_least", "_law_least", defArgs s__law_least, defBody s__law_least, defScope s__law_least, [], []⟩,
  ⟨fun K => He.ga K "_law_mix", "_law_mix", "_law_mix", defArgs s__law_mix, defBody s__law_mix, defScope s__law_mix, [], []⟩,
  ⟨fun K => He.ga K "_law_next", "_law_next", "_law_next", defArgs s__law_next, defBody s__law_next, defScope s__law_next, [], []⟩,
  ⟨fun K => He.ga K "_law_some", "_law_some", "_law_some", defArgs s__law_some, defBody s__law_some, defScope s__law_some, [], []⟩,
  ⟨fun K => pgAt K "Island" "cells", "cells", "Island.cells", defArgs s_Island__cells, defBody s_Island__cells, defScope s_Island__cells, [], []⟩,
  ⟨fun K => He.ma K (He.ga K "Digger") "__init__", "__init__", "Digger.__init__", defArgs s_Digger____init__, defBody s_Digger____init__, defScope s_Digger____init__, [], []⟩,
  ⟨fun K => He.ga K "told_of", "told_of", "told_of", defArgs s_told_of, defBody s_told_of, defScope s_told_of, [], []⟩,
  ⟨fun K => He.ga K "parted", "parted", "parted", defArgs s_parted, defBody s_parted, defScope s_parted, [], []⟩,
  ⟨fun K => He.ma K (He.ga K "Digger") "fewest", "fewest", "Digger.fewest", defArgs s_Digger__fewest, defBody s_Digger__fewest, defScope s_Digger__fewest, [], []⟩,
  ⟨fun K => He.ma K (He.ga K "Island") "__contains__", "__contains__", "Island.__contains__", defArgs s_Island____contains__, defBody s_Island____contains__, defScope s_Island____contains__, [], []⟩,
  ⟨fun K => He.ga K "validate_cell", "validate_cell", "validate_cell", defArgs s_validate_cell, defBody s_validate_cell, defScope s_validate_cell, [], []⟩,
  ⟨fun K => He.ga K "is_number", "is_number", "is_number", defArgs s_is_number, defBody s_is_number, defScope s_is_number, [], []⟩,
  ⟨fun K => He.ga K "validate_rule", "validate_rule", "validate_rule", defArgs s_validate_rule, defBody s_validate_rule, defScope s_validate_rule, [], []⟩,
  ⟨fun K => He.ga K "validate_places", "validate_places", "validate_places", defArgs s_validate_places, defBody s_validate_places, defScope s_validate_places, [], []⟩,
  ⟨fun K => He.ga K "fewest_digs", "fewest_digs", "fewest_digs", defArgs s_fewest_digs, defBody s_fewest_digs, defScope s_fewest_digs, [], []⟩,
  ⟨fun K => He.ga K "hint", "hint", "hint", defArgs s_hint, defBody s_hint, defScope s_hint, [], []⟩,
  ⟨fun K => He.ga K "remaining", "remaining", "remaining", defArgs s_remaining, defBody s_remaining, defScope s_remaining, [], []⟩,
  ⟨fun K => He.ga K "validate_digs", "validate_digs", "validate_digs", defArgs s_validate_digs, defBody s_validate_digs, defScope s_validate_digs, [], []⟩,
  ⟨fun K => He.ga K "left_after", "left_after", "left_after", defArgs s_left_after, defBody s_left_after, defScope s_left_after, [], []⟩,
  ⟨fun K => He.ga K "next_dig", "next_dig", "next_dig", defArgs s_next_dig, defBody s_next_dig, defScope s_next_dig, [], []⟩,
  ⟨fun K => He.ga K "law", "law", "law", defArgs s_law, defBody s_law, defScope s_law, [], []⟩]
def fa : List He.Fa := [.glo "_law_mix", .glo "_law_next", .glo "Island", .glo "_law_cells", .glo "hint", .glo "_law_hint", .glo "_law_alike", .glo "_law_some", .glo "_law_split", .glo "next_dig", .glo "fewest_digs", .glo "_law_least", .glo "left_after", .glo "validate_places", .glo "Digger", .glo "parted", .glo "told_of", .glo "validate_cell", .glo "validate_rule", .glo "is_number", .glo "validate_digs", .glo "remaining", .glo "law", .free "range", .free "tuple", .free "len", .free "max", .free "min", .free "sorted", .free "set", .free "enumerate", .free "isinstance", .free "dict", .free "list", .free "str", .free "int", .free "bool", .free "abs", .cls "Island", .cls "Digger", .noat "Island" "own_rows", .noat "Digger" "cells_to_dig", .noat "Digger" "rule", .noat "Digger" "known", .mkr "Island", .mkr "Digger", .meth "Digger" "fewest", .meth "Island" "__contains__"]
def xbs : List (PySem.W.Frag → Bool) := [fun K => globB K "MAX_SIZE" d_MAX_SIZE, fun K => globB K "LAND" d_LAND, fun K => globB K "WATER" d_WATER, fun K => globB K "LETTERS" d_LETTERS, fun K => globB K "MAX_DUG" d_MAX_DUG, fun K => globB K "FOUND" d_FOUND, fun K => globB K "PLAIN" d_PLAIN, fun K => globB K "EMPTY" d_EMPTY, fun K => globB K "NEARNESS" d_NEARNESS, fun K => globB K "FAR" d_FAR, fun K => globB K "LEVEL" d_LEVEL, fun K => globB K "NORTH" d_NORTH, fun K => globB K "SOUTH" d_SOUTH, fun K => globB K "MAX_FAR" d_MAX_FAR, fun K => tabB K "WORDS" t_WORDS, fun K => propB K "Island" "cells"]
def xb (K : PySem.W.Frag) : Bool := xbs.all fun p => p K
def ts : List He.Tab := [(fun K => He.ga K "WORDS", ["plain", "rows", "near"])]
abbrev rowX : PySem.W.OpenRow := PySem.W.OpenLaw.row PySem.Challenge.rw_oldmap_k90_whole_digs_on_great_islands
abbrev hk : PySem.W.Hook := hookX 5 fa fn ts xb
def ob (s : PySem.W.SharedT) : AlX := obsXG 5 fa fn ts xb (HandSHeadRun.getT s)
theorem ob_eq (s : PySem.W.SharedT) : ob s = hk.obs s.abs := obsXG_eq (HandSHeadRun.getT_eq s)
def loose0 : List PySem.Str := [("_wall" : PySem.Str), ("MapError" : PySem.Str), ("InvalidIsland" : PySem.Str), ("UnknownCell" : PySem.Str), ("TooMany" : PySem.Str), ("InvalidRule" : PySem.Str), ("InvalidDig" : PySem.Str), ("LAND" : PySem.Str), ("WATER" : PySem.Str), ("LETTERS" : PySem.Str), ("MAX_SIZE" : PySem.Str), ("is_number" : PySem.Str), ("Island" : PySem.Str), ("validate_cell" : PySem.Str), ("MAX_FAR" : PySem.Str), ("PLAIN" : PySem.Str), ("ROWS" : PySem.Str), ("NEARNESS" : PySem.Str), ("FOUND" : PySem.Str), ("EMPTY" : PySem.Str)]
def loose1 : List PySem.Str := [("NORTH" : PySem.Str), ("SOUTH" : PySem.Str), ("LEVEL" : PySem.Str), ("FAR" : PySem.Str), ("WORDS" : PySem.Str), ("MAX_DUG" : PySem.Str), ("validate_rule" : PySem.Str), ("hint" : PySem.Str), ("told_of" : PySem.Str), ("validate_places" : PySem.Str), ("validate_digs" : PySem.Str), ("remaining" : PySem.Str), ("left_after" : PySem.Str), ("parted" : PySem.Str), ("next_dig" : PySem.Str), ("Digger" : PySem.Str), ("fewest_digs" : PySem.Str), ("_law_mix" : PySem.Str), ("_law_next" : PySem.Str), ("_law_alike" : PySem.Str)]
def loose2 : List PySem.Str := [("_law_cells" : PySem.Str), ("_law_hint" : PySem.Str), ("_law_some" : PySem.Str), ("_law_split" : PySem.Str), ("_law_least" : PySem.Str)]
abbrev loose : List PySem.Str := loose0 ++ loose1 ++ loose2
noncomputable def fx {w : World} {K : PySem.W.Frag} {h : Heap} {mg : Str → Option Value} (X : K.In h) (G : h.Ns mainGlobals mg) (c : SaysX fa fn ts xb w K) : Fx w K mg where
  fd_Island____init__ := (c.def_ 0).choose
  F_Island____init__ := (c.def_ 0).choose_spec
  fd__law_alike := (c.def_ 1).choose
  F__law_alike := (c.def_ 1).choose_spec
  fd__law_cells := (c.def_ 2).choose
  F__law_cells := (c.def_ 2).choose_spec
  fd__law_hint := (c.def_ 3).choose
  F__law_hint := (c.def_ 3).choose_spec
  fd__law_split := (c.def_ 4).choose
  F__law_split := (c.def_ 4).choose_spec
  fd__law_least := (c.def_ 5).choose
  F__law_least := (c.def_ 5).choose_spec
  fd__law_mix := (c.def_ 6).choose
  F__law_mix := (c.def_ 6).choose_spec
  fd__law_next := (c.def_ 7).choose
  F__law_next := (c.def_ 7).choose_spec
  fd__law_some := (c.def_ 8).choose
  F__law_some := (c.def_ 8).choose_spec
  fd_Island__cells := (c.def_ 9).choose
  F_Island__cells := (c.def_ 9).choose_spec
  fd_Digger____init__ := (c.def_ 10).choose
  F_Digger____init__ := (c.def_ 10).choose_spec
  fd_told_of := (c.def_ 11).choose
  F_told_of := (c.def_ 11).choose_spec
  fd_parted := (c.def_ 12).choose
  F_parted := (c.def_ 12).choose_spec
  fd_Digger__fewest := (c.def_ 13).choose
  F_Digger__fewest := (c.def_ 13).choose_spec
  fd_Island____contains__ := (c.def_ 14).choose
  F_Island____contains__ := (c.def_ 14).choose_spec
  fd_validate_cell := (c.def_ 15).choose
  F_validate_cell := (c.def_ 15).choose_spec
  fd_is_number := (c.def_ 16).choose
  F_is_number := (c.def_ 16).choose_spec
  fd_validate_rule := (c.def_ 17).choose
  F_validate_rule := (c.def_ 17).choose_spec
  fd_validate_places := (c.def_ 18).choose
  F_validate_places := (c.def_ 18).choose_spec
  fd_fewest_digs := (c.def_ 19).choose
  F_fewest_digs := (c.def_ 19).choose_spec
  fd_hint := (c.def_ 20).choose
  F_hint := (c.def_ 20).choose_spec
  fd_remaining := (c.def_ 21).choose
  F_remaining := (c.def_ 21).choose_spec
  fd_validate_digs := (c.def_ 22).choose
  F_validate_digs := (c.def_ 22).choose_spec
  fd_left_after := (c.def_ 23).choose
  F_left_after := (c.def_ 23).choose_spec
  fd_next_dig := (c.def_ 24).choose
  F_next_dig := (c.def_ 24).choose_spec
  fd_law := (c.def_ 25).choose
  F_law := (c.def_ 25).choose_spec
  g__law_mix := He.glo_ok X G (c.fact 0 (f := .glo "_law_mix") rfl)
  g__law_next := He.glo_ok X G (c.fact 1 (f := .glo "_law_next") rfl)
  g_Island := He.glo_ok X G (c.fact 2 (f := .glo "Island") rfl)
  g__law_cells := He.glo_ok X G (c.fact 3 (f := .glo "_law_cells") rfl)
  g_hint := He.glo_ok X G (c.fact 4 (f := .glo "hint") rfl)
  g__law_hint := He.glo_ok X G (c.fact 5 (f := .glo "_law_hint") rfl)
  g__law_alike := He.glo_ok X G (c.fact 6 (f := .glo "_law_alike") rfl)
  g__law_some := He.glo_ok X G (c.fact 7 (f := .glo "_law_some") rfl)
  g__law_split := He.glo_ok X G (c.fact 8 (f := .glo "_law_split") rfl)
  g_next_dig := He.glo_ok X G (c.fact 9 (f := .glo "next_dig") rfl)
  g_fewest_digs := He.glo_ok X G (c.fact 10 (f := .glo "fewest_digs") rfl)
  g__law_least := He.glo_ok X G (c.fact 11 (f := .glo "_law_least") rfl)
  g_left_after := He.glo_ok X G (c.fact 12 (f := .glo "left_after") rfl)
  g_validate_places := He.glo_ok X G (c.fact 13 (f := .glo "validate_places") rfl)
  g_Digger := He.glo_ok X G (c.fact 14 (f := .glo "Digger") rfl)
  g_parted := He.glo_ok X G (c.fact 15 (f := .glo "parted") rfl)
  g_told_of := He.glo_ok X G (c.fact 16 (f := .glo "told_of") rfl)
  g_validate_cell := He.glo_ok X G (c.fact 17 (f := .glo "validate_cell") rfl)
  g_validate_rule := He.glo_ok X G (c.fact 18 (f := .glo "validate_rule") rfl)
  g_is_number := He.glo_ok X G (c.fact 19 (f := .glo "is_number") rfl)
  g_validate_digs := He.glo_ok X G (c.fact 20 (f := .glo "validate_digs") rfl)
  g_remaining := He.glo_ok X G (c.fact 21 (f := .glo "remaining") rfl)
  fr_range := He.free_ok X G (c.fact 23 (f := .free "range") rfl)
  fr_tuple := He.free_ok X G (c.fact 24 (f := .free "tuple") rfl)
  fr_len := He.free_ok X G (c.fact 25 (f := .free "len") rfl)
  fr_max := He.free_ok X G (c.fact 26 (f := .free "max") rfl)
  fr_min := He.free_ok X G (c.fact 27 (f := .free "min") rfl)
  fr_sorted := He.free_ok X G (c.fact 28 (f := .free "sorted") rfl)
  fr_set := He.free_ok X G (c.fact 29 (f := .free "set") rfl)
  fr_enumerate := He.free_ok X G (c.fact 30 (f := .free "enumerate") rfl)
  fr_isinstance := He.free_ok X G (c.fact 31 (f := .free "isinstance") rfl)
  fr_dict := He.free_ok X G (c.fact 32 (f := .free "dict") rfl)
  fr_list := He.free_ok X G (c.fact 33 (f := .free "list") rfl)
  fr_str := He.free_ok X G (c.fact 34 (f := .free "str") rfl)
  fr_int := He.free_ok X G (c.fact 35 (f := .free "int") rfl)
  fr_bool := He.free_ok X G (c.fact 36 (f := .free "bool") rfl)
  fr_abs := He.free_ok X G (c.fact 37 (f := .free "abs") rfl)
  gc_MAX_SIZE := globB_ok X G (all_at c.x 0 (x := fun K => globB K "MAX_SIZE" d_MAX_SIZE) rfl)
  gc_LAND := globB_ok X G (all_at c.x 1 (x := fun K => globB K "LAND" d_LAND) rfl)
  gc_WATER := globB_ok X G (all_at c.x 2 (x := fun K => globB K "WATER" d_WATER) rfl)
  gc_LETTERS := globB_ok X G (all_at c.x 3 (x := fun K => globB K "LETTERS" d_LETTERS) rfl)
  gc_MAX_DUG := globB_ok X G (all_at c.x 4 (x := fun K => globB K "MAX_DUG" d_MAX_DUG) rfl)
  gc_FOUND := globB_ok X G (all_at c.x 5 (x := fun K => globB K "FOUND" d_FOUND) rfl)
  gc_PLAIN := globB_ok X G (all_at c.x 6 (x := fun K => globB K "PLAIN" d_PLAIN) rfl)
  gc_EMPTY := globB_ok X G (all_at c.x 7 (x := fun K => globB K "EMPTY" d_EMPTY) rfl)
  gc_NEARNESS := globB_ok X G (all_at c.x 8 (x := fun K => globB K "NEARNESS" d_NEARNESS) rfl)
  gc_FAR := globB_ok X G (all_at c.x 9 (x := fun K => globB K "FAR" d_FAR) rfl)
  gc_LEVEL := globB_ok X G (all_at c.x 10 (x := fun K => globB K "LEVEL" d_LEVEL) rfl)
  gc_NORTH := globB_ok X G (all_at c.x 11 (x := fun K => globB K "NORTH" d_NORTH) rfl)
  gc_SOUTH := globB_ok X G (all_at c.x 12 (x := fun K => globB K "SOUTH" d_SOUTH) rfl)
  gc_MAX_FAR := globB_ok X G (all_at c.x 13 (x := fun K => globB K "MAX_FAR" d_MAX_FAR) rfl)
  tb_WORDS := tabB_ok X G (all_at c.x 14 (x := fun K => tabB K "WORDS" t_WORDS) rfl) (c.tab 0 (t := (fun K => He.ga K "WORDS", ["plain", "rows", "near"])) rfl)
  cl_Island := He.cls_ok (c.fact 38 (f := .cls "Island") rfl)
  cl_Digger := He.cls_ok (c.fact 39 (f := .cls "Digger") rfl)
  na_Island_own_rows := He.noat_ok (c.fact 40 (f := .noat "Island" "own_rows") rfl)
  na_Digger_cells_to_dig := He.noat_ok (c.fact 41 (f := .noat "Digger" "cells_to_dig") rfl)
  na_Digger_rule := He.noat_ok (c.fact 42 (f := .noat "Digger" "rule") rfl)
  na_Digger_known := He.noat_ok (c.fact 43 (f := .noat "Digger" "known") rfl)
  mk_Island := He.mkr_ok (c.fact 44 (f := .mkr "Island") rfl)
  mk_Digger := He.mkr_ok (c.fact 45 (f := .mkr "Digger") rfl)
  me_Digger_fewest := He.meth_ok (c.fact 46 (f := .meth "Digger" "fewest") rfl)
  me_Island___contains__ := He.meth_ok (c.fact 47 (f := .meth "Island" "__contains__") rfl)
  pr_Island_cells := propB_ok (all_at c.x 15 (x := fun K => propB K "Island" "cells") rfl)
theorem facts {w : World} {K : PySem.W.Frag} {h : Heap} {mg : Str → Option Value} {f : Addr} (X : K.In h) (G : h.Ns mainGlobals mg) (hfa : mg ("law" : Str) = some (.ref f)) (c : SaysX fa fn ts xb w K) :
    ∃ fd : FuncData, (∀ (s : Shared) (v : Value), BindsTo s fd ⟨[v], []⟩ [("_law_script", v)]) ∧ ∀ base : Heap, FnOk P w K mg base (L2.CX P w) 15 f fd ["_law_script"] (spF K 1 f_law) := by
  have e := hfa.symm.trans (He.glo_ok X G (c.fact 22 (f := .glo "law") rfl))
  cases e
  have b := FunD.bindsA (ps := ["_law_script"]) (fx X G c).F_law fun _ _ _ _ _ _ us hl => match us, hl with | [_], _ => rfl
  exact ⟨_, fun s v => b s [v] rfl, fun base => ok_law (fx X G c) base⟩
end K90
set_option Elab.async false
set_option linter.all false
set_option maxRecDepth 100000
set_option maxHeartbeats 2000000
namespace En
open PySem PySem.Spec PyProof.Rows L2
theorem lcM_filter {α : Type} {f : Val → Rho → Option Rho} {tt : ME Bool} {te : ME Val} {ρ : Rho} {t : T} (enc : α → Val) (p : α → Bool) (g : α → Val) : ∀ (xs : List α) (acc : List Val),
    (∀ x ∈ xs, ∃ ρ', f (enc x) ρ = some ρ' ∧ tt ρ' t = .ok (p x) t ∧ (p x = true → te ρ' t = .ok (g x) t)) → acc.length + xs.length ≤ lim → lcM f tt te ρ (xs.map enc) acc t = .ok (acc ++ (xs.filter p).map g) t
  | [], acc, _, _ => by simp [lcM]
  | x :: xs, acc, h, hl => by
    obtain ⟨ρ', e1, e2, e3⟩ := h x (List.mem_cons_self ..)
    have hl' : acc.length + (xs.length + 1) ≤ lim := hl
    rw [List.map_cons]
    unfold lcM
    rw [e1]
    show (tt ρ' t).bindN _ = _
    rw [e2]
    show (if p x = true then _ else _) = _
    cases hp : p x with
    | true =>
      rw [if_pos rfl, e3 hp]
      show (if acc.length < lim then _ else _) = _
      rw [if_pos (by omega), lcM_filter enc p g xs (acc ++ [g x]) (fun y hy => h y (List.mem_cons_of_mem _ hy)) (by simp only [List.length_append, List.length_cons, List.length_nil]; omega)]
      rw [List.filter_cons_of_pos hp]
      simp
    | false =>
      rw [if_neg (by decide), lcM_filter enc p g xs acc (fun y hy => h y (List.mem_cons_of_mem _ hy)) (by omega)]
      rw [List.filter_cons_of_neg (by simp [hp])]
theorem forM_fold {α β : Type} {f : Val → Rho → Option Rho} {b : MS} (enc : α → Val) (step : β → α → β) (S : β → Rho → Prop) (t : T) : ∀ (xs : List α) (s : β) (ρ : Rho), S s ρ →
    (∀ x s ρ, x ∈ xs → S s ρ → ∃ ρ' ρ'', f (enc x) ρ = some ρ' ∧ b ρ' t = .nx ρ'' t ∧ S (step s x) ρ'') → ∃ ρ', forM f b (xs.map enc) ρ t = .nx ρ' t ∧ S (xs.foldl step s) ρ'
  | [], s, ρ, h, _ => ⟨ρ, rfl, h⟩
  | x :: xs, s, ρ, h, hs => by
    obtain ⟨ρ', ρ'', e1, e2, h'⟩ := hs x s ρ (List.mem_cons_self ..) h
    obtain ⟨ρ3, e3, h3⟩ := forM_fold enc step S t xs (step s x) ρ'' h' fun y s ρ hy => hs y s ρ (List.mem_cons_of_mem _ hy)
    refine ⟨ρ3, ?_, h3⟩
    rw [List.map_cons]
    unfold forM
    rw [e1]
    show turnS (b ρ' t) _ = _
    rw [e2]
    exact e3
theorem ixs_ok {x : Str} {i : Int} {t : T} (hl : x.length ≤ lim) (h0 : 0 ≤ i) (h : i < x.cps.toList.length) : fIx (.d (.str x)) (.d (.int i)) t = .ok (.d (.str ⟨#[x.cps.toList.getD i.toNat 0]⟩)) t := by
  show (if x.length ≤ lim then _ else _) = _
  rw [if_pos hl]
  show (match atI x.cps.toList i with | some c => _ | none => _) = _
  rw [atI_of h0 h]
  have h3 : i.toNat < x.cps.toList.length := by omega
  rw [List.getD_eq_getElem?_getD, List.getElem?_eq_getElem h3]
  rfl
theorem len_tup {ds : List D} {t : T} : fLenB [.d (.tup ds)] t = .ok (.d (.int (ds.length : Int))) t := by
  show retI _ _ = _
  rw [List.length_map]
  rfl
theorem len_lst {ds : List D} {t : T} : fLenB [.d (.lst ds)] t = .ok (.d (.int (ds.length : Int))) t := by
  show retI _ _ = _
  rw [List.length_map]
  rfl
theorem len_str {x : Str} {t : T} (h : x.length ≤ lim) : fLenB [.d (.str x)] t = .ok (.d (.int (x.length : Int))) t := by
  show (if x.length ≤ lim then _ else _) = _
  rw [if_pos h]
  rfl
theorem told_ok (r : Rule) (c p : Int × Int) : PyData.strOk (told r c p) = true := by
  unfold told
  split
  · decide +kernel
  · split
    · decide +kernel
    · split <;> decide +kernel
    · split
      · decide +kernel
      · split <;> decide +kernel
def islD (rows : List Str) : D := .ins "Island" [("own_rows", .tup (rows.map D.str))]
theorem isl_rows (rows : List Str) (t : T) : fFld ["Island"] "own_rows" (.d (islD rows)) t = .ok (.d (.tup (rows.map D.str))) t := by
  unfold fFld fldOf islD
  have h1 : List.lookup ("own_rows" : Str) [(("own_rows" : Str), D.tup (rows.map D.str))] = some (D.tup (rows.map D.str)) := by
    rw [List.lookup_cons]
    rw [show ((("own_rows" : Str) == ("own_rows" : Str)) = true) from by decide]
  have h2 : [("Island" : Str)].contains ("Island" : Str) = true := by decide
  simp only [h1, Option.map_some, h2, if_true]
theorem val_of {d : D} {y : PyData} {t : T} (h1 : toPy d = some y) (h2 : SeqAt.shaped y = true) : valPy (.d d) t = some y := by
  unfold valPy Val.dat
  simp only [h1, h2, if_true]
theorem toPys_map {α : Type} (f : α → D) (g : α → PyData) (h : ∀ x, toPy (f x) = some (g x)) : ∀ xs : List α, toPys (xs.map f) = some (xs.map g)
  | [] => by simp [toPys]
  | x :: xs => by simp only [List.map_cons, toPys, h x, toPys_map f g h xs]
theorem lay_map {α : Type} (g : α → PyData) : ∀ xs : List α, (∀ x ∈ xs, PyData.canLay0 (g x) = true) → PyData.canLayAll0 (xs.map g) = true
  | [], _ => by simp [PyData.canLayAll0]
  | x :: xs, h => by
    simp only [List.map_cons, PyData.canLayAll0, h x (List.mem_cons_self ..), lay_map g xs fun y hy => h y (List.mem_cons_of_mem _ hy), Bool.and_self]
theorem depth_map {α : Type} (g : α → PyData) (n : Nat) : ∀ xs : List α, (∀ x ∈ xs, PyData.depth (g x) ≤ n) → PyData.depthAll (xs.map g) ≤ n
  | [], _ => by simp [PyData.depthAll]
  | x :: xs, h => by
    have h1 := h x (List.mem_cons_self ..)
    have h2 := depth_map g n xs fun y hy => h y (List.mem_cons_of_mem _ hy)
    simp only [List.map_cons, PyData.depthAll]
    omega
theorem shaped_tup {α : Type} (g : α → PyData) (xs : List α) (n : Nat) (hn : n < 64) (h1 : ∀ x ∈ xs, PyData.canLay0 (g x) = true) (h2 : ∀ x ∈ xs, PyData.depth (g x) ≤ n) : SeqAt.shaped (.tuple (xs.map g)) = true := by
  have e : SeqAt.shaped (.tuple (xs.map g)) = (PyData.canLayAll0 (xs.map g) && decide (PyData.depthAll (xs.map g) + 1 ≤ 64)) := by
    simp only [SeqAt.shaped, PyData.canLay0, PyData.depth]
    congr
  have := depth_map g n xs h2
  rw [e, lay_map g xs h1, Bool.true_and]
  exact decide_eq_true (by omega)
theorem shaped_lst {α : Type} (g : α → PyData) (xs : List α) (n : Nat) (hn : n < 64) (h1 : ∀ x ∈ xs, PyData.canLay0 (g x) = true) (h2 : ∀ x ∈ xs, PyData.depth (g x) ≤ n) : SeqAt.shaped (.list (xs.map g)) = true := by
  have e : SeqAt.shaped (.list (xs.map g)) = (PyData.canLayAll0 (xs.map g) && decide (PyData.depthAll (xs.map g) + 1 ≤ 64)) := by
    simp only [SeqAt.shaped, PyData.canLay0, PyData.depth]
    congr
  have := depth_map g n xs h2
  rw [e, lay_map g xs h1, Bool.true_and]
  exact decide_eq_true (by omega)
theorem cellP_lay (c : Int × Int) : PyData.canLay0 (cellP c) = true := by simp [cellP, PyData.canLay0, PyData.canLayAll0]
theorem cellP_depth (c : Int × Int) : PyData.depth (cellP c) ≤ 1 := by simp [cellP, PyData.depth, PyData.depthAll]
theorem toPys_cells (ps : List (Int × Int)) : toPys (ps.map cellD) = some (ps.map cellP) := toPys_map cellD cellP (fun _ => rfl) ps
theorem val_cellsT (ps : List (Int × Int)) (t : T) : valPy (.d (.tup (ps.map cellD))) t = some (.tuple (ps.map cellP)) :=
  val_of (by simp only [toPy, toPys_cells]) (shaped_tup cellP ps 1 (by decide) (fun x _ => cellP_lay x) fun x _ => cellP_depth x)
theorem val_cellsL (ps : List (Int × Int)) (t : T) : valPy (.d (.lst (ps.map cellD))) t = some (.list (ps.map cellP)) :=
  val_of (by simp only [toPy, toPys_cells]) (shaped_lst cellP ps 1 (by decide) (fun x _ => cellP_lay x) fun x _ => cellP_depth x)
theorem val_T0 (t : T) : valPy (.d (.tup [])) t = some (.tuple []) := rfl
theorem val_L0 (t : T) : valPy (.d (.lst [])) t = some (.list []) := rfl
theorem eqv_T0 {xs : List PyData} : PyData.eqv (.tuple xs) (.tuple []) = xs.isEmpty := by
  cases xs <;> simp [PyData.eqv, PyData.eqvAll]
theorem eqv_L0 {xs : List PyData} : PyData.eqv (.list xs) (.list []) = xs.isEmpty := by
  cases xs <;> simp [PyData.eqv, PyData.eqvAll]
end En
set_option Elab.async false
set_option linter.all false
set_option maxRecDepth 100000
set_option maxHeartbeats 2000000
namespace K90
open PySem PySem.Spec PyProof.Rows L2 En
structure RowsOk (rows : List Str) (w : Nat) : Prop where
  ne : rows ≠ []
  len : rows.length ≤ 12
  w1 : 1 ≤ w
  w2 : w ≤ 12
  row : ∀ x ∈ rows, x.length = w
  sign : ∀ x ∈ rows, ∀ c ∈ x.cps.toList, c ∈ [46, 126, 65, 66, 84]
def Land (rows : List Str) (c : Int × Int) : Prop := 0 ≤ c.1 ∧ 0 ≤ c.2 ∧ ∃ x s, rows[c.1.toNat]? = some x ∧ x.cps.toList[c.2.toNat]? = some s ∧ s ≠ 126
theorem remaining_eq (r : Rule) (c : Int × Int) {w : Str} (hw : PyData.strOk w = true) (ps : List (Int × Int)) (hl : ps.length ≤ lim) (b : Box) :
    f_remaining [.d (.tup (ps.map cellD)), .d (ruleD r), .d (cellD c), .d (.str w)] b = .ok (.d (.tup ((ps.filter fun p => told r c p == w).map cellD))) ⟨[], b⟩ := by
  have h1 : ∀ (p : Int × Int) (t : T), fCall f_told_of [.d (ruleD r), .d (cellD c), .d (cellD p)] t = .ok (.d (.str (told r c p))) t := fun p t => call_eq rfl (told_of_eq r c p t.b)
  have h2 : lcM (gN 4) (m1 asB (m2 fEq (mL (fCall f_told_of) (mCons (mVar 1) (mCons (mVar 2) (mCons (mVar 4) mNil)))) (mVar 3))) (mVar 4) [some (.d (.tup (ps.map cellD))), some (.d (ruleD r)), some (.d (cellD c)), some (.d (.str w)), none] (ps.map fun p => .d (cellD p)) [] ⟨[], b⟩ = .ok ([] ++ (ps.filter fun p => told r c p == w).map fun p => .d (cellD p)) ⟨[], b⟩ := by
    refine lcM_filter (fun p => .d (cellD p)) (fun p => told r c p == w) (fun p => .d (cellD p)) ps [] (fun p _ => ?_) (by simpa using hl)
    refine ⟨_, rfl, ?_, fun _ => ?_⟩
    · simp only [List.map_cons, List.map_nil, List.length_cons, List.length_nil, List.replicate, List.cons_append, List.nil_append, List.append_nil, sSeq, sIf, sRet, sNil, sSet, sDrop, m2, m1, mL, mCons, mNil, mC, mVar, mIf, List.getElem?_cons_zero, List.getElem?_cons_succ, List.set_cons_zero, List.set_cons_succ, R.bind_ok, R.toS_ok, Nat.reduceAdd, Nat.reduceSub, Nat.zero_add, En.eq_cell, En.asB_ok, En.eq_int, En.lt_ok, En.le_ok, En.sub_ok, En.add_ok, En.abs_ok, En.cell_0, En.cell_1, decide_true, decide_false, Bool.false_eq_true, if_true, if_false, Bool.not_true, Bool.not_false, h1, En.eq_str (told_ok r c p) hw]
    · simp only [List.map_cons, List.map_nil, List.length_cons, List.length_nil, List.replicate, List.cons_append, List.nil_append, List.append_nil, sSeq, sIf, sRet, sNil, sSet, sDrop, m2, m1, mL, mCons, mNil, mC, mVar, mIf, List.getElem?_cons_zero, List.getElem?_cons_succ, List.set_cons_zero, List.set_cons_succ, R.bind_ok, R.toS_ok, Nat.reduceAdd, Nat.reduceSub, Nat.zero_add, En.eq_cell, En.asB_ok, En.eq_int, En.lt_ok, En.le_ok, En.sub_ok, En.add_ok, En.abs_ok, En.cell_0, En.cell_1, decide_true, decide_false, Bool.false_eq_true, if_true, if_false, Bool.not_true, Bool.not_false]
  have h3 : (ps.map cellD).map Val.d = ps.map fun p => .d (cellD p) := by simp
  have h4 : ((ps.filter fun p => told r c p == w).map fun p => Val.d (cellD p)) = ((ps.filter fun p => told r c p == w).map cellD).map Val.d := by simp
  have h5 : ∀ ds : List D, ∀ t : T, fTuple [.d (.lst ds)] t = .ok (.d (.tup ds)) t := fun ds t => by
    show (match datas (ds.map Val.d) with | some ds => _ | none => _) = _
    rw [datas_map]
  unfold f_remaining runF runG m_remaining
  simp only [List.map_cons, List.map_nil, List.length_cons, List.length_nil, List.replicate, List.cons_append, List.nil_append, List.append_nil, sSeq, sIf, sRet, sNil, sSet, sDrop, m2, m1, mL, mCons, mNil, mC, mVar, mIf, List.getElem?_cons_zero, List.getElem?_cons_succ, List.set_cons_zero, List.set_cons_succ, R.bind_ok, R.toS_ok, Nat.reduceAdd, Nat.reduceSub, Nat.zero_add, En.eq_cell, En.asB_ok, En.eq_int, En.lt_ok, En.le_ok, En.sub_ok, En.add_ok, En.abs_ok, En.cell_0, En.cell_1, decide_true, decide_false, Bool.false_eq_true, if_true, if_false, Bool.not_true, Bool.not_false, mLc, fIter, wipeR, h3, h2, fFz, h4, datas_map, h5]
theorem w_ne {s : Nat} (h : s ≠ 126) : ((⟨#[s]⟩ : Str) == ("~" : Str)) = false := by
  have e : ("~" : Str) = ⟨#[126]⟩ := by decide +kernel
  rw [e]
  cases hb : ((⟨#[s]⟩ : Str) == (⟨#[126]⟩ : Str)) with
  | false => rfl
  | true =>
    have := eq_of_beq hb
    cases this
    exact absurd rfl h
theorem sign_ok {s : Nat} (h : s ∈ [46, 126, 65, 66, 84]) : PyData.strOk ⟨#[s]⟩ = true := by
  have : s < 1114112 := by
    simp only [List.mem_cons, List.mem_nil_iff, or_false] at h
    omega
  simp [PyData.strOk, this]
theorem contains_eq {rows : List Str} {w : Nat} {c : Int × Int} (hr : RowsOk rows w) (hc : Land rows c) (b : Box) : f_Island____contains__ [.d (islD rows), .d (cellD c)] b = .ok (.d (.bl true)) ⟨[], b⟩ := by
  obtain ⟨h0, h1, x, s, e1, e2, hs⟩ := hc
  have l1 : c.1.toNat < rows.length := (List.getElem?_eq_some_iff.mp e1).1
  have l2 : c.2.toNat < x.cps.toList.length := (List.getElem?_eq_some_iff.mp e2).1
  have hx : x ∈ rows := List.mem_of_getElem? e1
  have hxl : x.cps.toList.length = w := hr.row x hx
  have hpos : 0 < rows.length := List.length_pos_iff.mpr hr.ne
  obtain ⟨y, e0⟩ : ∃ y, rows[0]? = some y := ⟨rows[0], List.getElem?_eq_getElem hpos⟩
  have hy : y.length = w := hr.row y (List.mem_of_getElem? e0)
  have i1 : ∀ t : T, fLenB [.d (.tup (rows.map D.str))] t = .ok (.d (.int (rows.length : Int))) t := fun t => by rw [len_tup, List.length_map]
  have i2 : ∀ t : T, fIx (.d (.tup (rows.map D.str))) (.d (.int 0)) t = .ok (.d (.str y)) t := fun t => by
    rw [ixt_ok (by omega) (by rw [List.length_map]; omega)]
    rw [List.getD_eq_getElem?_getD, List.getElem?_map]
    show R.ok (Val.d ((Option.map D.str rows[0]?).getD .non)) t = _
    rw [e0]
    rfl
  have hw : w ≤ lim := Nat.le_trans hr.w2 (by decide)
  have i3 : ∀ t : T, fLenB [.d (.str y)] t = .ok (.d (.int (w : Int))) t := fun t => by rw [len_str (by rw [hy]; exact hw), hy]
  have i4 : ∀ t : T, fIx (.d (.tup (rows.map D.str))) (.d (.int c.1)) t = .ok (.d (.str x)) t := fun t => by
    rw [ixt_ok h0 (by rw [List.length_map]; omega)]
    rw [List.getD_eq_getElem?_getD, List.getElem?_map, e1]
    rfl
  have i5 : ∀ t : T, fIx (.d (.str x)) (.d (.int c.2)) t = .ok (.d (.str ⟨#[s]⟩)) t := fun t => by
    rw [ixs_ok (by have : x.length = w := hr.row x hx; rw [this]; exact hw) h1 (by omega)]
    rw [List.getD_eq_getElem?_getD, e2]
    rfl
  have i6 : ∀ t : T, fNe (.d (.str ⟨#[s]⟩)) (.d (.str "~")) t = .ok (.d (.bl true)) t := fun t => by
    rw [En.ne_str (sign_ok (hr.sign x hx s (List.mem_of_getElem? e2))) (by decide +kernel), w_ne hs]
    rfl
  have b1 : c.1 < (rows.length : Int) := by omega
  have b2 : c.2 < (w : Int) := by omega
  have g1 : ∀ ρ : Rho, gT 2 (gsCons (gN 2) (gsCons (gN 3) gsNil)) (.d (cellD c)) ρ = some ((ρ.set 2 (some (.d (.int c.1)))).set 3 (some (.d (.int c.2)))) := fun ρ => rfl
  unfold f_Island____contains__ runF runG m_Island____contains__
  simp only [List.map_cons, List.map_nil, List.length_cons, List.length_nil, List.replicate, List.cons_append, List.nil_append, List.append_nil, sSeq, sIf, sRet, sNil, sSet, sDrop, m2, m1, mL, mCons, mNil, mC, mVar, mIf, List.getElem?_cons_zero, List.getElem?_cons_succ, List.set_cons_zero, List.set_cons_succ, R.bind_ok, R.toS_ok, Nat.reduceAdd, Nat.reduceSub, Nat.zero_add, En.eq_cell, En.asB_ok, En.eq_int, En.lt_ok, En.le_ok, En.sub_ok, En.add_ok, En.abs_ok, En.cell_0, En.cell_1, decide_true, decide_false, Bool.false_eq_true, if_true, if_false, Bool.not_true, Bool.not_false, sAsg, oS, g1, mOr, mNot, m3c, isl_rows, i1, i2, i3, i4, i5, i6, h0, h1, b1, b2, d_WATER]
theorem validate_cell_eq {rows : List Str} {w : Nat} {c : Int × Int} (hr : RowsOk rows w) (hc : Land rows c) (b : Box) : f_validate_cell [.d (islD rows), .d (cellD c)] b = .ok (.d .non) ⟨[], b⟩ := by
  have h1 : ∀ t : T, fCall f_Island____contains__ [.d (islD rows), .d (cellD c)] t = .ok (.d (.bl true)) t := fun t => call_eq rfl (contains_eq hr hc t.b)
  have h2 : ∀ t : T, fInO "Island" f_Island____contains__ true (.d (cellD c)) (.d (islD rows)) t = .ok (.d (.bl false)) t := fun t => by
    unfold fInO
    rw [show clsOf (.d (islD rows)) = some "Island" from rfl]
    simp only [if_true, h1, noX, R.bind_ok]
    rfl
  unfold f_validate_cell runF runG m_validate_cell
  simp only [List.map_cons, List.map_nil, List.length_cons, List.length_nil, List.replicate, List.cons_append, List.nil_append, List.append_nil, sSeq, sIf, sRet, sNil, sSet, sDrop, m2, m1, mL, mCons, mNil, mC, mVar, mIf, List.getElem?_cons_zero, List.getElem?_cons_succ, List.set_cons_zero, List.set_cons_succ, R.bind_ok, R.toS_ok, Nat.reduceAdd, Nat.reduceSub, Nat.zero_add, En.eq_cell, En.asB_ok, En.eq_int, En.lt_ok, En.le_ok, En.sub_ok, En.add_ok, En.abs_ok, En.cell_0, En.cell_1, decide_true, decide_false, Bool.false_eq_true, if_true, if_false, Bool.not_true, Bool.not_false, h2]
theorem cells_iter (ps : List (Int × Int)) (t : T) : fIter (.d (.tup (ps.map cellD))) t = .ok (ps.map fun p => .d (cellD p)) t := by
  show R.ok _ t = _
  rw [List.map_map]
  rfl
theorem validate_places_eq {rows : List Str} {w : Nat} {r : Rule} (hr : RowsOk rows w) (hru : r.ok) (ps : List (Int × Int)) (hp : ∀ p ∈ ps, Land rows p) (b : Box) : f_validate_places [.d (islD rows), .d (.tup (ps.map cellD)), .d (ruleD r)] b = .ok (.d .non) ⟨[], b⟩ := by
  have h1 : ∀ p ∈ ps, ∀ t : T, fCall f_validate_cell [.d (islD rows), .d (cellD p)] t = .ok (.d .non) t := fun p hp' t => call_eq rfl (validate_cell_eq hr (hp p hp') t.b)
  have h2 : ∀ t : T, fCall f_validate_rule [.d (ruleD r)] t = .ok (.d .non) t := fun t => call_eq rfl (validate_rule_eq hru t.b)
  obtain ⟨ρ', e, o, eρ⟩ := forM_fold (f := gN 3) (b := sDrop (mL (fCall f_validate_cell) (mCons (mVar 0) (mCons (mVar 3) mNil)))) (fun p => .d (cellD p)) (fun (u : Unit) _ => u) (fun _ ρ => ∃ o, ρ = [some (.d (islD rows)), some (.d (.tup (ps.map cellD))), some (.d (ruleD r)), o]) ⟨[], b⟩ ps () [some (.d (islD rows)), some (.d (.tup (ps.map cellD))), some (.d (ruleD r)), none] ⟨none, rfl⟩ (fun p _ ρ hp' ⟨o, e⟩ => by
    subst e
    refine ⟨_, _, rfl, ?_, ⟨some (.d (cellD p)), rfl⟩⟩
    simp only [List.map_cons, List.map_nil, List.length_cons, List.length_nil, List.replicate, List.cons_append, List.nil_append, List.append_nil, sSeq, sIf, sRet, sNil, sSet, sDrop, m2, m1, mL, mCons, mNil, mC, mVar, mIf, List.getElem?_cons_zero, List.getElem?_cons_succ, List.set_cons_zero, List.set_cons_succ, R.bind_ok, R.toS_ok, Nat.reduceAdd, Nat.reduceSub, Nat.zero_add, En.eq_cell, En.asB_ok, En.eq_int, En.lt_ok, En.le_ok, En.sub_ok, En.add_ok, En.abs_ok, En.cell_0, En.cell_1, decide_true, decide_false, Bool.false_eq_true, if_true, if_false, Bool.not_true, Bool.not_false, h1 p hp'])
  subst eρ
  unfold f_validate_places runF runG m_validate_places
  simp only [List.map_cons, List.map_nil, List.length_cons, List.length_nil, List.replicate, List.cons_append, List.nil_append, List.append_nil, sSeq, sIf, sRet, sNil, sSet, sDrop, m2, m1, mL, mCons, mNil, mC, mVar, mIf, List.getElem?_cons_zero, List.getElem?_cons_succ, List.set_cons_zero, List.set_cons_succ, R.bind_ok, R.toS_ok, Nat.reduceAdd, Nat.reduceSub, Nat.zero_add, En.eq_cell, En.asB_ok, En.eq_int, En.lt_ok, En.le_ok, En.sub_ok, En.add_ok, En.abs_ok, En.cell_0, En.cell_1, decide_true, decide_false, Bool.false_eq_true, if_true, if_false, Bool.not_true, Bool.not_false, sFor, cells_iter, e, h2]
def digD (d : (Int × Int) × Str) : D := .tup [cellD d.1, .str d.2]
def words : Rule → List Str
  | .plain => ["empty", "found"]
  | .rows => ["found", "level", "north", "south"]
  | .near _ => ["far", "found", "near"]
theorem told_words (r : Rule) (c p : Int × Int) : told r c p ∈ words r := by
  by_cases h : c = p
  · cases r <;> simp [told, words, h]
  · cases r with
    | plain => simp [told, words, h]
    | rows => by_cases h1 : c.1 = p.1 <;> by_cases h2 : p.1 < c.1 <;> simp [told, words, h, h1, h2]
    | near k => by_cases h1 : absI (c.1 - p.1) + absI (c.2 - p.2) ≤ k <;> simp [told, words, h, h1]
theorem words_ok (r : Rule) : ∀ w ∈ words r, PyData.strOk w = true := by
  cases r with
  | plain => exact (by decide +kernel : ∀ w ∈ (["empty", "found"] : List Str), PyData.strOk w = true)
  | rows => exact (by decide +kernel : ∀ w ∈ (["found", "level", "north", "south"] : List Str), PyData.strOk w = true)
  | near k => exact (by decide +kernel : ∀ w ∈ (["far", "found", "near"] : List Str), PyData.strOk w = true)
theorem digs_iter (ds : List ((Int × Int) × Str)) (t : T) : fIter (.d (.lst (ds.map digD))) t = .ok (ds.map fun p => .d (digD p)) t := by
  show R.ok _ t = _
  rw [List.map_map]
  rfl
theorem tab_words (r : Rule) (t : T) : ∃ z, fIx (.d (ruleD r)) (.d (.int 0)) t = .ok (.d (.str z)) t ∧ fTab t_WORDS (.d (.str z)) t = .ok (.d (.tup ((words r).map D.str))) t := by
  cases r with
  | plain => exact ⟨"plain", rfl, rfl⟩
  | rows => exact ⟨"rows", rfl, rfl⟩
  | near k => exact ⟨"near", rfl, rfl⟩
theorem val_words (r : Rule) (t : T) : valPy (.d (.tup ((words r).map D.str))) t = some (.tuple ((words r).map PyData.str)) := by
  cases r with
  | plain => exact val_of rfl (by decide +kernel : SeqAt.shaped (.tuple ((["empty", "found"] : List Str).map PyData.str)) = true)
  | rows => exact val_of rfl (by decide +kernel : SeqAt.shaped (.tuple ((["found", "level", "north", "south"] : List Str).map PyData.str)) = true)
  | near k => exact val_of rfl (by decide +kernel : SeqAt.shaped (.tuple ((["far", "found", "near"] : List Str).map PyData.str)) = true)
theorem notIn_words (r : Rule) {w : Str} (hw : w ∈ words r) (t : T) : fNotIn (.d (.str w)) (.d (.tup ((words r).map D.str))) t = .ok (.d (.bl false)) t := by
  have hs : PyData.strOk w = true := words_ok r w hw
  have v1 : valPy (.d (.str w)) t = some (.str w) := val_str hs t
  have hin : inB (.d (.str w)) (.d (.tup ((words r).map D.str))) t = some true := by
    unfold inB
    simp only [v1, val_words]
    have : (((words r).map PyData.str).any fun z => PyData.eqv z (.str w)) = true := by
      rw [List.any_eq_true]
      refine ⟨.str w, List.mem_map.mpr ⟨w, hw, rfl⟩, ?_⟩
      simp [PyData.eqv]
    rw [this]
  unfold fNotIn
  rw [hin]
  rfl
theorem digs_enum (ds : List ((Int × Int) × Str)) (t : T) : fEnum [.d (.lst (ds.map digD))] t = .ok (pairsFrom 0 (ds.map digD)) t := rfl
theorem validate_digs_eq {rows : List Str} {w : Nat} {r : Rule} (hr : RowsOk rows w) (ds : List ((Int × Int) × Str)) (hp : ∀ d ∈ ds, Land rows d.1 ∧ d.2 ∈ words r) (b : Box) : f_validate_digs [.d (islD rows), .d (ruleD r), .d (.lst (ds.map digD))] b = .ok (.d .non) ⟨[], b⟩ := by
  have h1 : ∀ d ∈ ds, ∀ t : T, fCall f_validate_cell [.d (islD rows), .d (cellD d.1)] t = .ok (.d .non) t := fun d hd t => call_eq rfl (validate_cell_eq hr (hp d hd).1 t.b)
  obtain ⟨ρ', e, o1, o2, eρ⟩ := forM_fold (f := gT 2 (gsCons (gN 3) (gsCons (gN 4) gsNil))) (b := sDrop (mL (fCall f_validate_cell) (mCons (mVar 0) (mCons (mVar 3) mNil)))) (fun d => .d (digD d)) (fun (u : Unit) _ => u) (fun _ ρ => ∃ o1 o2, ρ = [some (.d (islD rows)), some (.d (ruleD r)), some (.d (.lst (ds.map digD))), o1, o2, none]) ⟨[], b⟩ ds () [some (.d (islD rows)), some (.d (ruleD r)), some (.d (.lst (ds.map digD))), none, none, none] ⟨none, none, rfl⟩ (fun d _ ρ hd ⟨o1, o2, e⟩ => by
    subst e
    refine ⟨_, _, rfl, ?_, ⟨some (.d (cellD d.1)), some (.d (.str d.2)), rfl⟩⟩
    simp only [List.map_cons, List.map_nil, List.length_cons, List.length_nil, List.replicate, List.cons_append, List.nil_append, List.append_nil, sSeq, sIf, sRet, sNil, sSet, sDrop, m2, m1, mL, mCons, mNil, mC, mVar, mIf, List.getElem?_cons_zero, List.getElem?_cons_succ, List.set_cons_zero, List.set_cons_succ, R.bind_ok, R.toS_ok, Nat.reduceAdd, Nat.reduceSub, Nat.zero_add, En.eq_cell, En.asB_ok, En.eq_int, En.lt_ok, En.le_ok, En.sub_ok, En.add_ok, En.abs_ok, En.cell_0, En.cell_1, decide_true, decide_false, Bool.false_eq_true, if_true, if_false, Bool.not_true, Bool.not_false, h1 d hd])
  subst eρ
  have enum : ∀ (ds' : List ((Int × Int) × Str)) (k : Nat) (o1 o2 o3 : Option Val), (∀ d ∈ ds', d ∈ ds) → ∃ ρ'', forM (gT 2 (gsCons (gN 5) (gsCons (gT 2 (gsCons (gN 3) (gsCons (gN 4) gsNil))) gsNil))) (sIf (m1 asB (m2 fNotIn (mVar 4) (m1 (fTab t_WORDS) (m2 fIx (mVar 1) (mC (.int 0)))))) sNever sNil) (pairsFrom k (ds'.map digD)) [some (.d (islD rows)), some (.d (ruleD r)), some (.d (.lst (ds.map digD))), o1, o2, o3] ⟨[], b⟩ = .nx ρ'' ⟨[], b⟩ := by
    intro ds'
    induction ds' with
    | nil => exact fun k o1 o2 o3 _ => ⟨_, rfl⟩
    | cons d ds' ih =>
      intro k o1 o2 o3 hm
      obtain ⟨ρ'', e''⟩ := ih (k + 1) (some (.d (cellD d.1))) (some (.d (.str d.2))) (some (.d (.int k))) fun x hx => hm x (List.mem_cons_of_mem _ hx)
      refine ⟨ρ'', ?_⟩
      obtain ⟨z, z1, z2⟩ := tab_words r ⟨[], b⟩
      rw [List.map_cons]
      show turnS (sIf (m1 asB (m2 fNotIn (mVar 4) (m1 (fTab t_WORDS) (m2 fIx (mVar 1) (mC (.int 0)))))) sNever sNil [some (.d (islD rows)), some (.d (ruleD r)), some (.d (.lst (ds.map digD))), some (.d (cellD d.1)), some (.d (.str d.2)), some (.d (.int k))] ⟨[], b⟩) _ = _
      simp only [List.map_cons, List.map_nil, List.length_cons, List.length_nil, List.replicate, List.cons_append, List.nil_append, List.append_nil, sSeq, sIf, sRet, sNil, sSet, sDrop, m2, m1, mL, mCons, mNil, mC, mVar, mIf, List.getElem?_cons_zero, List.getElem?_cons_succ, List.set_cons_zero, List.set_cons_succ, R.bind_ok, R.toS_ok, Nat.reduceAdd, Nat.reduceSub, Nat.zero_add, En.eq_cell, En.asB_ok, En.eq_int, En.lt_ok, En.le_ok, En.sub_ok, En.add_ok, En.abs_ok, En.cell_0, En.cell_1, decide_true, decide_false, Bool.false_eq_true, if_true, if_false, Bool.not_true, Bool.not_false, z1, z2, notIn_words r (hp d (hm d (List.mem_cons_self ..))).2, turnS]
      exact e''
  obtain ⟨ρ2, e2⟩ := enum ds 0 o1 o2 none fun _ h => h
  unfold f_validate_digs runF runG m_validate_digs
  simp only [List.map_cons, List.map_nil, List.length_cons, List.length_nil, List.replicate, List.cons_append, List.nil_append, List.append_nil, sSeq, sIf, sRet, sNil, sSet, sDrop, m2, m1, mL, mCons, mNil, mC, mVar, mIf, List.getElem?_cons_zero, List.getElem?_cons_succ, List.set_cons_zero, List.set_cons_succ, R.bind_ok, R.toS_ok, Nat.reduceAdd, Nat.reduceSub, Nat.zero_add, En.eq_cell, En.asB_ok, En.eq_int, En.lt_ok, En.le_ok, En.sub_ok, En.add_ok, En.abs_ok, En.cell_0, En.cell_1, decide_true, decide_false, Bool.false_eq_true, if_true, if_false, Bool.not_true, Bool.not_false, sFor, digs_iter, e, digs_enum, e2]
def leftF (r : Rule) (ps : List (Int × Int)) (ds : List ((Int × Int) × Str)) : List (Int × Int) := ds.foldl (fun ps d => ps.filter fun p => told r d.1 p == d.2) ps
theorem left_len (r : Rule) : ∀ (ds : List ((Int × Int) × Str)) (ps : List (Int × Int)), (leftF r ps ds).length ≤ ps.length
  | [], ps => Nat.le_refl _
  | d :: ds, ps => Nat.le_trans (left_len r ds _) (List.length_filter_le ..)
theorem left_after_eq {rows : List Str} {w : Nat} {r : Rule} (hr : RowsOk rows w) (hru : r.ok) (ps : List (Int × Int)) (hl : ps.length ≤ lim) (hps : ∀ p ∈ ps, Land rows p) (ds : List ((Int × Int) × Str)) (hp : ∀ d ∈ ds, Land rows d.1 ∧ d.2 ∈ words r) (b : Box) :
    f_left_after [.d (islD rows), .d (.tup (ps.map cellD)), .d (ruleD r), .d (.lst (ds.map digD))] b = .ok (.d (.lst ((leftF r ps ds).map cellD))) ⟨[], b⟩ := by
  have h1 : ∀ t : T, fCall f_validate_places [.d (islD rows), .d (.tup (ps.map cellD)), .d (ruleD r)] t = .ok (.d .non) t := fun t => call_eq rfl (validate_places_eq hr hru ps hps t.b)
  have h2 : ∀ t : T, fCall f_validate_digs [.d (islD rows), .d (ruleD r), .d (.lst (ds.map digD))] t = .ok (.d .non) t := fun t => call_eq rfl (validate_digs_eq hr ds hp t.b)
  obtain ⟨ρ', e, hq, o1, o2, eρ⟩ := forM_fold (f := gT 2 (gsCons (gN 4) (gsCons (gN 5) gsNil))) (b := sSet 1 (mL (fCall f_remaining) (mCons (mVar 1) (mCons (mVar 2) (mCons (mVar 4) (mCons (mVar 5) mNil)))))) (fun d => .d (digD d)) (fun (ps : List (Int × Int)) d => ps.filter fun p => told r d.1 p == d.2) (fun ps' ρ => ps'.length ≤ lim ∧ ∃ o1 o2, ρ = [some (.d (islD rows)), some (.d (.tup (ps'.map cellD))), some (.d (ruleD r)), some (.d (.lst (ds.map digD))), o1, o2]) ⟨[], b⟩ ds ps [some (.d (islD rows)), some (.d (.tup (ps.map cellD))), some (.d (ruleD r)), some (.d (.lst (ds.map digD))), none, none] ⟨hl, none, none, rfl⟩ (fun d ps' ρ hd ⟨hl', o1, o2, e⟩ => by
    subst e
    have h3 : ∀ t : T, fCall f_remaining [.d (.tup (ps'.map cellD)), .d (ruleD r), .d (cellD d.1), .d (.str d.2)] t = .ok (.d (.tup ((ps'.filter fun p => told r d.1 p == d.2).map cellD))) t := fun t => call_eq rfl (remaining_eq r d.1 (words_ok r d.2 (hp d hd).2) ps' hl' t.b)
    refine ⟨_, _, rfl, ?_, ⟨Nat.le_trans (List.length_filter_le ..) hl', some (.d (cellD d.1)), some (.d (.str d.2)), rfl⟩⟩
    simp only [List.map_cons, List.map_nil, List.length_cons, List.length_nil, List.replicate, List.cons_append, List.nil_append, List.append_nil, sSeq, sIf, sRet, sNil, sSet, sDrop, m2, m1, mL, mCons, mNil, mC, mVar, mIf, List.getElem?_cons_zero, List.getElem?_cons_succ, List.set_cons_zero, List.set_cons_succ, R.bind_ok, R.toS_ok, Nat.reduceAdd, Nat.reduceSub, Nat.zero_add, En.eq_cell, En.asB_ok, En.eq_int, En.lt_ok, En.le_ok, En.sub_ok, En.add_ok, En.abs_ok, En.cell_0, En.cell_1, decide_true, decide_false, Bool.false_eq_true, if_true, if_false, Bool.not_true, Bool.not_false, h3])
  subst eρ
  have h4 : ∀ (ds : List D) (t : T), fListL [.d (.tup ds)] t = .ok (ds.map Val.d) t := fun _ _ => rfl
  unfold f_left_after runF runG m_left_after
  simp only [List.map_cons, List.map_nil, List.length_cons, List.length_nil, List.replicate, List.cons_append, List.nil_append, List.append_nil, sSeq, sIf, sRet, sNil, sSet, sDrop, m2, m1, mL, mCons, mNil, mC, mVar, mIf, List.getElem?_cons_zero, List.getElem?_cons_succ, List.set_cons_zero, List.set_cons_succ, R.bind_ok, R.toS_ok, Nat.reduceAdd, Nat.reduceSub, Nat.zero_add, En.eq_cell, En.asB_ok, En.eq_int, En.lt_ok, En.le_ok, En.sub_ok, En.add_ok, En.abs_ok, En.cell_0, En.cell_1, decide_true, decide_false, Bool.false_eq_true, if_true, if_false, Bool.not_true, Bool.not_false, h1, h2, sFor, digs_iter, e, h4, fFz, datas_map]
  rfl
end K90
set_option Elab.async false
set_option linter.all false
set_option maxRecDepth 100000
set_option maxHeartbeats 2000000
namespace K90
open PySem PySem.Spec PyProof.Rows L2 En
theorem isi_d (ss : List String) (d : D) (s : String) (t : T) (h : tyS (.d d) t = some s) : fIsi ss (.d d) t = .ok (.d (.bl (kitAnyT s ss))) t := by
  unfold fIsi
  rw [h]
  rfl
theorem is_non (d : D) (t : T) : fIsN (.d d) (.d .non) t = .ok (.d (.bl (match d with | .non => true | _ => false))) t := by
  cases d <;> rfl
theorem eq_bl (i j : Bool) (t : T) : fEq (.d (.bl i)) (.d (.bl j)) t = .ok (.d (.bl (i == j))) t := by
  rw [eq_of_val (val_bl i t) (val_bl j t)]
  simp only [PyData.eqv]
theorem ne_bl (i j : Bool) (t : T) : fNe (.d (.bl i)) (.d (.bl j)) t = .ok (.d (.bl (!(i == j)))) t := by
  rw [ne_of_val (val_bl i t) (val_bl j t)]
  simp only [PyData.eqv]
theorem ki : kitAnyT "int" ["dict"] = false ∧ kitAnyT "int" ["tuple", "list"] = false ∧ kitAnyT "int" ["str"] = false ∧ kitAnyT "int" ["int"] = true ∧ kitAnyT "int" ["bool"] = false := by decide
theorem ks : kitAnyT "str" ["dict"] = false ∧ kitAnyT "str" ["tuple", "list"] = false ∧ kitAnyT "str" ["str"] = true := by decide
theorem kn : kitAnyT "NoneType" ["dict"] = false ∧ kitAnyT "NoneType" ["tuple", "list"] = false ∧ kitAnyT "NoneType" ["str"] = false := by decide
theorem kt : kitAnyT "tuple" ["dict"] = false ∧ kitAnyT "tuple" ["tuple", "list"] = true ∧ kitAnyT "tuple" ["list"] = false := by decide
theorem kl : kitAnyT "list" ["dict"] = false ∧ kitAnyT "list" ["tuple", "list"] = true ∧ kitAnyT "list" ["list"] = true := by decide
theorem alike_s (n : Nat) : f__law_alike (n + 1) = runF 3 (r__law_alike (f__law_alike n)) := f__law_alike.eq_2 n
theorem alike_int (n : Nat) (i : Int) (b : Box) : f__law_alike (n + 1) [.d (.int i), .d (.int i)] b = .ok (.d (.bl true)) ⟨[], b⟩ := by
  rw [alike_s]
  unfold runF runG r__law_alike
  obtain ⟨k1, k2, k3, k4, k5⟩ := ki
  simp only [List.map_cons, List.map_nil, List.length_cons, List.length_nil, List.replicate, List.cons_append, List.nil_append, List.append_nil, sSeq, sIf, sRet, sNil, sSet, sDrop, m2, m1, mL, mCons, mNil, mC, mVar, mIf, List.getElem?_cons_zero, List.getElem?_cons_succ, List.set_cons_zero, List.set_cons_succ, R.bind_ok, R.toS_ok, Nat.reduceAdd, Nat.reduceSub, Nat.zero_add, En.eq_cell, En.asB_ok, En.eq_int, En.lt_ok, En.le_ok, En.sub_ok, En.add_ok, En.abs_ok, En.cell_0, En.cell_1, decide_true, decide_false, Bool.false_eq_true, if_true, if_false, Bool.not_true, Bool.not_false, mAndV, mOr, isi_d _ (.int i) "int" _ rfl, k1, k2, k3, k4, k5, is_non, eq_bl, beq_self_eq_true]
theorem alike_str (n : Nat) {x : Str} (hx : PyData.strOk x = true) (b : Box) : f__law_alike (n + 1) [.d (.str x), .d (.str x)] b = .ok (.d (.bl true)) ⟨[], b⟩ := by
  rw [alike_s]
  unfold runF runG r__law_alike
  obtain ⟨k1, k2, k3⟩ := ks
  simp only [List.map_cons, List.map_nil, List.length_cons, List.length_nil, List.replicate, List.cons_append, List.nil_append, List.append_nil, sSeq, sIf, sRet, sNil, sSet, sDrop, m2, m1, mL, mCons, mNil, mC, mVar, mIf, List.getElem?_cons_zero, List.getElem?_cons_succ, List.set_cons_zero, List.set_cons_succ, R.bind_ok, R.toS_ok, Nat.reduceAdd, Nat.reduceSub, Nat.zero_add, En.eq_cell, En.asB_ok, En.eq_int, En.lt_ok, En.le_ok, En.sub_ok, En.add_ok, En.abs_ok, En.cell_0, En.cell_1, decide_true, decide_false, Bool.false_eq_true, if_true, if_false, Bool.not_true, Bool.not_false, mAndV, mOr, isi_d _ (.str x) "str" _ rfl, k1, k2, k3, is_non, eq_bl, En.eq_str hx hx, beq_self_eq_true]
theorem alike_non (n : Nat) (b : Box) : f__law_alike (n + 1) [.d .non, .d .non] b = .ok (.d (.bl true)) ⟨[], b⟩ := by
  rw [alike_s]
  unfold runF runG r__law_alike
  obtain ⟨k1, k2, k3⟩ := kn
  have e : ∀ t : T, fEq (.d .non) (.d .non) t = .ok (.d (.bl true)) t := fun t => by
    rw [eq_of_val (val_non t) (val_non t)]
    simp only [PyData.eqv]
  simp only [List.map_cons, List.map_nil, List.length_cons, List.length_nil, List.replicate, List.cons_append, List.nil_append, List.append_nil, sSeq, sIf, sRet, sNil, sSet, sDrop, m2, m1, mL, mCons, mNil, mC, mVar, mIf, List.getElem?_cons_zero, List.getElem?_cons_succ, List.set_cons_zero, List.set_cons_succ, R.bind_ok, R.toS_ok, Nat.reduceAdd, Nat.reduceSub, Nat.zero_add, En.eq_cell, En.asB_ok, En.eq_int, En.lt_ok, En.le_ok, En.sub_ok, En.add_ok, En.abs_ok, En.cell_0, En.cell_1, decide_true, decide_false, Bool.false_eq_true, if_true, if_false, Bool.not_true, Bool.not_false, mAndV, mOr, isi_d _ .non "NoneType" _ rfl, k1, k2, k3, is_non, eq_bl, e, beq_self_eq_true]
theorem intsV_map (n : Nat) : intsV 0 n = (List.range n).map fun (i : Nat) => Val.d (.int (0 + (i : Int))) := rfl
theorem range_ok {n : Nat} (h : n ≤ lim) (t : T) : fRange1 [.d (.int (n : Int))] t = .ok (intsV 0 n) t := by
  have hb : big (n : Int) = true := by
    have h' : n ≤ 100000 := h
    unfold big
    exact decide_eq_true (by omega)
  unfold fRange1
  simp only [hb, if_true, Int.toNat_natCast]

theorem al_comp (n : Nat) (d0 : D) (ds : List D) (b : Box) (hl : ds.length ≤ lim) (h : ∀ d ∈ ds, ∀ b, f__law_alike n [.d d, .d d] b = .ok (.d (.bl true)) ⟨[], b⟩)
    (i1 : ∀ i : Nat, i < ds.length → ∀ t : T, fIx (.d d0) (.d (.int (0 + (i : Int)))) t = .ok (.d (ds.getD i .non)) t) :
    lcM (gN 2) (mNot (m1 asB (mL (fCall (f__law_alike n)) (mCons (m2 fIx (mVar 0) (mVar 2)) (mCons (m2 fIx (mVar 1) (mVar 2)) mNil))))) (mVar 2) [some (.d d0), some (.d d0), none] (intsV 0 ds.length) [] ⟨[], b⟩ = .ok [] ⟨[], b⟩ := by
  have f3 : ((List.range ds.length).filter fun _ => false) = [] := by simp
  have e := lcM_filter (f := gN 2) (tt := mNot (m1 asB (mL (fCall (f__law_alike n)) (mCons (m2 fIx (mVar 0) (mVar 2)) (mCons (m2 fIx (mVar 1) (mVar 2)) mNil))))) (te := mVar 2) (ρ := [some (.d d0), some (.d d0), none]) (t := ⟨[], b⟩) (fun (i : Nat) => Val.d (.int (0 + (i : Int)))) (fun _ => false) (fun _ => Val.box) (List.range ds.length) [] (fun i hi => by
    refine ⟨_, rfl, ?_, fun z => nomatch z⟩
    have hi' : i < ds.length := List.mem_range.mp hi
    have hm : ds.getD i .non ∈ ds := by
      rw [List.getD_eq_getElem?_getD, List.getElem?_eq_getElem hi']
      exact List.getElem_mem hi'
    have c1 : ∀ t : T, fCall (f__law_alike n) [.d (ds.getD i .non), .d (ds.getD i .non)] t = .ok (.d (.bl true)) t := fun t => call_eq rfl (h _ hm t.b)
    simp only [List.map_cons, List.map_nil, List.length_cons, List.length_nil, List.replicate, List.cons_append, List.nil_append, List.append_nil, sSeq, sIf, sRet, sNil, sSet, sDrop, m2, m1, mL, mCons, mNil, mC, mVar, mIf, List.getElem?_cons_zero, List.getElem?_cons_succ, List.set_cons_zero, List.set_cons_succ, R.bind_ok, R.toS_ok, Nat.reduceAdd, Nat.reduceSub, Nat.zero_add, En.eq_cell, En.asB_ok, En.eq_int, En.lt_ok, En.le_ok, En.sub_ok, En.add_ok, En.abs_ok, En.cell_0, En.cell_1, decide_true, decide_false, Bool.false_eq_true, if_true, if_false, Bool.not_true, Bool.not_false, mNot, i1 i hi', c1]) (by rw [List.length_nil, List.length_range, Nat.zero_add]; exact hl)
  rw [f3] at e
  exact e
theorem f0 (t : T) : fFz [] t = .ok (.d (.lst [])) t := rfl
theorem f1 (t : T) : fLen [] t = .ok [] t := rfl
theorem f2 (t : T) : fEq (.d (.lst [])) (.d (.lst [])) t = .ok (.d (.bl true)) t := by
  rw [eq_of_val (val_L0 t) (val_L0 t), eqv_L0]
  rfl
theorem f4 (i : Int) (t : T) : fNe (.d (.int i)) (.d (.int i)) t = .ok (.d (.bl false)) t := by rw [En.ne_int]; simp
theorem fb (i : Bool) (t : T) : fNe (.d (.bl i)) (.d (.bl i)) t = .ok (.d (.bl false)) t := by rw [ne_bl]; simp
theorem it1 (ds : List D) (t : T) : fIsi ["dict"] (.d (.tup ds)) t = .ok (.d (.bl false)) t := rfl
theorem it2 (ds : List D) (t : T) : fIsi ["tuple", "list"] (.d (.tup ds)) t = .ok (.d (.bl true)) t := rfl
theorem it3 (ds : List D) (t : T) : fIsi ["list"] (.d (.tup ds)) t = .ok (.d (.bl false)) t := rfl
theorem il1 (ds : List D) (t : T) : fIsi ["dict"] (.d (.lst ds)) t = .ok (.d (.bl false)) t := rfl
theorem il2 (ds : List D) (t : T) : fIsi ["tuple", "list"] (.d (.lst ds)) t = .ok (.d (.bl true)) t := rfl
theorem il3 (ds : List D) (t : T) : fIsi ["list"] (.d (.lst ds)) t = .ok (.d (.bl true)) t := rfl
theorem alike_tup (n : Nat) (ds : List D) (hl : ds.length ≤ lim) (h : ∀ d ∈ ds, ∀ b, f__law_alike n [.d d, .d d] b = .ok (.d (.bl true)) ⟨[], b⟩) (b : Box) : f__law_alike (n + 1) [.d (.tup ds), .d (.tup ds)] b = .ok (.d (.bl true)) ⟨[], b⟩ := by
  have hc := al_comp n (.tup ds) ds b hl h fun i hi t => by
    rw [ixt_ok (by omega) (by omega)]
    have : (0 + (i : Int)).toNat = i := by omega
    rw [this]
  have hr := range_ok hl ⟨[], b⟩
  rw [alike_s]
  unfold runF runG r__law_alike
  simp only [List.map_cons, List.map_nil, List.length_cons, List.length_nil, List.replicate, List.cons_append, List.nil_append, List.append_nil, sSeq, sIf, sRet, sNil, sSet, sDrop, m2, m1, mL, mCons, mNil, mC, mVar, mIf, List.getElem?_cons_zero, List.getElem?_cons_succ, List.set_cons_zero, List.set_cons_succ, R.bind_ok, R.toS_ok, Nat.reduceAdd, Nat.reduceSub, Nat.zero_add, En.eq_cell, En.asB_ok, En.eq_int, En.lt_ok, En.le_ok, En.sub_ok, En.add_ok, En.abs_ok, En.cell_0, En.cell_1, decide_true, decide_false, Bool.false_eq_true, if_true, if_false, Bool.not_true, Bool.not_false, mOr, mNot, it1, it2, it3, fb, len_tup, f4, mLc, wipeR, hr, hc, f0, f1, f2]
theorem alike_lst (n : Nat) (ds : List D) (hl : ds.length ≤ lim) (h : ∀ d ∈ ds, ∀ b, f__law_alike n [.d d, .d d] b = .ok (.d (.bl true)) ⟨[], b⟩) (b : Box) : f__law_alike (n + 1) [.d (.lst ds), .d (.lst ds)] b = .ok (.d (.bl true)) ⟨[], b⟩ := by
  have hc := al_comp n (.lst ds) ds b hl h fun i hi t => by
    rw [ixl_ok (by omega) (by omega)]
    have : (0 + (i : Int)).toNat = i := by omega
    rw [this]
  have hr := range_ok hl ⟨[], b⟩
  rw [alike_s]
  unfold runF runG r__law_alike
  simp only [List.map_cons, List.map_nil, List.length_cons, List.length_nil, List.replicate, List.cons_append, List.nil_append, List.append_nil, sSeq, sIf, sRet, sNil, sSet, sDrop, m2, m1, mL, mCons, mNil, mC, mVar, mIf, List.getElem?_cons_zero, List.getElem?_cons_succ, List.set_cons_zero, List.set_cons_succ, R.bind_ok, R.toS_ok, Nat.reduceAdd, Nat.reduceSub, Nat.zero_add, En.eq_cell, En.asB_ok, En.eq_int, En.lt_ok, En.le_ok, En.sub_ok, En.add_ok, En.abs_ok, En.cell_0, En.cell_1, decide_true, decide_false, Bool.false_eq_true, if_true, if_false, Bool.not_true, Bool.not_false, mOr, mNot, il1, il2, il3, fb, len_lst, f4, mLc, wipeR, hr, hc, f0, f1, f2]
theorem alike_cells (ps : List (Int × Int)) (hl : ps.length ≤ lim) (b : Box) : f__law_alike 6 [.d (.lst (ps.map cellD)), .d (.lst (ps.map cellD))] b = .ok (.d (.bl true)) ⟨[], b⟩ := by
  refine alike_lst 5 _ (by rw [List.length_map]; exact hl) (fun d hd b => ?_) b
  obtain ⟨c, _, rfl⟩ := List.mem_map.mp hd
  refine alike_tup 4 _ (by show 2 ≤ 100000; decide) (fun d hd b => ?_) b
  have : d = .int c.1 ∨ d = .int c.2 := by simpa using hd
  rcases this with rfl | rfl
  · exact alike_int 3 _ b
  · exact alike_int 3 _ b
end K90
set_option Elab.async false
set_option linter.all false
set_option maxRecDepth 100000
set_option maxHeartbeats 2000000
namespace K90
open PySem PySem.Spec PyProof.Rows L2 En
theorem mVar_sat {i : Nat} {ρ : Rho} {t : T} {Q : Val → T → Prop} : (mVar i ρ t).sat Q = match ρ[i]? with | some (some v) => Q v t | _ => False := by
  unfold mVar
  cases ρ[i]? with
  | none => exact sat_stuck
  | some o => cases o with
    | none => exact sat_stuck
    | some v => exact sat_ok
end K90
set_option Elab.async false
set_option linter.all false
set_option maxRecDepth 100000
set_option maxHeartbeats 2000000
namespace K90
open PySem PySem.Spec PyProof.Rows L2 En
def signAt (rows : List Str) (r c : Nat) : Nat := ((rows.getD r ⟨#[]⟩).cps.toList).getD c 0
def rowCells (rows : List Str) (w r : Nat) : List (Int × Int) := ((List.range w).filter fun c => !(signAt rows r c == 126)).map fun (c : Nat) => ((r : Int), (c : Int))
def cellsOf (rows : List Str) (w : Nat) : List (Int × Int) := (List.range rows.length).foldl (fun acc r => acc ++ rowCells rows w r) []
theorem cells_ix {rows : List Str} {w : Nat} (hr : RowsOk rows w) {r c : Nat} (h1 : r < rows.length) (h2 : c < w) (t : T) :
    fIx (.d (.lst (rows.map D.str))) (.d (.int (0 + (r : Int)))) t = .ok (.d (.str (rows.getD r ⟨#[]⟩))) t ∧ fIx (.d (.str (rows.getD r ⟨#[]⟩))) (.d (.int (0 + (c : Int)))) t = .ok (.d (.str ⟨#[signAt rows r c]⟩)) t ∧ signAt rows r c ∈ [46, 126, 65, 66, 84] := by
  have e1 : rows.getD r ⟨#[]⟩ = rows[r] := by rw [List.getD_eq_getElem?_getD, List.getElem?_eq_getElem h1]; rfl
  have hm : rows[r] ∈ rows := List.getElem_mem h1
  have hw : rows[r].length = w := hr.row _ hm
  have hw' : rows[r].cps.toList.length = w := hw
  have hl : w ≤ lim := Nat.le_trans hr.w2 (by decide)
  have z1 : (0 + (r : Int)).toNat = r := by omega
  have z2 : (0 + (c : Int)).toNat = c := by omega
  refine ⟨?_, ?_, ?_⟩
  · rw [ixl_ok (by omega) (by rw [List.length_map]; omega), z1, List.getD_eq_getElem?_getD, List.getElem?_map, List.getElem?_eq_getElem h1, e1]
    rfl
  · rw [e1, ixs_ok (by rw [hw]; exact hl) (by omega) (by rw [hw']; omega), z2]
    unfold signAt
    rw [e1]
  · unfold signAt
    rw [e1, List.getD_eq_getElem?_getD, List.getElem?_eq_getElem (by rw [hw']; exact h2)]
    exact hr.sign _ hm _ (List.getElem_mem _)
theorem sign_ne {s : Nat} (hs : s ∈ [46, 126, 65, 66, 84]) (t : T) : fNe (.d (.str ⟨#[s]⟩)) (.d (.str "~")) t = .ok (.d (.bl (!(s == 126)))) t := by
  rw [En.ne_str (sign_ok hs) (by decide +kernel)]
  by_cases h : s = 126
  · subst h
    have e : (((⟨#[126]⟩ : Str) == ("~" : Str)) = true) := by decide +kernel
    rw [e]
    rfl
  · rw [w_ne h]
    have : (s == 126) = false := by simpa using h
    rw [this]
theorem row_comp {rows : List Str} {w : Nat} (hr : RowsOk rows w) {r : Nat} (h1 : r < rows.length) (v1 : Option Val) (b : Box) :
    lcM (gN 3) (m1 asB (m2 fNe (m2 fIx (m2 fIx (mVar 0) (mVar 2)) (mVar 3)) (mC (.str "~")))) (mL fTup (mCons (mVar 2) (mCons (mVar 3) mNil))) [some (.d (.lst (rows.map D.str))), v1, some (.d (.int (0 + (r : Int)))), none] (intsV 0 w) [] ⟨[], b⟩ = .ok (((rowCells rows w r).map cellD).map Val.d) ⟨[], b⟩ := by
  have hl : w ≤ lim := Nat.le_trans hr.w2 (by decide)
  have e := lcM_filter (f := gN 3) (tt := m1 asB (m2 fNe (m2 fIx (m2 fIx (mVar 0) (mVar 2)) (mVar 3)) (mC (.str "~")))) (te := mL fTup (mCons (mVar 2) (mCons (mVar 3) mNil))) (ρ := [some (.d (.lst (rows.map D.str))), v1, some (.d (.int (0 + (r : Int)))), none]) (t := ⟨[], b⟩) (fun (i : Nat) => Val.d (.int (0 + (i : Int)))) (fun c => !(signAt rows r c == 126)) (fun c => .d (cellD ((r : Int), (c : Int)))) (List.range w) [] (fun c hc => by
    obtain ⟨i1, i2, i3⟩ := cells_ix hr h1 (List.mem_range.mp hc) ⟨[], b⟩
    refine ⟨_, rfl, ?_, fun _ => ?_⟩
    · simp only [List.map_cons, List.map_nil, List.length_cons, List.length_nil, List.replicate, List.cons_append, List.nil_append, List.append_nil, sSeq, sIf, sRet, sNil, sSet, sDrop, m2, m1, mL, mCons, mNil, mC, mVar, mIf, List.getElem?_cons_zero, List.getElem?_cons_succ, List.set_cons_zero, List.set_cons_succ, R.bind_ok, R.toS_ok, Nat.reduceAdd, Nat.reduceSub, Nat.zero_add, En.eq_cell, En.asB_ok, En.eq_int, En.lt_ok, En.le_ok, En.sub_ok, En.add_ok, En.abs_ok, En.cell_0, En.cell_1, decide_true, decide_false, Bool.false_eq_true, if_true, if_false, Bool.not_true, Bool.not_false, i1, i2, sign_ne i3]
    · have z1 : (0 + (r : Int)) = (r : Int) := by omega
      have z2 : (0 + (c : Int)) = (c : Int) := by omega
      simp only [List.map_cons, List.map_nil, List.length_cons, List.length_nil, List.replicate, List.cons_append, List.nil_append, List.append_nil, sSeq, sIf, sRet, sNil, sSet, sDrop, m2, m1, mL, mCons, mNil, mC, mVar, mIf, List.getElem?_cons_zero, List.getElem?_cons_succ, List.set_cons_zero, List.set_cons_succ, R.bind_ok, R.toS_ok, Nat.reduceAdd, Nat.reduceSub, Nat.zero_add, En.eq_cell, En.asB_ok, En.eq_int, En.lt_ok, En.le_ok, En.sub_ok, En.add_ok, En.abs_ok, En.cell_0, En.cell_1, decide_true, decide_false, Bool.false_eq_true, if_true, if_false, Bool.not_true, Bool.not_false, z1, z2]
      rfl) (by rw [List.length_nil, List.length_range, Nat.zero_add]; exact hl)
  rw [intsV_map]
  rw [e]
  simp only [List.nil_append, rowCells, List.map_map]
  rfl
theorem rowCells_len (rows : List Str) (w r : Nat) : (rowCells rows w r).length ≤ w := by
  unfold rowCells
  rw [List.length_map]
  exact Nat.le_trans (List.length_filter_le ..) (by rw [List.length_range]; exact Nat.le_refl _)
theorem fold_len (rows : List Str) (w : Nat) : ∀ (xs : List Nat) (acc : List (Int × Int)), (xs.foldl (fun acc r => acc ++ rowCells rows w r) acc).length ≤ acc.length + xs.length * w
  | [], acc => by simp
  | x :: xs, acc => by
    rw [List.foldl_cons]
    have h1 := fold_len rows w xs (acc ++ rowCells rows w x)
    have h2 := rowCells_len rows w x
    rw [List.length_append] at h1
    rw [List.length_cons, Nat.succ_mul]
    omega
theorem add_lst {xs ys : List D} (h : xs.length + ys.length ≤ lim) (t : T) : fAdd (.d (.lst xs)) (.d (.lst ys)) t = .ok (.d (.lst (xs ++ ys))) t := by
  show (if (xs.map Val.d).length + (ys.map Val.d).length ≤ lim then _ else _) = _
  rw [List.length_map, List.length_map, if_pos h, ← List.map_append]
  show (match datas ((xs ++ ys).map Val.d) with | some ds => _ | none => _) = _
  rw [datas_map]
theorem cells_loop {rows : List Str} {w : Nat} (hr : RowsOk rows w) (b : Box) (z0 : ∀ t : T, fIx (.d (.lst (rows.map D.str))) (.d (.int 0)) t = .ok (.d (.str (rows.getD 0 ⟨#[]⟩))) t) (i3 : ∀ t : T, fLenB [.d (.str (rows.getD 0 ⟨#[]⟩))] t = .ok (.d (.int (w : Int))) t) : ∀ (xs : List Nat) (acc : List (Int × Int)) (o2 o3 : Option Val), (∀ r ∈ xs, r < rows.length) → acc.length + xs.length * w ≤ 1000 →
    ∃ o2' o3', forM (gN 2) (sSet 1 (m2 fAdd (mVar 1) (mL fFz (mLc [3] (gN 3) (mL fRange1 (mCons (mL fLenB (mCons (m2 fIx (mVar 0) (mC (.int 0))) mNil)) mNil)) (m1 asB (m2 fNe (m2 fIx (m2 fIx (mVar 0) (mVar 2)) (mVar 3)) (mC (.str "~")))) (mL fTup (mCons (mVar 2) (mCons (mVar 3) mNil))))))) (xs.map fun (i : Nat) => Val.d (.int (0 + (i : Int)))) [some (.d (.lst (rows.map D.str))), some (.d (.lst (acc.map cellD))), o2, o3] ⟨[], b⟩ = .nx [some (.d (.lst (rows.map D.str))), some (.d (.lst ((xs.foldl (fun acc r => acc ++ rowCells rows w r) acc).map cellD))), o2', o3'] ⟨[], b⟩
  | [], acc, o2, o3, _, _ => ⟨o2, o3, rfl⟩
  | r :: xs, acc, o2, o3, h, hl => by
    have hw : w ≤ lim := Nat.le_trans hr.w2 (by decide)
    have hlen := rowCells_len rows w r
    rw [List.length_cons, Nat.succ_mul] at hl
    obtain ⟨o2', o3', e⟩ := cells_loop hr b z0 i3 xs (acc ++ rowCells rows w r) (some (.d (.int (0 + (r : Int))))) o3 (fun x hx => h x (List.mem_cons_of_mem _ hx)) (by rw [List.length_append]; omega)
    refine ⟨o2', o3', ?_⟩
    have rc := row_comp hr (h r (List.mem_cons_self ..)) (some (.d (.lst (acc.map cellD)))) b
    have q2 := range_ok hw ⟨[], b⟩
    have ad := add_lst (xs := acc.map cellD) (ys := (rowCells rows w r).map cellD) (by rw [List.length_map, List.length_map]; show _ ≤ 100000; omega) ⟨[], b⟩
    rw [List.map_cons, List.foldl_cons, ← e]
    show turnS (sSet 1 (m2 fAdd (mVar 1) (mL fFz (mLc [3] (gN 3) (mL fRange1 (mCons (mL fLenB (mCons (m2 fIx (mVar 0) (mC (.int 0))) mNil)) mNil)) (m1 asB (m2 fNe (m2 fIx (m2 fIx (mVar 0) (mVar 2)) (mVar 3)) (mC (.str "~")))) (mL fTup (mCons (mVar 2) (mCons (mVar 3) mNil)))))) [some (.d (.lst (rows.map D.str))), some (.d (.lst (acc.map cellD))), some (.d (.int (0 + (r : Int)))), o3] ⟨[], b⟩) _ = _
    simp only [List.map_cons, List.map_nil, List.length_cons, List.length_nil, List.replicate, List.cons_append, List.nil_append, List.append_nil, sSeq, sIf, sRet, sNil, sSet, sDrop, m2, m1, mL, mCons, mNil, mC, mVar, mIf, List.getElem?_cons_zero, List.getElem?_cons_succ, List.set_cons_zero, List.set_cons_succ, R.bind_ok, R.toS_ok, Nat.reduceAdd, Nat.reduceSub, Nat.zero_add, En.eq_cell, En.asB_ok, En.eq_int, En.lt_ok, En.le_ok, En.sub_ok, En.add_ok, En.abs_ok, En.cell_0, En.cell_1, decide_true, decide_false, Bool.false_eq_true, if_true, if_false, Bool.not_true, Bool.not_false, mLc, wipeR, z0, i3, q2, rc, fFz, datas_map, ad, turnS, List.map_append]
theorem cells_eq {rows : List Str} {w : Nat} (hr : RowsOk rows w) (b : Box) : f__law_cells [.d (.lst (rows.map D.str))] b = .ok (.d (.lst ((cellsOf rows w).map cellD))) ⟨[], b⟩ := by
  have hw : w ≤ lim := Nat.le_trans hr.w2 (by decide)
  have hpos : 0 < rows.length := List.length_pos_iff.mpr hr.ne
  have z0 : ∀ t : T, fIx (.d (.lst (rows.map D.str))) (.d (.int 0)) t = .ok (.d (.str (rows.getD 0 ⟨#[]⟩))) t := fun t => by
    rw [ixl_ok (by omega) (by rw [List.length_map]; omega), List.getD_eq_getElem?_getD, List.getElem?_map]
    show R.ok (Val.d ((Option.map D.str rows[0]?).getD .non)) t = _
    rw [List.getElem?_eq_getElem hpos, List.getD_eq_getElem?_getD, List.getElem?_eq_getElem hpos]
    rfl
  have hw0 : (rows.getD 0 ⟨#[]⟩).length = w := by
    rw [List.getD_eq_getElem?_getD, List.getElem?_eq_getElem hpos]
    exact hr.row _ (List.getElem_mem hpos)
  have i3 : ∀ t : T, fLenB [.d (.str (rows.getD 0 ⟨#[]⟩))] t = .ok (.d (.int (w : Int))) t := fun t => by rw [len_str (by rw [hw0]; exact hw), hw0]
  have i1 : ∀ t : T, fLenB [.d (.lst (rows.map D.str))] t = .ok (.d (.int (rows.length : Int))) t := fun t => by rw [len_lst, List.length_map]
  have hrl : rows.length ≤ lim := Nat.le_trans hr.len (by decide)
  have q1 := range_ok hrl ⟨[], b⟩
  have hm : rows.length * w ≤ 12 * 12 := Nat.mul_le_mul hr.len hr.w2
  obtain ⟨o2, o3, e⟩ := cells_loop hr b z0 i3 (List.range rows.length) [] none none (fun r h => List.mem_range.mp h) (by rw [List.length_nil, List.length_range]; omega)
  unfold f__law_cells runF runG m__law_cells
  simp only [List.map_cons, List.map_nil, List.length_cons, List.length_nil, List.replicate, List.cons_append, List.nil_append, List.append_nil, sSeq, sIf, sRet, sNil, sSet, sDrop, m2, m1, mL, mCons, mNil, mC, mVar, mIf, List.getElem?_cons_zero, List.getElem?_cons_succ, List.set_cons_zero, List.set_cons_succ, R.bind_ok, R.toS_ok, Nat.reduceAdd, Nat.reduceSub, Nat.zero_add, En.eq_cell, En.asB_ok, En.eq_int, En.lt_ok, En.le_ok, En.sub_ok, En.add_ok, En.abs_ok, En.cell_0, En.cell_1, decide_true, decide_false, Bool.false_eq_true, if_true, if_false, Bool.not_true, Bool.not_false, sFor, f0, f1, i1, q1, intsV_map] at e ⊢
  rw [e]
  rfl
end K90
set_option Elab.async false
set_option linter.all false
set_option maxRecDepth 100000
set_option maxHeartbeats 2000000
namespace En
open PySem PySem.Spec PyProof.Rows L2
theorem join0_foldl : ∀ (ss : List Str) (acc : Array Nat), (ss.foldl (fun acc p => acc ++ (#[] : Array Nat) ++ p.cps) acc).toList = acc.toList ++ ss.flatMap fun p => p.cps.toList
  | [], acc => by simp
  | s :: ss, acc => by
    rw [List.foldl_cons, join0_foldl ss]
    simp
theorem join0 (ss : List Str) : (Txt.join (⟨#[]⟩ : Str) ss).cps.toList = ss.flatMap fun p => p.cps.toList := by
  cases ss with
  | nil => rfl
  | cons s ss =>
    show (List.foldl (fun acc p => acc ++ (#[] : Array Nat) ++ p.cps) s.cps ss).toList = _
    rw [join0_foldl]
    simp
end En
set_option Elab.async false
set_option linter.all false
set_option maxRecDepth 100000
set_option maxHeartbeats 2000000
namespace K90
open PySem PySem.Spec PyProof.Rows L2 En
def isSign (v : Val) : Prop := ∃ s ∈ [46, 126, 65, 66, 84], v = .d (.str ⟨#[s]⟩)
end K90
set_option Elab.async false
set_option linter.all false
set_option maxRecDepth 100000
set_option maxHeartbeats 2000000
namespace K90
open PySem PySem.Spec PyProof.Rows L2 En
theorem signs_data : ∀ (us : List Val), (∀ v ∈ us, isSign v) → ∃ cs : List Nat, us = (cs.map fun s => D.str ⟨#[s]⟩).map Val.d ∧ ∀ s ∈ cs, s ∈ [46, 126, 65, 66, 84]
  | [], _ => ⟨[], rfl, fun _ h => (by cases h)⟩
  | u :: us, h => by
    obtain ⟨s, hs, rfl⟩ := h u (List.mem_cons_self ..)
    obtain ⟨cs, rfl, hc⟩ := signs_data us fun v hv => h v (List.mem_cons_of_mem _ hv)
    refine ⟨s :: cs, rfl, fun x hx => ?_⟩
    rcases List.mem_cons.mp hx with rfl | hx
    · exact hs
    · exact hc x hx
theorem strsV_map : ∀ cs : List Nat, strsV ((cs.map fun s => D.str ⟨#[s]⟩).map Val.d) = some (cs.map fun s => (⟨#[s]⟩ : Str))
  | [] => rfl
  | c :: cs => by simp only [List.map_cons, strsV, strsV_map cs]
theorem sum1 : ∀ cs : List Nat, ((cs.map fun s => (⟨#[s]⟩ : Str)).map (·.length)).sum = cs.length
  | [] => rfl
  | c :: cs => by
    simp only [List.map_cons, List.sum_cons, List.length_cons]
    rw [sum1 cs]
    show 1 + cs.length = cs.length + 1
    omega
theorem join_signs (cs : List Nat) (hl : cs.length ≤ 1000) (t : T) : ∃ x : Str, fJoin (.d (.str "")) [.d (.lst (cs.map fun s => D.str ⟨#[s]⟩))] t = .ok (.d (.str x)) t ∧ x.cps.toList = cs := by
  have e0 : ("" : Str) = ⟨#[]⟩ := by decide +kernel
  refine ⟨Txt.join ⟨#[]⟩ (cs.map fun s => (⟨#[s]⟩ : Str)), ?_, ?_⟩
  · rw [e0]
    have h1 : strsV ((cs.map fun s => D.str ⟨#[s]⟩).map Val.d) = some (cs.map fun s => (⟨#[s]⟩ : Str)) := strsV_map cs
    have h2 : ((cs.map fun s => (⟨#[s]⟩ : Str)).map (·.length)).sum + (cs.map fun s => (⟨#[s]⟩ : Str)).length * (⟨#[]⟩ : Str).length ≤ 16777216 := by
      rw [sum1]
      show cs.length + _ * 0 ≤ _
      omega
    show (match strsV ((cs.map fun s => D.str ⟨#[s]⟩).map Val.d) with | some ss => _ | none => _) = _
    rw [h1]
    exact if_pos h2
  · rw [join0]
    induction cs with
    | nil => rfl
    | cons c cs ih => simp only [List.map_cons, List.flatMap_cons, ih (by simp at hl; omega)]; rfl
end K90
set_option Elab.async false
set_option linter.all false
set_option maxRecDepth 100000
set_option maxHeartbeats 2000000
namespace K90
open PySem PySem.Spec PyProof.Rows L2 En
theorem w_sPar {i j : Nat} {m : ME (List Val)} {ρ : Rho} {t : T} {N : Rho → T → Prop} {V : Val → T → Prop} : (sPar i j m ρ t).sat N V = (m ρ t).sat fun vs t => match vs with | [u, v] => N ((ρ.set i (some u)).set j (some v)) t | _ => False := by
  unfold sPar
  rw [sat_toS]
  congr 1
  funext vs t
  rcases vs with _ | ⟨u, _ | ⟨v, _ | ⟨z, r⟩⟩⟩ <;> rfl
theorem w_mMeth {tb : Val → T → Bool} {f : Val → List Val → T → R Val} {mo : ME Val} {ma : ME (List Val)} {ρ : Rho} {t : T} {Q : Val → T → Prop} : (mMeth tb f mo ma ρ t).sat Q = (mo ρ t).sat fun v t => if tb v t then (ma ρ t).sat fun vs t => (f v vs t).sat Q else False := by
  unfold mMeth
  rw [sat_bind]
  congr 1
  funext v t
  split
  · rw [sat_bind]
  · exact sat_stuck
def RowT (w : Nat) (x : Str) : Prop := x.length = w ∧ ∀ c ∈ x.cps.toList, c ∈ [46, 126, 65, 66, 84]
end K90
set_option Elab.async false
set_option linter.all false
set_option maxRecDepth 100000
set_option maxHeartbeats 2000000
namespace K90
open PySem PySem.Spec PyProof.Rows L2 En
theorem rsat_mono {r : RS} {N N' : Rho → T → Prop} {V V' : Val → T → Prop} (h : r.sat N V) (k : ∀ ρ t, N ρ t → N' ρ t) (k2 : ∀ v t, V v t → V' v t) : r.sat N' V' := by
  cases r with
  | nx ρ t => exact k ρ t h
  | rt v t => exact k2 v t h
  | bk _ _ => exact h.elim
  | ct _ _ => exact h.elim
  | exc _ _ _ => exact h.elim
  | stuck => exact h.elim
theorem seq_sat {a b : MS} {ρ : Rho} {t : T} {N N' : Rho → T → Prop} {V : Val → T → Prop} (h : (a ρ t).sat N' V) (k : ∀ ρ t, N' ρ t → (b ρ t).sat N V) : (sSeq a b ρ t).sat N V := by
  rw [w_sSeq]
  exact rsat_mono h k fun _ _ x => x
theorem strsV_rows : ∀ rows : List Str, strsV ((rows.map D.str).map Val.d) = some rows
  | [] => rfl
  | c :: cs => by simp only [List.map_cons, strsV, strsV_rows cs]
theorem empty_eq : ("" : Str) = ⟨#[]⟩ := by decide +kernel
theorem sum_rows {w : Nat} : ∀ rows : List Str, (∀ x ∈ rows, x.length = w) → (rows.map (·.length)).sum = rows.length * w
  | [], _ => by simp
  | x :: rows, h => by
    rw [List.map_cons, List.sum_cons, sum_rows rows fun y hy => h y (List.mem_cons_of_mem _ hy), h x (List.mem_cons_self ..), List.length_cons, Nat.succ_mul]
    omega
theorem join_rows {w : Nat} (rows : List Str) (hw : w ≤ 1000) (hl : rows.length ≤ 1000) (h : ∀ x ∈ rows, x.length = w) (t : T) : fJoin (.d (.str "")) [.d (.lst (rows.map D.str))] t = .ok (.d (.str (Txt.join ⟨#[]⟩ rows))) t := by
  rw [empty_eq]
  have h2 : (rows.map (·.length)).sum + rows.length * (⟨#[]⟩ : Str).length ≤ 16777216 := by
    rw [sum_rows rows h]
    have : rows.length * w ≤ 1000 * 1000 := Nat.mul_le_mul hl hw
    show rows.length * w + rows.length * 0 ≤ _
    omega
  show (match strsV ((rows.map D.str).map Val.d) with | some ss => _ | none => _) = _
  rw [strsV_rows]
  exact if_pos h2
theorem join_len {w : Nat} (rows : List Str) (h : ∀ x ∈ rows, x.length = w) : (Txt.join ⟨#[]⟩ rows).length = rows.length * w := by
  show (Txt.join ⟨#[]⟩ rows).cps.toList.length = _
  rw [join0, ← sum_rows rows h]
  simp only [List.length_flatMap]
  rfl
theorem strOk_of {x : Str} (h : ∀ c ∈ x.cps.toList, c ∈ [46, 126, 65, 66, 84]) : PyData.strOk x = true := by
  unfold PyData.strOk
  rw [← Array.all_toList]
  refine List.all_eq_true.mpr fun c hc => ?_
  have := h c hc
  simp only [List.mem_cons, List.mem_nil_iff, or_false] at this
  exact decide_eq_true (by omega)
theorem beq_empty (x : Str) : (x == ("" : Str)) = x.cps.toList.isEmpty := by
  rw [empty_eq]
  obtain ⟨⟨l⟩⟩ := x
  cases l with
  | nil => rfl
  | cons a l =>
    rw [show List.isEmpty (Array.toList { toList := a :: l }) = false from rfl]
    cases hb : ((⟨⟨a :: l⟩⟩ : Str) == (⟨#[]⟩ : Str)) with
    | false => rfl
    | true =>
      have := eq_of_beq hb
      cases this
theorem dots {w : Nat} (h1 : 1 ≤ w) : (strMul "." (w : Int)).cps.toList = List.replicate w 46 := by
  have e : ("." : Str) = ⟨#[46]⟩ := by decide +kernel
  rw [e]
  unfold strMul
  rw [if_neg (by omega)]
  by_cases h : w = 1
  · subst h
    rfl
  · have : (((w : Int) == 1) || ((⟨#[46]⟩ : Str).length == 0)) = false := by
      have h2 : ((w : Int) == 1) = false := by
        rw [beq_eq_false_iff_ne]; omega
      rw [h2]; rfl
    rw [if_neg (by rw [this]; decide)]
    show (List.foldl (· ++ ·) (#[] : Array Nat) (List.replicate (w : Int).toNat #[46])).toList = _
    rw [Int.toNat_natCast]
    have gen : ∀ (n : Nat) (acc : Array Nat), (List.foldl (· ++ ·) acc (List.replicate n #[46])).toList = acc.toList ++ List.replicate n 46 := by
      intro n
      induction n with
      | zero => intro acc; simp
      | succ n ih => intro acc; rw [List.replicate_succ, List.foldl_cons, ih]; simp [List.replicate_succ]
    rw [gen]
    rfl
end K90
set_option Elab.async false
set_option linter.all false
set_option maxRecDepth 100000
set_option maxHeartbeats 2000000
namespace K90
open PySem PySem.Spec PyProof.Rows L2 En
def HasLand (rows : List Str) : Prop := ∃ x ∈ rows, ∃ c ∈ x.cps.toList, c ≠ 126
theorem w_sFz {i : Nat} {m : MS} {ρ : Rho} {t t1 : T} {v a : Val} {N : Rho → T → Prop} {V : Val → T → Prop} (h1 : ρ[i]? = some (some v)) (h2 : fFreeze v t = .ok a t1) : (sFz i m ρ t).sat N V = (m (ρ.set i (some a)) t1).sat N V := by
  unfold sFz
  rw [h1]
  simp only [h2]
theorem dead_at {pre : List Cell} {vs : List Val} {b : Box} : fFreeze (.loc pre.length) ⟨pre ++ [.lst vs], b⟩ = match datas vs with | some ds => .ok (.d (.lst ds)) ⟨pre ++ [.dead], b⟩ | none => .stuck := by
  unfold fFreeze
  simp only [List.getElem?_append_right (Nat.le_refl _), Nat.sub_self, List.getElem?_cons_zero]
  cases datas vs with
  | none => rfl
  | some ds => simp
theorem cut_tail (ds : List D) : En.cut (ds.map Val.d) (some 1) none = (ds.drop 1).map Val.d := by
  unfold En.cut
  cases ds with
  | nil => rfl
  | cons d ds =>
    have e1 : HT.sIx ((d :: ds).map Val.d).length 0 (some 1) = 1 := by
      show HT.sIx (ds.map Val.d).length.succ 0 (some 1) = 1
      unfold HT.sIx
      simp
      try omega
    have e2 : HT.sIx ((d :: ds).map Val.d).length ((d :: ds).map Val.d).length none = ((d :: ds).map Val.d).length := rfl
    rw [e1, e2]
    simp only [List.map_cons, List.drop_succ_cons, List.drop_zero, List.length_cons, Nat.add_sub_cancel]
    rw [List.take_of_length_le (by simp)]
end K90
set_option Elab.async false
set_option linter.all false
set_option maxRecDepth 100000
set_option maxHeartbeats 2000000
namespace K90
open PySem PySem.Spec PyProof.Rows L2 En
theorem forM_keep {f : Val → Rho → Option Rho} {b : MS} (S : Rho → Prop) (t : T) : ∀ (vs : List Val) (ρ : Rho), S ρ →
    (∀ v ρ, v ∈ vs → S ρ → ∃ ρ' ρ'', f v ρ = some ρ' ∧ b ρ' t = .nx ρ'' t ∧ S ρ'') → ∃ ρ', forM f b vs ρ t = .nx ρ' t ∧ S ρ'
  | [], ρ, h, _ => ⟨ρ, rfl, h⟩
  | x :: xs, ρ, h, hs => by
    obtain ⟨ρ', ρ'', e1, e2, h'⟩ := hs x ρ (List.mem_cons_self ..) h
    obtain ⟨ρ3, e3, h3⟩ := forM_keep S t xs ρ'' h' fun y ρ hy => hs y ρ (List.mem_cons_of_mem _ hy)
    refine ⟨ρ3, ?_, h3⟩
    unfold En.forM
    rw [e1]
    show turnS (b ρ' t) _ = _
    rw [e2]
    exact e3
theorem pairs_mem {ds : List D} {v : Val} (h : v ∈ pairsFrom 0 ds) : ∃ (i : Nat) (d : D), ds[i]? = some d ∧ v = .d (.tup [.int (i : Int), d]) := by
  obtain ⟨i, hi⟩ := List.getElem?_of_mem h
  obtain ⟨d, h1, h2⟩ := pairs_get hi
  exact ⟨i, d, h1, by simpa using h2⟩
theorem min2_ok (i j : Int) (t : T) : fMin2 [.d (.int i), .d (.int j)] t = .ok (.d (.int (if j < i then j else i))) t := rfl
theorem signs_in : ∀ c ∈ [46, 126, 65, 66, 84], decide (c ∈ ((("." : Str) ++ ("~" : Str)) ++ ("ABCDEFGHIJKLMNOPQRSTUVWXYZ" : Str)).cps.toList) = true := by decide +kernel
theorem notIn_signs {c : Nat} (h : c ∈ [46, 126, 65, 66, 84]) (t : T) : fNotIn (.d (.str ⟨#[c]⟩)) (.d (.str ((("." : Str) ++ ("~" : Str)) ++ ("ABCDEFGHIJKLMNOPQRSTUVWXYZ" : Str)))) t = .ok (.d (.bl false)) t := by
  show retB (!(strIn ⟨#[c]⟩ ((("." : Str) ++ ("~" : Str)) ++ ("ABCDEFGHIJKLMNOPQRSTUVWXYZ" : Str)))) t = _
  have : strIn ⟨#[c]⟩ ((("." : Str) ++ ("~" : Str)) ++ ("ABCDEFGHIJKLMNOPQRSTUVWXYZ" : Str)) = true := signs_in c h
  rw [this]
  rfl
theorem cat_signs1 (t : T) : fAdd (.d (.str ".")) (.d (.str "~")) t = .ok (.d (.str (("." : Str) ++ ("~" : Str)))) t := rfl
theorem cat_signs2 (t : T) : fAdd (.d (.str (("." : Str) ++ ("~" : Str)))) (.d (.str "ABCDEFGHIJKLMNOPQRSTUVWXYZ")) t = .ok (.d (.str ((("." : Str) ++ ("~" : Str)) ++ ("ABCDEFGHIJKLMNOPQRSTUVWXYZ" : Str)))) t := by
  have h : (("." : Str) ++ ("~" : Str)).length + ("ABCDEFGHIJKLMNOPQRSTUVWXYZ" : Str).length ≤ lim := by decide +kernel
  unfold fAdd
  simp only [h, if_true]
theorem enum_str (x : Str) (t : T) : fEnum [.d (.str x)] t = .ok (pairsFrom 0 (charsD x)) t := rfl
theorem enum_tup (ds : List D) (t : T) : fEnum [.d (.tup ds)] t = .ok (pairsFrom 0 ds) t := rfl
theorem init_eq {rows : List Str} {w : Nat} (hr : RowsOk rows w) (b : Box) : f_Island____init__ [.loc 0, .d (.tup (rows.map D.str))] ⟨[.ins "Island" []], b⟩ = .ok (.d .non) ⟨[.ins "Island" [("own_rows", .d (.tup (rows.map D.str)))]], b⟩ := by
  have hpos : 0 < rows.length := List.length_pos_iff.mpr hr.ne
  obtain ⟨y, e0⟩ : ∃ y, rows[0]? = some y := ⟨rows[0], List.getElem?_eq_getElem hpos⟩
  have hy : y.length = w := hr.row y (List.mem_of_getElem? e0)
  have hyl : y.cps.toList.length = w := hy
  have w2 := hr.w2
  have w1 := hr.w1
  have i1 : ∀ t : T, fLenB [.d (.tup (rows.map D.str))] t = .ok (.d (.int (rows.length : Int))) t := fun t => by rw [len_tup, List.length_map]
  have i2 : ∀ t : T, fIx (.d (.tup (rows.map D.str))) (.d (.int 0)) t = .ok (.d (.str y)) t := fun t => by
    rw [ixt_ok (by omega) (by rw [List.length_map]; omega)]
    rw [List.getD_eq_getElem?_getD, List.getElem?_map]
    show R.ok (Val.d ((Option.map D.str rows[0]?).getD .non)) t = _
    rw [e0]
    rfl
  have i3 : ∀ t : T, fLenB [.d (.str y)] t = .ok (.d (.int (w : Int))) t := fun t => by rw [len_str (by rw [hy]; exact Nat.le_trans w2 (by decide)), hy]
  have i4 : ∀ t : T, fEq (.d (.str y)) (.d (.str "")) t = .ok (.d (.bl false)) t := fun t => by
    rw [En.eq_str (strOk_of (hr.sign y (List.mem_of_getElem? e0))) (by decide +kernel), beq_empty]
    cases h : y.cps.toList with
    | nil => rw [h] at hyl; simp at hyl; omega
    | cons _ _ => rfl
  have hne0 : ¬ ((rows.length : Int) = 0) := by omega
  obtain ⟨ρ', ef, o2, o3, o4, o5, eρ⟩ := forM_keep (f := gT 2 (gsCons (gN 2) (gsCons (gN 3) gsNil))) (b := (sSeq (sIf (m1 asB (m2 fEq (mVar 2) (mC d_MAX_SIZE)))
     sNever
     sNil)
     (sSeq (sFor (gT 2 (gsCons (gN 4) (gsCons (gN 5) gsNil))) (mL fEnum (mCons (mVar 3) mNil))
      (sIf (mOr (m1 asB (m2 fEq (mVar 4) (mL fMin2 (mCons (mC d_MAX_SIZE) (mCons (mL fLenB (mCons (m2 fIx (mVar 1) (mC (.int 0))) mNil)) mNil))))) (m1 asB (m2 fNotIn (mVar 5) (m2 fAdd (m2 fAdd (mC d_LAND) (mC d_WATER)) (mC d_LETTERS)))))
       sNever
       sNil))
      (sIf (m1 asB (m2 fLt (mL fLenB (mCons (mVar 3) mNil)) (mL fLenB (mCons (m2 fIx (mVar 1) (mC (.int 0))) mNil))))
       sNever
       sNil)))) (fun ρ => ∃ o2 o3 o4 o5, ρ = [some (.loc 0), some (.d (.tup (rows.map D.str))), o2, o3, o4, o5]) ⟨[.ins "Island" []], b⟩ (pairsFrom 0 (rows.map D.str)) [some (.loc 0), some (.d (.tup (rows.map D.str))), none, none, none, none] ⟨none, none, none, none, rfl⟩ (by
    rintro v ρ hv ⟨o2, o3, o4, o5, rfl⟩
    obtain ⟨i, d, hd, rfl⟩ := pairs_mem hv
    rw [List.getElem?_map] at hd
    obtain ⟨x, hx, rfl⟩ := Option.map_eq_some_iff.mp hd
    have hi : i < rows.length := (List.getElem?_eq_some_iff.mp hx).1
    have hi12 : ¬ ((i : Int) = 12) := by have := hr.len; omega
    have hxm := List.mem_of_getElem? hx
    have hxl : x.cps.toList.length = w := hr.row x hxm
    have i5 : ∀ t : T, fLenB [.d (.str x)] t = .ok (.d (.int (w : Int))) t := fun t => by rw [len_str (by rw [hr.row x hxm]; exact Nat.le_trans w2 (by decide)), hr.row x hxm]
    obtain ⟨ρ2, ef2, p4, p5, eρ2⟩ := forM_keep (f := gT 2 (gsCons (gN 4) (gsCons (gN 5) gsNil))) (b := (sIf (mOr (m1 asB (m2 fEq (mVar 4) (mL fMin2 (mCons (mC d_MAX_SIZE) (mCons (mL fLenB (mCons (m2 fIx (mVar 1) (mC (.int 0))) mNil)) mNil))))) (m1 asB (m2 fNotIn (mVar 5) (m2 fAdd (m2 fAdd (mC d_LAND) (mC d_WATER)) (mC d_LETTERS)))))
       sNever
       sNil)) (fun ρ => ∃ o4 o5, ρ = [some (.loc 0), some (.d (.tup (rows.map D.str))), some (.d (.int (i : Int))), some (.d (.str x)), o4, o5]) ⟨[.ins "Island" []], b⟩ (pairsFrom 0 (charsD x)) [some (.loc 0), some (.d (.tup (rows.map D.str))), some (.d (.int (i : Int))), some (.d (.str x)), o4, o5] ⟨o4, o5, rfl⟩ (by
      rintro v ρ hv ⟨o4, o5, rfl⟩
      obtain ⟨j, d, hd, rfl⟩ := pairs_mem hv
      simp only [charsD, List.getElem?_map, Option.map_eq_some_iff] at hd
      obtain ⟨c, hc, rfl⟩ := hd
      have hj : j < w := by have := (List.getElem?_eq_some_iff.mp hc).1; omega
      have hjm : ¬ ((j : Int) = if (w : Int) < 12 then (w : Int) else 12) := by split <;> omega
      have hcs := hr.sign x hxm c (List.mem_of_getElem? hc)
      refine ⟨_, _, rfl, ?_, some (.d (.int (j : Int))), some (.d (.str ⟨#[c]⟩)), rfl⟩
      simp only [List.map_cons, List.map_nil, List.length_cons, List.length_nil, List.replicate, List.cons_append, List.nil_append, List.append_nil, sSeq, sIf, sRet, sNil, sSet, sDrop, m2, m1, mL, mCons, mNil, mC, mVar, mIf, List.getElem?_cons_zero, List.getElem?_cons_succ, List.set_cons_zero, List.set_cons_succ, R.bind_ok, R.toS_ok, Nat.reduceAdd, Nat.reduceSub, Nat.zero_add, En.eq_cell, En.asB_ok, En.eq_int, En.lt_ok, En.le_ok, En.sub_ok, En.add_ok, En.abs_ok, En.cell_0, En.cell_1, decide_true, decide_false, Bool.false_eq_true, if_true, if_false, Bool.not_true, Bool.not_false, mOr, d_MAX_SIZE, d_LAND, d_WATER, d_LETTERS, i2, i3, min2_ok, hjm, cat_signs1, cat_signs2, notIn_signs hcs])
    subst eρ2
    simp only [d_MAX_SIZE] at ef2
    refine ⟨_, _, rfl, ?_, some (.d (.int (i : Int))), some (.d (.str x)), p4, p5, rfl⟩
    simp only [List.map_cons, List.map_nil, List.length_cons, List.length_nil, List.replicate, List.cons_append, List.nil_append, List.append_nil, sSeq, sIf, sRet, sNil, sSet, sDrop, m2, m1, mL, mCons, mNil, mC, mVar, mIf, List.getElem?_cons_zero, List.getElem?_cons_succ, List.set_cons_zero, List.set_cons_succ, R.bind_ok, R.toS_ok, Nat.reduceAdd, Nat.reduceSub, Nat.zero_add, En.eq_cell, En.asB_ok, En.eq_int, En.lt_ok, En.le_ok, En.sub_ok, En.add_ok, En.abs_ok, En.cell_0, En.cell_1, decide_true, decide_false, Bool.false_eq_true, if_true, if_false, Bool.not_true, Bool.not_false, d_MAX_SIZE, hi12, sFor, enum_str, ef2, i2, i3, i5, Int.lt_irrefl])
  subst eρ
  unfold f_Island____init__ runG m_Island____init__
  simp only [List.map_cons, List.map_nil, List.length_cons, List.length_nil, List.replicate, List.cons_append, List.nil_append, List.append_nil, sSeq, sIf, sRet, sNil, sSet, sDrop, m2, m1, mL, mCons, mNil, mC, mVar, mIf, List.getElem?_cons_zero, List.getElem?_cons_succ, List.set_cons_zero, List.set_cons_succ, R.bind_ok, R.toS_ok, Nat.reduceAdd, Nat.reduceSub, Nat.zero_add, En.eq_cell, En.asB_ok, En.eq_int, En.lt_ok, En.le_ok, En.sub_ok, En.add_ok, En.abs_ok, En.cell_0, En.cell_1, decide_true, decide_false, Bool.false_eq_true, if_true, if_false, Bool.not_true, Bool.not_false, mOr, i1, i2, i4, hne0, sFor, enum_tup, ef, sFldV]
  rfl
theorem make_eq {rows : List Str} {w : Nat} (hr : RowsOk rows w) (t : T) : fMake "Island" f_Island____init__ [.d (.tup (rows.map D.str))] t = .ok (.d (islD rows)) t := by
  unfold fMake
  rw [if_pos (show [Val.d (D.tup (List.map D.str rows))].all argOk = true from rfl), init_eq hr t.b]
  simp only [if_true]
  rfl
end K90
set_option Elab.async false
set_option linter.all false
set_option maxRecDepth 100000
set_option maxHeartbeats 2000000
namespace K90
open PySem PySem.Spec PyProof.Rows L2 En
theorem cellP_alike (c p : Int × Int) : PySem.W.alike (cellP c) (cellP p) = true := by
  simp [cellP, PySem.W.alike, PySem.W.alikeAll]
theorem withPy_cells : ∀ ps : List (Int × Int), withPy (ps.map cellD) = some (ps.map fun p => (cellD p, cellP p))
  | [] => rfl
  | p :: ps => by
    simp only [List.map_cons, withPy, withPy_cells ps]
    rfl
theorem okSort_cells (ps : List (Int × Int)) : okSort (ps.map fun p => (cellD p, cellP p)) = true := by
  unfold okSort alikeB sortB
  simp only [Bool.and_eq_true, Bool.or_eq_true]
  refine ⟨?_, Or.inl ?_, ?_⟩
  · refine List.all_eq_true.mpr fun d hd => List.all_eq_true.mpr fun e he => ?_
    simp only [List.map_map, List.mem_map, Function.comp] at hd he
    obtain ⟨c, _, rfl⟩ := hd
    obtain ⟨p, _, rfl⟩ := he
    exact cellP_alike c p
  · refine List.all_eq_true.mpr fun d hd => ?_
    simp only [List.map_map, List.mem_map, Function.comp] at hd
    obtain ⟨c, _, rfl⟩ := hd
    rfl
  · refine List.all_eq_true.mpr fun d hd => ?_
    obtain ⟨c, _, rfl⟩ := List.mem_map.mp hd
    exact decide_eq_true (Nat.le_trans (cellP_depth c) (by decide))
def sortC (ps : List (Int × Int)) : List (Int × Int) := ps.mergeSort (PySem.W.dataLe false cellP)
theorem sort_cells (ps : List (Int × Int)) (t : T) : fSorted [.d (.lst (ps.map cellD))] t = .ok (.d (.lst ((sortC ps).map cellD))) t := by
  unfold fSorted
  show (match sortV ((ps.map cellD).map Val.d) with | some ds => _ | none => _) = _
  unfold sortV
  rw [datas_map]
  simp only [withPy_cells, okSort_cells, if_true]
  have : sortD (ps.map fun p => (cellD p, cellP p)) = (sortC ps).map cellD := by
    unfold sortD sortC
    rw [← List.map_mergeSort (r := PySem.W.dataLe false cellP) (f := fun p : Int × Int => (cellD p, cellP p)) (fun _ _ _ _ => rfl), List.map_map]
    rfl
  rw [this]
theorem sortC_mem {ps : List (Int × Int)} {p : Int × Int} : p ∈ sortC ps ↔ p ∈ ps := (List.mergeSort_perm ..).mem_iff
theorem sortC_len (ps : List (Int × Int)) : (sortC ps).length = ps.length := List.length_mergeSort ..
theorem big_small {i : Int} (h0 : 0 ≤ i) (h : i < 100000) : big i = true := by
  unfold big
  exact decide_eq_true (by omega)
theorem eraseIdx_map' {α β : Type} (f : α → β) : ∀ (l : List α) (i : Nat), (l.map f).eraseIdx i = (l.eraseIdx i).map f
  | [], _ => rfl
  | _ :: _, 0 => rfl
  | a :: l, i + 1 => by simp only [List.map_cons, List.eraseIdx_cons_succ, eraseIdx_map' f l i]
theorem some_sat {b : Box} (g : GoodB b) (cs : List (Int × Int)) (hl : cs.length ≤ 1000) {m : Nat} (hm : m ≤ 1000) : (f__law_some [.box, .d (.lst (cs.map cellD)), .d (.int (m : Int))] b).sat fun v t => ∃ ps : List (Int × Int), v = .d (.tup (ps.map cellD)) ∧ (∀ p ∈ ps, p ∈ cs) ∧ ps.length ≤ m ∧ GoodB t.b := by
  refine run_sat ?_
  unfold m__law_some
  have c2 : ∀ l : List (Int × Int), (l.map fun p => Val.d (cellD p)) = (l.map cellD).map Val.d := fun l => by simp
  refine seq_sat (N' := fun ρ t => ρ = [some .box, some (.d (.lst (cs.map cellD))), some (.d (.int (m : Int))), some (.loc 0), some (.loc 1), none] ∧ t = ⟨[.lst ((cs.map cellD).map Val.d), .lst []], b⟩) ?_ ?_
  · simp only [w_sSet, w_sRet, w_sDrop, w_sPar, w_sIf, w_sFor, w_sNil, w_m2, w_m1, w_mL, w_mCons, w_mNil, w_mC, mVar_sat, w_mIf, w_mMeth, w_mNot, w_mAnd, w_mOr, w_asB, sat_ok, List.map_cons, List.map_nil, List.cons_append, List.nil_append, List.getElem?_cons_zero, List.getElem?_cons_succ, List.set_cons_zero, List.set_cons_succ, List.length_cons, List.length_nil, Nat.reduceAdd, Nat.reduceSub, List.replicate, Nat.zero_add]
    exact ⟨_, _, rfl, _, _, rfl, _, _, rfl, _, _, rfl, rfl, rfl⟩
  rintro ρ t ⟨rfl, rfl⟩
  refine seq_sat (N' := fun ρ t => ∃ (left found : List (Int × Int)) (b : Box) (o : Option Val), ρ = [some .box, some (.d (.lst (cs.map cellD))), some (.d (.int (m : Int))), some (.loc 0), some (.loc 1), o] ∧ t = ⟨[.lst ((left.map cellD).map Val.d), .lst ((found.map cellD).map Val.d)], b⟩ ∧ GoodB b ∧ (∀ p ∈ found, p ∈ cs) ∧ found.length ≤ m) ?_ ?_
  · simp only [w_sFor, w_mL, w_mCons, w_mNil, w_m2, w_mC, mVar_sat, List.getElem?_cons_zero, List.getElem?_cons_succ, add_ok, sat_ok]
    refine draw_sat g (by omega) (by omega) fun k b1 hk0 hk1 g1 => ?_
    obtain ⟨n, rfl⟩ : ∃ n : Nat, k = (n : Int) := ⟨k.toNat, by omega⟩
    rw [range_ok (show n ≤ lim from Nat.le_trans (show n ≤ 1000 by omega) (by decide)), sat_ok]
    refine forM_sat (fun rest ρ t => ∃ (left found : List (Int × Int)) (b : Box) (o : Option Val), ρ = [some .box, some (.d (.lst (cs.map cellD))), some (.d (.int (m : Int))), some (.loc 0), some (.loc 1), o] ∧ t = ⟨[.lst ((left.map cellD).map Val.d), .lst ((found.map cellD).map Val.d)], b⟩ ∧ GoodB b ∧ (∀ p ∈ found, p ∈ cs) ∧ (∀ p ∈ left, p ∈ cs) ∧ left.length ≤ 1000 ∧ found.length + rest.length ≤ m) (intsV 0 n) _ _ ⟨cs, [], b1, none, rfl, rfl, g1, fun _ h => (by cases h), fun _ h => h, hl, by rw [intsV_map]; simp; omega⟩ ?_ ?_
    · rintro v vs ρ t ⟨left, found, b, o, rfl, rfl, gb, hf, hle, hll, hlen⟩
      refine ⟨_, rfl, ?_⟩
      rw [List.length_cons] at hlen
      have hnev : ∀ b : Box, fNe (.loc 0) (.d (.lst [])) ⟨[.lst ((left.map cellD).map Val.d), .lst ((found.map cellD).map Val.d)], b⟩ = .ok (.d (.bl (!left.isEmpty))) ⟨[.lst ((left.map cellD).map Val.d), .lst ((found.map cellD).map Val.d)], b⟩ := by
        intro b
        have h1 : valPy (.loc 0) ⟨[.lst ((left.map cellD).map Val.d), .lst ((found.map cellD).map Val.d)], b⟩ = some (.list (left.map cellP)) := by
          have : valPy (.loc 0) ⟨[.lst ((left.map cellD).map Val.d), .lst ((found.map cellD).map Val.d)], b⟩ = valPy (.d (.lst (left.map cellD))) ⟨[.lst ((left.map cellD).map Val.d), .lst ((found.map cellD).map Val.d)], b⟩ := by
            unfold valPy Val.dat
            simp only [List.getElem?_cons_zero, datas_map]
            try rfl
          rw [this, val_cellsL]
        rw [ne_of_val h1 (val_L0 _), eqv_L0]
        cases left <;> rfl
      rw [w_sIf, w_m1, w_m2, mVar_sat]
      show R.sat _ _
      rw [w_mL, w_mL, w_mNil]
      rw [show fLen ([] : List Val) = fun t => R.ok [] t from rfl]
      simp only [sat_ok]
      rw [show fFz ([] : List Val) = fun t => R.ok (.d (.lst [])) t from rfl]
      simp only [sat_ok]
      rw [show (∀ b : Box, fNe (.loc 0) (.d (.lst [])) ⟨[.lst ((left.map cellD).map Val.d), .lst ((found.map cellD).map Val.d)], b⟩ = .ok (.d (.bl (!left.isEmpty))) ⟨[.lst ((left.map cellD).map Val.d), .lst ((found.map cellD).map Val.d)], b⟩) from hnev]
      rw [sat_ok, w_asB]
      cases hleft : left.isEmpty with
      | true =>
        show RS.sat (if false = true then _ else _) _ _
        rw [if_neg (by decide), w_sNil]
        exact ⟨left, found, b, some v, rfl, rfl, gb, hf, hle, hll, by omega⟩
      | false =>
        have hpos : 0 < left.length := by
          cases left with
          | nil => cases hleft
          | cons _ _ => simp
        show RS.sat (if true = true then _ else _) _ _
        rw [if_pos rfl, w_sDrop, w_mMeth, mVar_sat]
        show (if isLstB (.loc 1) _ = true then _ else False)
        rw [if_pos (show isLstB (.loc 1) ⟨[.lst ((left.map cellD).map Val.d), .lst ((found.map cellD).map Val.d)], b⟩ = true from rfl), w_mCons, w_mMeth, mVar_sat]
        show (if isLstB (.loc 0) _ = true then _ else False)
        rw [if_pos (show isLstB (.loc 0) ⟨[.lst ((left.map cellD).map Val.d), .lst ((found.map cellD).map Val.d)], b⟩ = true from rfl), w_mCons, w_mL, w_mCons, mVar_sat]
        show R.sat _ _
        rw [w_mCons, w_mL, w_mCons, mVar_sat]
        show R.sat _ _
        rw [w_mNil]
        have hlb : fLenB [.loc 0] ⟨[.lst ((left.map cellD).map Val.d), .lst ((found.map cellD).map Val.d)], b⟩ = .ok (.d (.int (left.length : Int))) ⟨[.lst ((left.map cellD).map Val.d), .lst ((found.map cellD).map Val.d)], b⟩ := by
          show retI ((left.map cellD).map Val.d).length _ = _
          rw [List.length_map, List.length_map]
          rfl
        rw [hlb, sat_ok, w_mNil]
        refine draw_sat gb (by omega) (by omega) fun k b2 hk0 hk1 g2 => ?_
        rw [w_mNil]
        obtain ⟨q, rfl⟩ : ∃ q : Nat, k = (q : Int) := ⟨k.toNat, by omega⟩
        have hq : q < left.length := by omega
        refine ⟨.d (cellD left[q]), ⟨[.lst (((left.eraseIdx q).map cellD).map Val.d), .lst ((found.map cellD).map Val.d)], b2⟩, ?_, ?_⟩
        · show (if big (q : Int) = true then _ else _) = _
          rw [if_pos (big_small (by omega) (by omega))]
          have hsi : seqIndex? (q : Int) ((left.map cellD).map Val.d).length = some q := by
            rw [List.length_map, List.length_map]
            unfold seqIndex?
            simp
            omega
          have hat : ((left.map cellD).map Val.d)[q]? = some (.d (cellD left[q])) := by
            rw [List.getElem?_map, List.getElem?_map, List.getElem?_eq_getElem hq]
            rfl
          simp only [hsi, hat]
          unfold putL
          simp only [List.set_cons_zero, eraseIdx_map']
        · show R.sat _ _
          rw [w_mNil]
          refine ⟨.d .non, ⟨[.lst (((left.eraseIdx q).map cellD).map Val.d), .lst (((found ++ [left[q]]).map cellD).map Val.d)], b2⟩, ?_, left.eraseIdx q, found ++ [left[q]], b2, some v, rfl, rfl, g2, ?_, ?_, ?_, ?_⟩
          · show (if ((found.map cellD).map Val.d).length < lim then _ else _) = _
            rw [if_pos (by rw [List.length_map, List.length_map]; show _ < 100000; omega)]
            simp [putL]
          · intro p hp
            rcases List.mem_append.mp hp with hp | hp
            · exact hf p hp
            · rw [List.mem_singleton.mp hp]; exact hle _ (List.getElem_mem hq)
          · intro p hp
            exact hle p (List.mem_of_mem_eraseIdx hp)
          · exact Nat.le_trans (List.length_eraseIdx_le ..) hll
          · rw [List.length_append, List.length_cons, List.length_nil]; omega
    · rintro ρ t ⟨left, found, b, o, rfl, rfl, gb, hf, hle, hll, hlen⟩
      exact ⟨left, found, b, o, rfl, rfl, gb, hf, by simpa using hlen⟩
  rintro ρ t ⟨left, found, b, o, rfl, rfl, gb, hf, hlen⟩
  have hfz : fFreeze (.loc 1) ⟨[.lst ((left.map cellD).map Val.d), .lst ((found.map cellD).map Val.d)], b⟩ = .ok (.d (.lst (found.map cellD))) ⟨[.lst ((left.map cellD).map Val.d), .dead], b⟩ := by
    have := dead_at (pre := [.lst ((left.map cellD).map Val.d)]) (vs := (found.map cellD).map Val.d) (b := b)
    rw [datas_map] at this
    exact this
  have htup : ∀ (ds : List D) (t : T), fTuple [.d (.lst ds)] t = .ok (.d (.tup ds)) t := fun ds t => by
    show (match datas (ds.map Val.d) with | some ds => _ | none => _) = _
    rw [datas_map]
  rw [w_sFz rfl hfz]
  simp only [w_sSet, w_sRet, w_sDrop, w_sPar, w_sIf, w_sFor, w_sNil, w_m2, w_m1, w_mL, w_mCons, w_mNil, w_mC, mVar_sat, w_mIf, w_mMeth, w_mNot, w_mAnd, w_mOr, w_asB, sat_ok, List.map_cons, List.map_nil, List.cons_append, List.nil_append, List.getElem?_cons_zero, List.getElem?_cons_succ, List.set_cons_zero, List.set_cons_succ, List.length_cons, List.length_nil, Nat.reduceAdd, Nat.reduceSub, List.replicate, Nat.zero_add, sort_cells, htup]
  exact ⟨sortC found, rfl, fun p hp => hf p (sortC_mem.mp hp), by rw [sortC_len]; exact hlen, gb⟩
end K90
set_option Elab.async false
set_option linter.all false
set_option maxRecDepth 100000
set_option maxHeartbeats 2000000
namespace K90
open PySem PySem.Spec PyProof.Rows L2 En
theorem leftF_all (r : Rule) : ∀ (ds : List ((Int × Int) × Str)) (ps : List (Int × Int)), leftF r ps ds = ps.filter fun p => ds.all fun d => told r d.1 p == d.2
  | [], ps => by
    show ps = ps.filter fun p => true
    rw [List.filter_eq_self.mpr fun _ _ => rfl]
  | d :: ds, ps => by
    show leftF r (ps.filter fun p => told r d.1 p == d.2) ds = _
    rw [leftF_all r ds, List.filter_filter]
    congr 1
    funext p
    rw [List.all_cons, Bool.and_comm]
theorem due_left (r : Rule) (ds : List ((Int × Int) × Str)) (ps : List (Int × Int)) : (ps.filter fun p => (ds.filter fun d => !(told r d.1 p == d.2)).isEmpty) = leftF r ps ds := by
  rw [leftF_all]
  congr 1
  funext p
  induction ds with
  | nil => rfl
  | cons d ds ih =>
    rw [List.all_cons, ← ih, List.filter_cons]
    cases told r d.1 p == d.2 <;> rfl
theorem foldl_flat {α β : Type} (f : α → List β) : ∀ (l : List α) (acc : List β), l.foldl (fun acc r => acc ++ f r) acc = acc ++ l.flatMap f
  | [], acc => by simp
  | a :: l, acc => by rw [List.foldl_cons, foldl_flat f l, List.flatMap_cons, List.append_assoc]
theorem cellsOf_flat (rows : List Str) (w : Nat) : cellsOf rows w = (List.range rows.length).flatMap (rowCells rows w) := by
  unfold cellsOf
  rw [foldl_flat]
  rfl
theorem cellsOf_mem {rows : List Str} {w : Nat} {p : Int × Int} : p ∈ cellsOf rows w ↔ ∃ r c : Nat, r < rows.length ∧ c < w ∧ signAt rows r c ≠ 126 ∧ p = ((r : Int), (c : Int)) := by
  rw [cellsOf_flat, List.mem_flatMap]
  constructor
  · rintro ⟨r, hr, hp⟩
    unfold rowCells at hp
    obtain ⟨c, hc, rfl⟩ := List.mem_map.mp hp
    obtain ⟨h1, h2⟩ := List.mem_filter.mp hc
    exact ⟨r, c, List.mem_range.mp hr, List.mem_range.mp h1, by simpa using h2, rfl⟩
  · rintro ⟨r, c, hr, hc, hs, rfl⟩
    exact ⟨r, List.mem_range.mpr hr, List.mem_map.mpr ⟨c, List.mem_filter.mpr ⟨List.mem_range.mpr hc, by simpa using hs⟩, rfl⟩⟩
theorem cellsOf_land {rows : List Str} {w : Nat} (hr : RowsOk rows w) {p : Int × Int} (h : p ∈ cellsOf rows w) : Land rows p := by
  obtain ⟨r, c, h1, h2, h3, rfl⟩ := cellsOf_mem.mp h
  have l : c < rows[r].cps.toList.length := by
    have : rows[r].cps.toList.length = w := hr.row _ (List.getElem_mem h1)
    omega
  refine ⟨by simp, by simp, rows[r], rows[r].cps.toList[c], ?_, ?_, ?_⟩
  · simp [h1]
  · simp only [Int.toNat_natCast]
    exact List.getElem?_eq_getElem l
  · unfold signAt at h3
    rw [List.getD_eq_getElem?_getD, List.getD_eq_getElem?_getD, List.getElem?_eq_getElem h1] at h3
    show rows[r].cps.toList[c] ≠ 126
    rw [show (some rows[r]).getD ⟨#[]⟩ = rows[r] from rfl, List.getElem?_eq_getElem l] at h3
    exact h3
theorem cellsOf_ne {rows : List Str} {w : Nat} (hr : RowsOk rows w) (h : HasLand rows) : 0 < (cellsOf rows w).length := by
  obtain ⟨x, hx, c, hc, hne⟩ := h
  obtain ⟨r, hr1⟩ := List.getElem?_of_mem hx
  obtain ⟨j, hj⟩ := List.getElem?_of_mem hc
  have l1 := (List.getElem?_eq_some_iff.mp hr1).1
  have l2 := (List.getElem?_eq_some_iff.mp hj).1
  have lw : x.cps.toList.length = w := hr.row x hx
  have : ((r : Int), (j : Int)) ∈ cellsOf rows w := cellsOf_mem.mpr ⟨r, j, l1, by omega, by
    unfold signAt
    rw [List.getD_eq_getElem?_getD, List.getD_eq_getElem?_getD, hr1]
    show (x.cps.toList[j]?).getD 0 ≠ 126
    rw [hj]
    exact hne, rfl⟩
  exact List.length_pos_of_mem this
theorem cellsOf_len {rows : List Str} {w : Nat} (hr : RowsOk rows w) : (cellsOf rows w).length ≤ 144 := by
  have h1 := fold_len rows w (List.range rows.length) []
  rw [List.length_range, List.length_nil] at h1
  have hm : rows.length * w ≤ 12 * 12 := Nat.mul_le_mul hr.len hr.w2
  unfold cellsOf
  omega
theorem w_sAsgT {fs : List Val → Rho → Option Rho} {n : Nat} {m : ME (List Val)} {ρ : Rho} {t : T} {N : Rho → T → Prop} {V : Val → T → Prop} : (sAsgT fs n m ρ t).sat N V = (m ρ t).sat fun vs t => if vs.length = n ∧ n ≤ lim then (oS (fs vs ρ) t).sat N V else False := by
  unfold sAsgT
  rw [sat_toS]
  congr 1
  funext vs t
  split <;> rfl
theorem ix_cellL {ps : List (Int × Int)} {q : Nat} (h : q < ps.length) (t : T) : fIx (.d (.lst (ps.map cellD))) (.d (.int (q : Int))) t = .ok (.d (cellD ps[q])) t := by
  rw [ixl_ok (by omega) (by rw [List.length_map]; omega), List.getD_eq_getElem?_getD, List.getElem?_map, Int.toNat_natCast, List.getElem?_eq_getElem h]
  rfl
theorem ix_cellT {ps : List (Int × Int)} {q : Nat} (h : q < ps.length) (t : T) : fIx (.d (.tup (ps.map cellD))) (.d (.int (q : Int))) t = .ok (.d (cellD ps[q])) t := by
  rw [ixt_ok (by omega) (by rw [List.length_map]; omega), List.getD_eq_getElem?_getD, List.getElem?_map, Int.toNat_natCast, List.getElem?_eq_getElem h]
  rfl
theorem ne_T0 (ps : List (Int × Int)) (t : T) : fNe (.d (.tup (ps.map cellD))) (.d (.tup [])) t = .ok (.d (.bl (!ps.isEmpty))) t := by
  rw [ne_of_val (val_cellsT ps t) (val_T0 t), eqv_T0]
  simp
def digP (d : (Int × Int) × Str) : PyData := .tuple [cellP d.1, .str d.2]
theorem eq_digs0 {ds : List ((Int × Int) × Str)} (h : ∀ d ∈ ds, PyData.strOk d.2 = true) (t : T) : fEq (.d (.lst (ds.map digD))) (.d (.lst [])) t = .ok (.d (.bl ds.isEmpty)) t := by
  have hv : valPy (.d (.lst (ds.map digD))) t = some (.list (ds.map digP)) := val_of (by simp only [toPy, toPys_map digD digP (fun _ => rfl) ds]) (shaped_lst digP ds 2 (by decide) (fun d hd => by
    simp [digP, PyData.canLay0, PyData.canLayAll0, cellP_lay, h d hd]) fun d _ => by
    have := cellP_depth d.1
    simp only [digP, PyData.depth, PyData.depthAll]
    omega)
  rw [eq_of_val hv (val_L0 t), eqv_L0]
  simp
theorem cut_take {α : Type} (f : α → D) (ds : List α) {k : Nat} (hk : k ≤ ds.length) : En.cut ((ds.map f).map Val.d) none (some (k : Int)) = ((ds.take k).map f).map Val.d := by
  unfold En.cut
  have e1 : ∀ n : Nat, HT.sIx n 0 none = 0 := fun _ => rfl
  have e2 : HT.sIx ((ds.map f).map Val.d).length ((ds.map f).map Val.d).length (some (k : Int)) = k := by
    rw [List.length_map, List.length_map]
    unfold HT.sIx
    simp only [Int.toNat_natCast]
    rw [if_neg (by omega)]
    omega
  rw [e1, e2]
  simp [List.map_take]
theorem sl_take {α : Type} (f : α → D) (ds : List α) {k : Nat} (hk : k ≤ ds.length) (t : T) : fSl (.d (.lst (ds.map f))) none (some (k : Int)) t = .ok (.d (.lst ((ds.take k).map f))) t := by
  show (match datas (En.cut ((ds.map f).map Val.d) none (some (k : Int))) with | some ds => _ | none => _) = _
  rw [cut_take f ds hk, datas_map]
theorem ne_ints0 (ns : List Int) (t : T) : fNe (.d (.lst (ns.map D.int))) (.d (.lst [])) t = .ok (.d (.bl (!ns.isEmpty))) t := by
  have hv : valPy (.d (.lst (ns.map D.int))) t = some (.list (ns.map PyData.int)) := val_of (by simp only [toPy, toPys_map D.int PyData.int (fun _ => rfl) ns]) (shaped_lst PyData.int ns 1 (by decide) (fun d hd => by
    simp [PyData.canLay0]) fun d _ => by simp [PyData.depth])
  rw [ne_of_val hv (val_L0 t), eqv_L0]
  simp
theorem put_last {pre : List Cell} {b : Box} {us vs : List Val} : putL pre.length vs ⟨pre ++ [.lst us], b⟩ = ⟨pre ++ [.lst vs], b⟩ := by
  unfold putL
  simp
theorem append_last {pre : List Cell} {b : Box} {us : List Val} {u : Val} (h : us.length < lim) : fAppend (.loc pre.length) [u] ⟨pre ++ [.lst us], b⟩ = .ok (.d .non) ⟨pre ++ [.lst (us ++ [u])], b⟩ := by
  unfold fAppend
  simp only [List.getElem?_append_right (Nat.le_refl _), Nat.sub_self, List.getElem?_cons_zero]
  rw [if_pos h, put_last]
theorem isLst_last {pre : List Cell} {b : Box} {us : List Val} : isLstB (.loc pre.length) ⟨pre ++ [.lst us], b⟩ = true := by
  unfold isLstB asList
  simp only [List.getElem?_append_right (Nat.le_refl _), Nat.sub_self, List.getElem?_cons_zero]
  rfl
end K90
set_option Elab.async false
set_option linter.all false
set_option maxRecDepth 100000
set_option maxHeartbeats 2000000
namespace En
open PySem PySem.Spec PyProof.Rows L2
section
variable {κ α : Type} [DecidableEq κ]
theorem lookK_nil (k : κ) : lookK ([] : List (κ × α)) k = none := rfl
theorem any_look (kvs : List (κ × α)) (k : κ) : (kvs.any fun kv => decide (kv.1 = k)) = (lookK kvs k).isSome := by
  induction kvs with
  | nil => rfl
  | cons p r ih =>
    rw [List.any_cons, lookK_cons, ih]
    by_cases h : p.1 = k <;> simp [h]
theorem lookK_map (kvs : List (κ × α)) (k j : κ) (v : α) : lookK (kvs.map fun kv => if kv.1 = k then (kv.1, v) else kv) j = (lookK kvs j).map fun x => if j = k then v else x := by
  induction kvs with
  | nil => rfl
  | cons p r ih =>
    rw [List.map_cons, lookK_cons, lookK_cons, ih]
    by_cases h : p.1 = k
    · simp only [if_pos h]
      by_cases h2 : p.1 = j
      · rw [if_pos h2, if_pos h2, ← h2]; simp [h]
      · rw [if_neg h2, if_neg h2]
    · simp only [if_neg h]
      by_cases h2 : p.1 = j
      · rw [if_pos h2, if_pos h2, ← h2]; simp [h]
      · rw [if_neg h2, if_neg h2]
theorem lookK_snoc (kvs : List (κ × α)) (k j : κ) (v : α) (h : lookK kvs k = none) : lookK (kvs ++ [(k, v)]) j = if j = k then some v else lookK kvs j := by
  induction kvs with
  | nil =>
    rw [List.nil_append, lookK_cons]
    by_cases h2 : k = j
    · rw [if_pos h2, if_pos h2.symm]
    · rw [if_neg h2, if_neg (Ne.symm h2)]
  | cons p r ih =>
    rw [lookK_cons] at h
    by_cases hp : p.1 = k
    · rw [if_pos hp] at h; cases h
    · rw [if_neg hp] at h
      rw [List.cons_append, lookK_cons, lookK_cons, ih h]
      by_cases h2 : p.1 = j
      · rw [if_pos h2, if_pos h2, if_neg (fun z => hp (h2.trans z))]
      · rw [if_neg h2, if_neg h2]
theorem look_put (kvs : List (κ × α)) (k j : κ) (v : α) : lookK (putKV kvs k v) j = if j = k then some v else lookK kvs j := by
  unfold putKV
  rw [any_look]
  cases h : lookK kvs k with
  | none => exact lookK_snoc kvs k j v h
  | some x =>
    rw [if_pos (show (some x).isSome = true from rfl), lookK_map]
    by_cases h2 : j = k
    · subst h2; rw [if_pos rfl, h, Option.map_some]; simp
    · rw [if_neg h2]
      cases lookK kvs j <;> simp [h2]
theorem keys_map (kvs : List (κ × α)) (k : κ) (v : α) : (kvs.map fun kv => if kv.1 = k then (kv.1, v) else kv).map (·.1) = kvs.map (·.1) := by
  rw [List.map_map]
  refine List.map_congr_left fun p _ => ?_
  simp only [Function.comp]
  split <;> rfl
theorem look_none {kvs : List (κ × α)} {k : κ} : lookK kvs k = none ↔ k ∉ kvs.map (·.1) := by
  induction kvs with
  | nil => simp [lookK_nil]
  | cons p r ih =>
    rw [lookK_cons, List.map_cons, List.mem_cons]
    by_cases h : p.1 = k
    · rw [if_pos h]; simp [h]
    · rw [if_neg h, ih]
      exact ⟨fun q z => z.elim (fun z => h z.symm) q, fun q z => q (.inr z)⟩
theorem keys_put (kvs : List (κ × α)) (k : κ) (v : α) : (putKV kvs k v).map (·.1) = if (lookK kvs k).isSome then kvs.map (·.1) else kvs.map (·.1) ++ [k] := by
  unfold putKV
  rw [any_look]
  split
  · exact keys_map kvs k v
  · simp
theorem mem_keys_put {kvs : List (κ × α)} {k j : κ} {v : α} (h : j ∈ (putKV kvs k v).map (·.1)) : j = k ∨ j ∈ kvs.map (·.1) := by
  rw [keys_put] at h
  split at h
  · exact .inr h
  · rcases List.mem_append.mp h with h | h
    · exact .inr h
    · exact .inl (List.mem_singleton.mp h)
theorem nodup_put {kvs : List (κ × α)} {k : κ} {v : α} (h : (kvs.map (·.1)).Nodup) : ((putKV kvs k v).map (·.1)).Nodup := by
  rw [keys_put]
  cases e : lookK kvs k with
  | some x => exact h
  | none =>
    have := look_none.mp e
    show (kvs.map (·.1) ++ [k]).Nodup
    rw [List.nodup_append]
    exact ⟨h, by simp, fun a ha b hb z => by rw [List.mem_singleton.mp hb] at z; subst z; exact this ha⟩
theorem nodup_le [DecidableEq α] : ∀ {l l' : List α}, l.Nodup → (∀ x ∈ l, x ∈ l') → l.length ≤ l'.length
  | [], _, _, _ => Nat.zero_le _
  | a :: l, l', h, s => by
    obtain ⟨h1, h2⟩ := List.nodup_cons.mp h
    have ha := s a (List.mem_cons_self ..)
    have := nodup_le (l' := l'.erase a) h2 fun x hx => by
      have hx' := s x (List.mem_cons_of_mem _ hx)
      exact (List.mem_erase_of_ne (fun z => h1 (by rw [← z]; exact hx))).mpr hx'
    rw [List.length_erase_of_mem ha] at this
    have hp : 0 < l'.length := List.length_pos_of_mem ha
    rw [List.length_cons]
    omega
end
theorem look_enc {κ κ' α β : Type} [DecidableEq κ] [DecidableEq κ'] (f : κ → κ') (hf : ∀ a b, f a = f b → a = b) (g : α → β) (kvs : List (κ × α)) (k : κ) : lookK (kvs.map fun p => (f p.1, g p.2)) (f k) = (lookK kvs k).map g := by
  induction kvs with
  | nil => rfl
  | cons p r ih =>
    rw [List.map_cons, lookK_cons, lookK_cons, ih]
    by_cases h : p.1 = k
    · rw [if_pos h, if_pos (by rw [h])]; rfl
    · rw [if_neg h, if_neg (fun z => h (hf _ _ z))]
theorem put_enc {κ κ' α β : Type} [DecidableEq κ] [DecidableEq κ'] (f : κ → κ') (hf : ∀ a b, f a = f b → a = b) (g : α → β) (kvs : List (κ × α)) (k : κ) (v : α) : putKV (kvs.map fun p => (f p.1, g p.2)) (f k) (g v) = (putKV kvs k v).map fun p => (f p.1, g p.2) := by
  unfold putKV
  rw [any_look, any_look, look_enc f hf, Option.isSome_map]
  split
  · rw [List.map_map, List.map_map]
    refine List.map_congr_left fun p _ => ?_
    simp only [Function.comp]
    by_cases h : p.1 = k
    · rw [if_pos h, if_pos (by rw [h])]
    · rw [if_neg h, if_neg (fun z => h (hf _ _ z))]
  · simp
def keyC (qs : List (Int × Int)) : NestedKey := .tup (qs.map fun c => .tup [.num c.1, .num c.2])
theorem toKeys_cells : ∀ qs : List (Int × Int), toKeys (qs.map cellD) = some (qs.map fun c => .tup [.num c.1, .num c.2])
  | [] => rfl
  | q :: qs => by
    simp only [List.map_cons, toKeys, toKeys_cells qs]
    rfl
theorem depthAll_cells : ∀ qs : List (Int × Int), NestedKey.depthAll (qs.map fun c => NestedKey.tup [.num c.1, .num c.2]) ≤ 1
  | [] => by simp [NestedKey.depthAll]
  | q :: qs => by
    have := depthAll_cells qs
    simp only [List.map_cons, NestedKey.depthAll, NestedKey.depth]
    omega
theorem keyT_cells (qs : List (Int × Int)) : keyT (.d (.tup (qs.map cellD))) = some (keyC qs) := by
  have e : toKey (.tup (qs.map cellD)) = some (keyC qs) := by
    simp only [toKey, toKeys_cells]
    rfl
  have d : (keyC qs).depth ≤ 8 := by
    have := depthAll_cells qs
    unfold keyC
    simp only [NestedKey.depth]
    omega
  unfold keyT
  simp only [e, d, if_true]
theorem keyC_inj : ∀ {a b : List (Int × Int)}, keyC a = keyC b → a = b := by
  intro a b h
  have h' : (a.map fun c => NestedKey.tup [.num c.1, .num c.2]) = (b.map fun c => NestedKey.tup [.num c.1, .num c.2]) := by
    unfold keyC at h
    injection h
  clear h
  induction a generalizing b with
  | nil =>
    cases b with
    | nil => rfl
    | cons _ _ => simp at h'
  | cons x a ih =>
    cases b with
    | nil => simp at h'
    | cons y b =>
      simp only [List.map_cons, List.cons.injEq] at h'
      obtain ⟨h1, h2⟩ := h'
      rw [ih h2]
      obtain ⟨x1, x2⟩ := x
      obtain ⟨y1, y2⟩ := y
      injection h1 with h1
      injection h1 with h3 h4
      injection h3 with h3
      injection h4 with h4 _
      injection h4 with h4
      have h3 : x1 = y1 := h3
      have h4 : x2 = y2 := h4
      rw [h3, h4]
def subs {α : Type} : List α → List (List α)
  | [] => [[]]
  | a :: l => subs l ++ (subs l).map (a :: ·)
theorem subs_len {α : Type} : ∀ l : List α, (subs l).length = 2 ^ l.length
  | [] => rfl
  | a :: l => by simp only [subs, List.length_append, List.length_map, subs_len l, List.length_cons, Nat.pow_succ]; omega
theorem mem_subs {α : Type} {l' l : List α} (h : List.Sublist l' l) : l' ∈ subs l := by
  induction h with
  | slnil => exact List.mem_singleton.mpr rfl
  | cons a _ ih => exact List.mem_append_left _ ih
  | cons_cons a _ ih => exact List.mem_append_right _ (List.mem_map.mpr ⟨_, ih, rfl⟩)
theorem sub_of_subs {α : Type} : ∀ {l l' : List α}, l' ∈ subs l → List.Sublist l' l
  | [], l', h => by rw [List.mem_singleton.mp h]; exact List.Sublist.refl _
  | a :: l, l', h => by
    rcases List.mem_append.mp h with h | h
    · exact (sub_of_subs h).cons a
    · obtain ⟨m, hm, rfl⟩ := List.mem_map.mp h
      exact (sub_of_subs hm).cons_cons a
end En
set_option Elab.async false
set_option linter.all false
set_option maxRecDepth 100000
set_option maxHeartbeats 2000000
namespace En
open PySem PySem.Spec PyProof.Rows L2
theorem call_eq' {mf : MF} {vs : List Val} {t : T} {d : D} {st : List Cell} (ha : vs.all argOk = true) (h : mf vs t.b = .ok (.d d) ⟨st, t.b⟩) : fCall mf vs t = .ok (.d d) t := by
  unfold fCall
  rw [if_pos ha, h]
  simp only [if_true]
theorem forM_run {α β : Type} {f : Val → Rho → Option Rho} {b : MS} (enc : α → Val) (step : β → α → β) (S : β → Rho → T → Prop) : ∀ (xs : List α) (s : β) (ρ : Rho) (t : T), S s ρ t →
    (∀ x s ρ t, x ∈ xs → S s ρ t → ∃ ρ' ρ'' t'', f (enc x) ρ = some ρ' ∧ b ρ' t = .nx ρ'' t'' ∧ S (step s x) ρ'' t'') → ∃ ρ' t', forM f b (xs.map enc) ρ t = .nx ρ' t' ∧ S (xs.foldl step s) ρ' t'
  | [], s, ρ, t, h, _ => ⟨ρ, t, rfl, h⟩
  | x :: xs, s, ρ, t, h, hs => by
    obtain ⟨ρ', ρ'', t'', e1, e2, h'⟩ := hs x s ρ t (List.mem_cons_self ..) h
    obtain ⟨ρ3, t3, e3, h3⟩ := forM_run enc step S xs (step s x) ρ'' t'' h' fun y s ρ t hy => hs y s ρ t (List.mem_cons_of_mem _ hy)
    refine ⟨ρ3, t3, ?_, h3⟩
    rw [List.map_cons]
    unfold En.forM
    rw [e1]
    show turnS (b ρ' t) _ = _
    rw [e2]
    exact e3
theorem forM_fsat {α β : Type} {f : Val → Rho → Option Rho} {b : MS} {V : Val → T → Prop} (enc : α → Val) (step : β → α → β) (S : β → Rho → T → Prop) : ∀ (xs : List α) (s : β) (ρ : Rho) (t : T), S s ρ t →
    (∀ x s ρ t, x ∈ xs → S s ρ t → ∃ ρ', f (enc x) ρ = some ρ' ∧ (b ρ' t).sat (fun ρ t => S (step s x) ρ t) V) → (forM f b (xs.map enc) ρ t).sat (fun ρ t => S (xs.foldl step s) ρ t) V
  | [], s, ρ, t, h, _ => h
  | x :: xs, s, ρ, t, h, hs => by
    obtain ⟨ρ', e1, q⟩ := hs x s ρ t (List.mem_cons_self ..) h
    rw [List.map_cons]
    unfold En.forM
    rw [e1]
    show RS.sat (turnS (b ρ' t) (En.forM f b (xs.map enc))) _ V
    cases hb : b ρ' t with
    | nx ρ2 t2 =>
      rw [hb] at q
      exact forM_fsat enc step S xs (step s x) ρ2 t2 q fun y s ρ t hy => hs y s ρ t (List.mem_cons_of_mem _ hy)
    | rt v2 t2 => rw [hb] at q; exact q
    | bk _ _ => rw [hb] at q; exact q.elim
    | ct _ _ => rw [hb] at q; exact q.elim
    | exc _ _ _ => rw [hb] at q; exact q.elim
    | stuck => rw [hb] at q; exact q.elim
theorem lcM_msat {α : Type} {f : Val → Rho → Option Rho} {te : ME Val} {ρ : Rho} (enc : α → Val) (g : α → Val) (S : T → Prop) : ∀ (xs : List α) (acc : List Val) (t : T), S t → acc.length + xs.length ≤ lim →
    (∀ x t, x ∈ xs → S t → ∃ ρ', f (enc x) ρ = some ρ' ∧ (te ρ' t).sat fun v t' => v = g x ∧ S t') → (lcM f mYes te ρ (xs.map enc) acc t).sat fun vs t => vs = acc ++ xs.map g ∧ S t
  | [], acc, t, h, _, _ => ⟨acc, t, rfl, by simp, h⟩
  | x :: xs, acc, t, h, hl, hs => by
    obtain ⟨ρ', e1, v, t2, e2, rfl, h2⟩ := hs x t (List.mem_cons_self ..) h
    rw [List.length_cons] at hl
    rw [List.map_cons]
    unfold lcM
    rw [e1]
    have hl2 : acc.length < lim := by omega
    simp only [mYes, R.bindN, if_true, e2, if_pos hl2]
    refine sat_mono (lcM_msat enc g S xs (acc ++ [g x]) t2 h2 (by rw [List.length_append, List.length_cons, List.length_nil]; omega) fun y t hy => hs y t (List.mem_cons_of_mem _ hy)) fun vs t3 ⟨h3, h4⟩ => ⟨?_, h4⟩
    rw [h3]
    simp
theorem forM_pre {α : Type} {f : Val → Rho → Option Rho} {b : MS} (enc : α → Val) (S : List α → Rho → T → Prop) (all : List α) (hs : ∀ x pre post ρ t, all = pre ++ x :: post → S pre ρ t → ∃ ρ' ρ'' t'', f (enc x) ρ = some ρ' ∧ b ρ' t = .nx ρ'' t'' ∧ S (pre ++ [x]) ρ'' t'') :
    ∀ (xs pre : List α) (ρ : Rho) (t : T), all = pre ++ xs → S pre ρ t → ∃ ρ' t', forM f b (xs.map enc) ρ t = .nx ρ' t' ∧ S all ρ' t'
  | [], pre, ρ, t, e, h => ⟨ρ, t, rfl, by rw [e, List.append_nil]; exact h⟩
  | x :: xs, pre, ρ, t, e, h => by
    obtain ⟨ρ', ρ'', t'', e1, e2, h'⟩ := hs x pre xs ρ t e h
    obtain ⟨ρ3, t3, e3, h3⟩ := forM_pre enc S all hs xs (pre ++ [x]) ρ'' t'' (by rw [e]; simp) h'
    refine ⟨ρ3, t3, ?_, h3⟩
    rw [List.map_cons]
    unfold En.forM
    rw [e1]
    show turnS (b ρ' t) _ = _
    rw [e2]
    exact e3
theorem forM_presat {α : Type} {f : Val → Rho → Option Rho} {b : MS} {V : Val → T → Prop} (enc : α → Val) (S : List α → Rho → T → Prop) (all : List α) (hs : ∀ x pre post ρ t, all = pre ++ x :: post → S pre ρ t → ∃ ρ', f (enc x) ρ = some ρ' ∧ (b ρ' t).sat (fun ρ t => S (pre ++ [x]) ρ t) V) :
    ∀ (xs pre : List α) (ρ : Rho) (t : T), all = pre ++ xs → S pre ρ t → (forM f b (xs.map enc) ρ t).sat (fun ρ t => S all ρ t) V
  | [], pre, ρ, t, e, h => by
    show S all ρ t
    rw [e, List.append_nil]; exact h
  | x :: xs, pre, ρ, t, e, h => by
    obtain ⟨ρ', e1, q⟩ := hs x pre xs ρ t e h
    rw [List.map_cons]
    unfold En.forM
    rw [e1]
    show RS.sat (turnS (b ρ' t) (En.forM f b (xs.map enc))) _ V
    cases hb : b ρ' t with
    | nx ρ2 t2 =>
      rw [hb] at q
      exact forM_presat enc S all hs xs (pre ++ [x]) ρ2 t2 (by rw [e]; simp) q
    | rt v2 t2 => rw [hb] at q; exact q
    | bk _ _ => rw [hb] at q; exact q.elim
    | ct _ _ => rw [hb] at q; exact q.elim
    | exc _ _ _ => rw [hb] at q; exact q.elim
    | stuck => rw [hb] at q; exact q.elim
theorem mem_look {κ α : Type} [DecidableEq κ] : ∀ {kvs : List (κ × α)} {k : κ} {v : α}, (kvs.map (·.1)).Nodup → (k, v) ∈ kvs → lookK kvs k = some v
  | [], _, _, _, h => by cases h
  | p :: r, k, v, n, h => by
    rw [List.map_cons, List.nodup_cons] at n
    rw [lookK_cons]
    rcases List.mem_cons.mp h with h | h
    · subst h; rw [if_pos rfl]
    · rw [if_neg (fun z => n.1 (by rw [z]; exact List.mem_map.mpr ⟨_, h, rfl⟩))]
      exact mem_look n.2 h
abbrev Pt := Int × Int
def addP (g : List (Str × List Pt)) (w : Str) (p : Pt) : List (Str × List Pt) := putKV g w ((lookK g w).getD [] ++ [p])
def stepP (r : Rule) (c : Pt) (g : List (Str × List Pt)) (p : Pt) : List (Str × List Pt) := if c = p then g else addP g (told r c p) p
def partsF (r : Rule) (c : Pt) (ps : List Pt) : List (Str × List Pt) := ps.foldl (stepP r c) []
def partsL (r : Rule) (c : Pt) (ps : List Pt) : List (List Pt) := (partsF r c ps).map (·.2)
theorem told_found (r : Rule) (c p : Pt) : (told r c p == ("found" : Str)) = decide (c = p) := by
  unfold told
  by_cases h : c = p
  · rw [if_pos h, decide_eq_true h]; decide +kernel
  · rw [if_neg h, decide_eq_false h]
    cases r with
    | plain => show (("empty" : Str) == ("found" : Str)) = false; decide +kernel
    | rows =>
      simp only
      split
      · decide +kernel
      · split <;> decide +kernel
    | near k =>
      simp only
      split <;> decide +kernel
theorem parts_get (r : Rule) (c : Pt) (w : Str) : ∀ (ps : List Pt) (g : List (Str × List Pt)), (lookK (ps.foldl (stepP r c) g) w).getD [] = (lookK g w).getD [] ++ ps.filter fun p => !decide (c = p) && told r c p == w
  | [], g => by simp
  | p :: ps, g => by
    rw [List.foldl_cons, parts_get r c w ps, List.filter_cons]
    unfold stepP
    by_cases h : c = p
    · simp [h]
    · rw [if_neg h, decide_eq_false h]
      unfold addP
      rw [look_put]
      by_cases hw : w = told r c p
      · subst hw
        simp
      · rw [if_neg hw]
        have : (told r c p == w) = false := by
          rw [beq_eq_false_iff_ne]
          exact fun z => hw z.symm
        simp [this]
theorem parts_nodup (r : Rule) (c : Pt) : ∀ (ps : List Pt) (g : List (Str × List Pt)), (g.map (·.1)).Nodup → ((ps.foldl (stepP r c) g).map (·.1)).Nodup
  | [], g, h => h
  | p :: ps, g, h => by
    rw [List.foldl_cons]
    refine parts_nodup r c ps _ ?_
    unfold stepP
    split
    · exact h
    · exact nodup_put h
theorem parts_mem {r : Rule} {c : Pt} {ps : List Pt} {q : List Pt} (h : q ∈ partsL r c ps) : ∃ w, q = ps.filter fun p => !decide (c = p) && told r c p == w := by
  obtain ⟨⟨w, l⟩, hl, rfl⟩ := List.mem_map.mp h
  refine ⟨w, ?_⟩
  have e := mem_look (parts_nodup r c ps [] (by simp)) hl
  have e2 := parts_get r c w ps []
  rw [lookK_nil] at e2
  have e3 : (lookK (partsF r c ps) w).getD [] = l := by
    show (lookK (ps.foldl (stepP r c) []) w).getD [] = l
    rw [e]
    rfl
  rw [← e3]
  exact e2
theorem parts_sub {r : Rule} {c : Pt} {ps q : List Pt} (h : q ∈ partsL r c ps) : List.Sublist q ps := by
  obtain ⟨w, rfl⟩ := parts_mem h
  exact List.filter_sublist
theorem parts_lt {r : Rule} {c : Pt} {ps q : List Pt} (h : q ∈ partsL r c ps) (hn : ps ∉ partsL r c ps) : q.length < ps.length := by
  have s := parts_sub h
  rcases Nat.lt_or_ge q.length ps.length with z | z
  · exact z
  · have := s.eq_of_length_le z
    subst this
    exact absurd h hn
theorem parts_count (r : Rule) (c : Pt) : ∀ (ps : List Pt) (g : List (Str × List Pt)), (ps.foldl (stepP r c) g).length ≤ g.length + ps.length
  | [], g => by simp
  | p :: ps, g => by
    rw [List.foldl_cons]
    have h1 := parts_count r c ps (stepP r c g p)
    have h2 : (stepP r c g p).length ≤ g.length + 1 := by
      unfold stepP
      split
      · omega
      · unfold addP putKV
        split
        · rw [List.length_map]; omega
        · simp
    rw [List.length_cons]
    omega
def encG (g : List (Str × List Pt)) : List (Key × Val) := g.map fun p => ((Sum.inr p.1 : Key), Val.d (.tup (p.2.map cellD)))
def encGD (g : List (Str × List Pt)) : List (Key × D) := g.map fun p => ((Sum.inr p.1 : Key), D.tup (p.2.map cellD))
theorem inr_inj (a b : Str) (h : (Sum.inr a : Key) = Sum.inr b) : a = b := by cases h; rfl
theorem encG_look (g : List (Str × List Pt)) (w : Str) : lookK (encG g) (Sum.inr w) = (lookK g w).map fun l => Val.d (.tup (l.map cellD)) := look_enc (fun x => (Sum.inr x : Key)) inr_inj (fun (l : List Pt) => Val.d (.tup (l.map cellD))) g w
theorem encG_put (g : List (Str × List Pt)) (w : Str) (l : List Pt) : putKV (encG g) (Sum.inr w) (Val.d (.tup (l.map cellD))) = encG (putKV g w l) := put_enc (fun x => (Sum.inr x : Key)) inr_inj (fun (l : List Pt) => Val.d (.tup (l.map cellD))) g w l
theorem datas_encG (g : List (Str × List Pt)) : datas ((encG g).map (·.2)) = some ((encGD g).map (·.2)) := by
  have e : (encG g).map (·.2) = ((encGD g).map (·.2)).map Val.d := by
    unfold encG encGD
    simp [List.map_map, Function.comp_def]
  rw [e, datas_map]
theorem zip_encG (g : List (Str × List Pt)) : ((encG g).map (·.1)).zip ((encGD g).map (·.2)) = encGD g := by
  unfold encG encGD
  induction g with
  | nil => rfl
  | cons p g ih => simp only [List.map_cons, List.zip_cons_cons, ih]
theorem addT {xs ys : List D} (h : xs.length + ys.length ≤ lim) (t : T) : fAdd (.d (.tup xs)) (.d (.tup ys)) t = .ok (.d (.tup (xs ++ ys))) t := by
  show (if xs.length + ys.length ≤ lim then _ else _) = _
  rw [if_pos h]
end En
set_option Elab.async false
set_option linter.all false
set_option maxRecDepth 100000
set_option maxHeartbeats 2000000
namespace K90
open PySem PySem.Spec PyProof.Rows L2 En
theorem ne_found (r : Rule) (c p : Pt) (t : T) : fNe (.d (.str (told r c p))) (.d (.str "found")) t = .ok (.d (.bl (!decide (c = p)))) t := by
  rw [En.ne_str (told_ok r c p) (by decide +kernel), told_found]
theorem ne_cell (c p : Pt) (t : T) : fNe (.d (cellD c)) (.d (cellD p)) t = .ok (.d (.bl (!decide (c = p)))) t := by
  rw [ne_of_val (val_cell c t) (val_cell p t), eqv_cell]
theorem get_encG (g : List (Str × List Pt)) (w : Str) (b : Box) : dGet? (.loc 0) (.d (.str w)) ⟨[.dK (encG g)], b⟩ = some ((lookK g w).map fun l => Val.d (.tup (l.map cellD))) := by
  show (keyK (.d (.str w))).map (fun k => lookK (encG g) k) = _
  show some (lookK (encG g) (Sum.inr w)) = _
  rw [encG_look]
theorem getD_encG (g : List (Str × List Pt)) (w : Str) : ((lookK g w).map fun l => Val.d (.tup (l.map cellD))).getD (.d (.tup [])) = .d (.tup (((lookK g w).getD []).map cellD)) := by
  cases lookK g w <;> rfl
theorem isdic0 (g : List (Key × Val)) (b : Box) : isDicB (.loc 0) ⟨[.dK g], b⟩ = true := rfl
theorem tup1 (d : D) (t : T) : fTup [.d d] t = .ok (.d (.tup [d])) t := rfl
theorem tup0 (t : T) : fTup [] t = .ok (.d (.tup [])) t := rfl
theorem put_part {ρ : Rho} {g : List (Str × List Pt)} {w : Str} {p : Pt} {b : Box} (h3 : ρ[3]? = some (some (.loc 0))) (h5 : ρ[5]? = some (some (.d (.str w)))) (h4 : ρ[4]? = some (some (.d (cellD p)))) (hg : g.length < 1000) (hl : ((lookK g w).getD []).length < 1000) :
    En.sDPut (mVar 3) (mVar 5) (m2 fAdd (mDGet2 (mVar 3) (mVar 5) (mL fTup mNil)) (mL fTup (mCons (mVar 4) mNil))) ρ ⟨[.dK (encG g)], b⟩ = .nx ρ ⟨[.dK (encG (addP g w p))], b⟩ := by
  have e3 : ∀ t : T, mVar 3 ρ t = .ok (.loc 0) t := fun t => mVar_eq h3
  have e4 : ∀ t : T, mVar 4 ρ t = .ok (.d (cellD p)) t := fun t => mVar_eq h4
  have e5 : ∀ t : T, mVar 5 ρ t = .ok (.d (.str w)) t := fun t => mVar_eq h5
  have ad := addT (xs := ((lookK g w).getD []).map cellD) (ys := [cellD p]) (by rw [List.length_map]; show _ + 1 ≤ 100000; omega) ⟨[.dK (encG g)], b⟩
  have hlen : (encG g).length < lim := by
    unfold encG
    rw [List.length_map]
    show _ < 100000
    omega
  unfold En.sDPut mDGet2
  simp only [m2, mL, mCons, mNil, e3, e4, e5, R.bind_ok, R.toS_ok, isdic0, if_true, tup0, tup1, get_encG, getD_encG, ad]
  have := encG_put g w ((lookK g w).getD [] ++ [p])
  rw [List.map_append, List.map_cons, List.map_nil] at this
  simp only [List.getElem?_cons_zero, keyK, hlen, if_true, List.set_cons_zero, this]
  rfl
theorem part_small {r : Rule} {c : Pt} {ps pre : List Pt} (hl : ps.length ≤ 200) (h : ∃ post, ps = pre ++ post) (w : Str) : ((lookK (pre.foldl (stepP r c) []) w).getD []).length < 1000 ∧ (pre.foldl (stepP r c) []).length < 1000 := by
  obtain ⟨post, rfl⟩ := h
  rw [List.length_append] at hl
  have h1 := parts_count r c pre []
  rw [List.length_nil] at h1
  refine ⟨?_, by omega⟩
  rw [parts_get, lookK_nil]
  have := List.length_filter_le (fun p => !decide (c = p) && told r c p == w) pre
  show ([] ++ _ : List Pt).length < 1000
  rw [List.nil_append]
  omega
theorem parted_eq (r : Rule) (c : Pt) (ps : List Pt) (hl : ps.length ≤ 200) (b : Box) : ∃ st, f_parted [.d (.tup (ps.map cellD)), .d (ruleD r), .d (cellD c)] b = .ok (.d (.dK (encGD (partsF r c ps)))) ⟨st, b⟩ := by
  have h1 : ∀ (p : Pt) (t : T), fCall f_told_of [.d (ruleD r), .d (cellD c), .d (cellD p)] t = .ok (.d (.str (told r c p))) t := fun p t => call_eq rfl (told_of_eq r c p t.b)
  obtain ⟨ρ', t', e, o4, o5, rfl, rfl⟩ := forM_pre (f := gN 4) (b := (sSeq (sSet 5 (mL (fCall f_told_of) (mCons (mVar 1) (mCons (mVar 2) (mCons (mVar 4) mNil)))))
     (sIf (m1 asB (m2 fNe (mVar 5) (mC d_FOUND)))
      (En.sDPut (mVar 3) (mVar 5) (m2 fAdd (mDGet2 (mVar 3) (mVar 5) (mL fTup mNil)) (mL fTup (mCons (mVar 4) mNil))))
      sNil))) (fun p => .d (cellD p)) (fun pre ρ t => ∃ o4 o5, ρ = [some (.d (.tup (ps.map cellD))), some (.d (ruleD r)), some (.d (cellD c)), some (.loc 0), o4, o5] ∧ t = ⟨[.dK (encG (pre.foldl (stepP r c) []))], b⟩) ps (by
    rintro p pre post ρ t epr ⟨o4, o5, rfl, rfl⟩
    obtain ⟨s1, s2⟩ := part_small (r := r) (c := c) hl ⟨_, epr⟩ (told r c p)
    by_cases hcp : c = p
    · refine ⟨_, _, _, rfl, ?_, some (.d (cellD p)), some (.d (.str (told r c p))), rfl, rfl⟩
      have e0 : (pre ++ [p]).foldl (stepP r c) [] = pre.foldl (stepP r c) [] := by rw [List.foldl_append, List.foldl_cons, List.foldl_nil]; unfold stepP; rw [if_pos hcp]
      have hd : decide (c = p) = true := decide_eq_true hcp
      simp only [List.map_cons, List.map_nil, List.length_cons, List.length_nil, List.replicate, List.cons_append, List.nil_append, List.append_nil, sSeq, sIf, sRet, sNil, sSet, sDrop, m2, m1, mL, mCons, mNil, mC, mVar, mIf, List.getElem?_cons_zero, List.getElem?_cons_succ, List.set_cons_zero, List.set_cons_succ, R.bind_ok, R.toS_ok, Nat.reduceAdd, Nat.reduceSub, Nat.zero_add, En.eq_cell, En.asB_ok, En.eq_int, En.lt_ok, En.le_ok, En.sub_ok, En.add_ok, En.abs_ok, En.cell_0, En.cell_1, decide_true, decide_false, Bool.false_eq_true, if_true, if_false, Bool.not_true, Bool.not_false, h1, d_FOUND, ne_found, hd, e0]
    · refine ⟨_, _, _, rfl, ?_, some (.d (cellD p)), some (.d (.str (told r c p))), rfl, rfl⟩
      have e0 : (pre ++ [p]).foldl (stepP r c) [] = addP (pre.foldl (stepP r c) []) (told r c p) p := by rw [List.foldl_append, List.foldl_cons, List.foldl_nil]; unfold stepP; rw [if_neg hcp]
      have pp := put_part (ρ := [some (.d (.tup (ps.map cellD))), some (.d (ruleD r)), some (.d (cellD c)), some (.loc 0), some (.d (cellD p)), some (.d (.str (told r c p)))]) (g := pre.foldl (stepP r c) []) (w := told r c p) (p := p) (b := b) rfl rfl rfl s2 s1
      simp only [List.map_cons, List.map_nil, List.length_cons, List.length_nil, List.replicate, List.cons_append, List.nil_append, List.append_nil, sSeq, sIf, sRet, sNil, sSet, sDrop, m2, m1, mL, mCons, mNil, mC, mVar, mIf, List.getElem?_cons_zero, List.getElem?_cons_succ, List.set_cons_zero, List.set_cons_succ, R.bind_ok, R.toS_ok, Nat.reduceAdd, Nat.reduceSub, Nat.zero_add, En.eq_cell, En.asB_ok, En.eq_int, En.lt_ok, En.le_ok, En.sub_ok, En.add_ok, En.abs_ok, En.cell_0, En.cell_1, decide_true, decide_false, Bool.false_eq_true, if_true, if_false, Bool.not_true, Bool.not_false, h1, d_FOUND, ne_found, hcp, e0, pp]) ps [] [some (.d (.tup (ps.map cellD))), some (.d (ruleD r)), some (.d (cellD c)), some (.loc 0), none, none] ⟨[.dK []], b⟩ rfl ⟨none, none, rfl, rfl⟩
  refine ⟨[.dead], ?_⟩
  unfold f_parted runF runG m_parted
  simp only [List.map_cons, List.map_nil, List.length_cons, List.length_nil, List.replicate, List.cons_append, List.nil_append, List.append_nil, sSeq, sIf, sRet, sNil, sSet, sDrop, m2, m1, mL, mCons, mNil, mC, mVar, mIf, List.getElem?_cons_zero, List.getElem?_cons_succ, List.set_cons_zero, List.set_cons_succ, R.bind_ok, R.toS_ok, Nat.reduceAdd, Nat.reduceSub, Nat.zero_add, En.eq_cell, En.asB_ok, En.eq_int, En.lt_ok, En.le_ok, En.sub_ok, En.add_ok, En.abs_ok, En.cell_0, En.cell_1, decide_true, decide_false, Bool.false_eq_true, if_true, if_false, Bool.not_true, Bool.not_false, mDNewK, sFor, cells_iter, d_FOUND] at e ⊢
  rw [e]
  simp only [sFzD, List.getElem?_cons_zero, List.getElem?_cons_succ, datas_encG, zip_encG, List.set_cons_zero, List.set_cons_succ]
  rfl
theorem valsD (g : List (Str × List Pt)) (t : T) : fDVals (.d (.dK (encGD g))) t = .ok (((g.map (·.2)).map fun l => D.tup (l.map cellD)).map Val.d) t := by
  show R.ok ((encGD g).map fun p => Val.d p.2) t = _
  unfold encGD
  simp [List.map_map, Function.comp_def]
theorem valsDI (g : List (Str × List Pt)) (t : T) : fDValsI (.d (.dK (encGD g))) t = .ok ((g.map (·.2)).map fun l => Val.d (.tup (l.map cellD))) t := by
  show R.ok ((encGD g).map fun p => Val.d p.2) t = _
  unfold encGD
  simp [List.map_map, Function.comp_def]
def listsD (ls : List (List Pt)) : D := .lst (ls.map fun l => D.tup (l.map cellD))
end K90
set_option Elab.async false
set_option linter.all false
set_option maxRecDepth 100000
set_option maxHeartbeats 2000000
namespace K90
open PySem PySem.Spec PyProof.Rows L2 En
theorem pairs_map : ∀ (ds : List D) (k : Nat), pairsFrom k ds = (List.range ds.length).map fun (i : Nat) => Val.d (.tup [.int ((k + i : Nat) : Int), ds.getD i .non])
  | [], _ => rfl
  | d :: ds, k => by
    rw [pairsFrom, pairs_map ds (k + 1), List.length_cons, List.range_succ_eq_map, List.map_cons, List.map_map]
    congr 1
    refine List.map_congr_left fun i _ => ?_
    simp only [Function.comp]
    have : k + 1 + i = k + i.succ := by omega
    rw [this]
    rfl
theorem pairs0 (ds : List D) : pairsFrom 0 ds = (List.range ds.length).map fun (i : Nat) => Val.d (.tup [.int (i : Int), ds.getD i .non]) := by
  rw [pairs_map]
  refine List.map_congr_left fun i _ => ?_
  rw [Nat.zero_add]
theorem chars_get (x : Str) (j : Nat) (h : j < x.cps.toList.length) : (charsD x).getD j .non = .str ⟨#[x.cps.toList.getD j 0]⟩ := by
  unfold charsD
  rw [List.getD_eq_getElem?_getD, List.getElem?_map, List.getD_eq_getElem?_getD, List.getElem?_eq_getElem h]
  rfl
theorem rows_get (rows : List Str) (i : Nat) (h : i < rows.length) : (rows.map D.str).getD i .non = .str (rows.getD i ⟨#[]⟩) := by
  rw [List.getD_eq_getElem?_getD, List.getElem?_map, List.getD_eq_getElem?_getD, List.getElem?_eq_getElem h]
  rfl
theorem extend0 {us vs : List Val} {ds : List D} {b : Box} (hv : vs = ds.map Val.d) (h : us.length + vs.length ≤ lim) : fExtend (.loc 0) [.d (.lst ds)] ⟨[.lst us], b⟩ = .ok (.d .non) ⟨[.lst (us ++ vs)], b⟩ := by
  subst hv
  show (if us.length + (ds.map Val.d).length ≤ lim then _ else _) = _
  rw [if_pos h]
  rfl
theorem isl0 (us : List Val) (b : Box) : isLstB (.loc 0) ⟨[.lst us], b⟩ = true := rfl
theorem row_compP {rows : List Str} {w : Nat} (hr : RowsOk rows w) {i : Nat} (h1 : i < rows.length) (v0 v1 : Option Val) (t : T) :
    lcM (gT 2 (gsCons (gN 4) (gsCons (gN 5) gsNil))) (m1 asB (m2 fNe (mVar 5) (mC (.str "~")))) (mL fTup (mCons (mVar 2) (mCons (mVar 4) mNil))) [v0, v1, some (.d (.int (i : Int))), some (.d (.str (rows.getD i ⟨#[]⟩))), none, none] (pairsFrom 0 (charsD (rows.getD i ⟨#[]⟩))) [] t = .ok (((rowCells rows w i).map cellD).map Val.d) t := by
  have hx : rows.getD i ⟨#[]⟩ ∈ rows := by
    rw [List.getD_eq_getElem?_getD, List.getElem?_eq_getElem h1]
    exact List.getElem_mem h1
  have hxl : (rows.getD i ⟨#[]⟩).cps.toList.length = w := hr.row _ hx
  have hcl : (charsD (rows.getD i ⟨#[]⟩)).length = w := by unfold charsD; rw [List.length_map]; exact hxl
  rw [pairs0, hcl]
  have e := lcM_filter (f := gT 2 (gsCons (gN 4) (gsCons (gN 5) gsNil))) (tt := m1 asB (m2 fNe (mVar 5) (mC (.str "~")))) (te := mL fTup (mCons (mVar 2) (mCons (mVar 4) mNil))) (ρ := [v0, v1, some (.d (.int (i : Int))), some (.d (.str (rows.getD i ⟨#[]⟩))), none, none]) (t := t) (fun (j : Nat) => Val.d (.tup [.int (j : Int), (charsD (rows.getD i ⟨#[]⟩)).getD j .non])) (fun j => !(signAt rows i j == 126)) (fun j => .d (cellD ((i : Int), (j : Int)))) (List.range w) [] (fun j hj => by
    have hj := List.mem_range.mp hj
    rw [chars_get _ _ (by omega)]
    have hs : (rows.getD i ⟨#[]⟩).cps.toList.getD j 0 ∈ [46, 126, 65, 66, 84] := hr.sign _ hx _ (by
      generalize rows.getD i ⟨#[]⟩ = x at hxl ⊢
      rw [List.getD_eq_getElem?_getD, List.getElem?_eq_getElem (by omega)]
      exact List.getElem_mem _)
    refine ⟨_, rfl, ?_, fun _ => ?_⟩
    · simp only [List.map_cons, List.map_nil, List.length_cons, List.length_nil, List.replicate, List.cons_append, List.nil_append, List.append_nil, sSeq, sIf, sRet, sNil, sSet, sDrop, m2, m1, mL, mCons, mNil, mC, mVar, mIf, List.getElem?_cons_zero, List.getElem?_cons_succ, List.set_cons_zero, List.set_cons_succ, R.bind_ok, R.toS_ok, Nat.reduceAdd, Nat.reduceSub, Nat.zero_add, En.eq_cell, En.asB_ok, En.eq_int, En.lt_ok, En.le_ok, En.sub_ok, En.add_ok, En.abs_ok, En.cell_0, En.cell_1, decide_true, decide_false, Bool.false_eq_true, if_true, if_false, Bool.not_true, Bool.not_false, sign_ne hs]
      rfl
    · simp only [List.map_cons, List.map_nil, List.length_cons, List.length_nil, List.replicate, List.cons_append, List.nil_append, List.append_nil, sSeq, sIf, sRet, sNil, sSet, sDrop, m2, m1, mL, mCons, mNil, mC, mVar, mIf, List.getElem?_cons_zero, List.getElem?_cons_succ, List.set_cons_zero, List.set_cons_succ, R.bind_ok, R.toS_ok, Nat.reduceAdd, Nat.reduceSub, Nat.zero_add, En.eq_cell, En.asB_ok, En.eq_int, En.lt_ok, En.le_ok, En.sub_ok, En.add_ok, En.abs_ok, En.cell_0, En.cell_1, decide_true, decide_false, Bool.false_eq_true, if_true, if_false, Bool.not_true, Bool.not_false]
      rfl) (by rw [List.length_nil, List.length_range, Nat.zero_add]; exact Nat.le_trans hr.w2 (by decide))
  rw [e]
  simp only [List.nil_append, rowCells, List.map_map]
  rfl
theorem cellsP_eq {rows : List Str} {w : Nat} (hr : RowsOk rows w) (b : Box) : ∃ st, f_Island__cells [.d (islD rows)] b = .ok (.d (.lst ((cellsOf rows w).map cellD))) ⟨st, b⟩ := by
  obtain ⟨ρ', t', e, o2, o3, o4, o5, rfl, rfl⟩ := forM_pre (f := gT 2 (gsCons (gN 2) (gsCons (gN 3) gsNil))) (b := (sDrop (mMeth isLstB fExtend (mVar 1) (mCons (mL fFz (mLc [4, 5] (gT 2 (gsCons (gN 4) (gsCons (gN 5) gsNil))) (mL fEnum (mCons (mVar 3) mNil)) (m1 asB (m2 fNe (mVar 5) (mC (.str "~")))) (mL fTup (mCons (mVar 2) (mCons (mVar 4) mNil))))) mNil)))) (fun (i : Nat) => Val.d (.tup [.int (i : Int), (rows.map D.str).getD i .non]))
    (fun pre ρ t => ∃ o2 o3 o4 o5, ρ = [some (.d (islD rows)), some (.loc 0), o2, o3, o4, o5] ∧ t = ⟨[.lst (((pre.flatMap (rowCells rows w)).map cellD).map Val.d)], b⟩) (List.range rows.length) (by
    rintro i pre post ρ t epr ⟨o2, o3, o4, o5, rfl, rfl⟩
    have hi : i < rows.length := List.mem_range.mp (by rw [epr]; simp)
    have hpl : pre.length ≤ rows.length := by
      have := congrArg List.length epr
      rw [List.length_range, List.length_append] at this
      omega
    rw [rows_get rows i hi]
    refine ⟨_, _, _, rfl, ?_, some (.d (.int (i : Int))), some (.d (.str (rows.getD i ⟨#[]⟩))), o4, o5, rfl, rfl⟩
    have rc := row_compP hr hi (some (.d (islD rows))) (some (.loc 0)) ⟨[.lst (((pre.flatMap (rowCells rows w)).map cellD).map Val.d)], b⟩
    have h1 := rowCells_len rows w i
    have h2 : (pre.flatMap (rowCells rows w)).length ≤ pre.length * w := by
      have := fold_len rows w pre []
      rw [foldl_flat] at this
      simpa using this
    have hm : pre.length * w ≤ 12 * 12 := Nat.mul_le_mul (Nat.le_trans hpl hr.len) hr.w2
    have w2 := hr.w2
    have ex := extend0 (us := ((pre.flatMap (rowCells rows w)).map cellD).map Val.d) (vs := ((rowCells rows w i).map cellD).map Val.d) (ds := (rowCells rows w i).map cellD) (b := b) rfl (by simp only [List.length_map]; show _ ≤ 100000; omega)
    simp only [List.map_cons, List.map_nil, List.length_cons, List.length_nil, List.replicate, List.cons_append, List.nil_append, List.append_nil, sSeq, sIf, sRet, sNil, sSet, sDrop, m2, m1, mL, mCons, mNil, mC, mVar, mIf, List.getElem?_cons_zero, List.getElem?_cons_succ, List.set_cons_zero, List.set_cons_succ, R.bind_ok, R.toS_ok, Nat.reduceAdd, Nat.reduceSub, Nat.zero_add, En.eq_cell, En.asB_ok, En.eq_int, En.lt_ok, En.le_ok, En.sub_ok, En.add_ok, En.abs_ok, En.cell_0, En.cell_1, decide_true, decide_false, Bool.false_eq_true, if_true, if_false, Bool.not_true, Bool.not_false, mMeth, isl0, mLc, wipeR, enum_str, rc, fFz, datas_map, ex]
    simp) (List.range rows.length) [] [some (.d (islD rows)), some (.loc 0), none, none, none, none] ⟨[.lst []], b⟩ rfl ⟨none, none, none, none, rfl, rfl⟩
  refine ⟨[.dead], ?_⟩
  have hl : (rows.map D.str).length = rows.length := List.length_map ..
  unfold f_Island__cells runF runG m_Island__cells
  simp only [List.map_cons, List.map_nil, List.length_cons, List.length_nil, List.replicate, List.cons_append, List.nil_append, List.append_nil, sSeq, sIf, sRet, sNil, sSet, sDrop, m2, m1, mL, mCons, mNil, mC, mVar, mIf, List.getElem?_cons_zero, List.getElem?_cons_succ, List.set_cons_zero, List.set_cons_succ, R.bind_ok, R.toS_ok, Nat.reduceAdd, Nat.reduceSub, Nat.zero_add, En.eq_cell, En.asB_ok, En.eq_int, En.lt_ok, En.le_ok, En.sub_ok, En.add_ok, En.abs_ok, En.cell_0, En.cell_1, decide_true, decide_false, Bool.false_eq_true, if_true, if_false, Bool.not_true, Bool.not_false, fNew, f1, sFor, isl_rows, enum_tup, pairs0, hl, d_WATER]
  rw [e, ← cellsOf_flat]
  simp only [sFz, List.getElem?_cons_zero, List.getElem?_cons_succ, fFreeze, datas_map, List.set_cons_zero, List.set_cons_succ, List.map_cons, List.map_nil, List.length_cons, List.length_nil, List.replicate, List.cons_append, List.nil_append, List.append_nil, sSeq, sIf, sRet, sNil, sSet, sDrop, m2, m1, mL, mCons, mNil, mC, mVar, mIf, List.getElem?_cons_zero, List.getElem?_cons_succ, List.set_cons_zero, List.set_cons_succ, R.bind_ok, R.toS_ok, Nat.reduceAdd, Nat.reduceSub, Nat.zero_add, En.eq_cell, En.asB_ok, En.eq_int, En.lt_ok, En.le_ok, En.sub_ok, En.add_ok, En.abs_ok, En.cell_0, En.cell_1, decide_true, decide_false, Bool.false_eq_true, if_true, if_false, Bool.not_true, Bool.not_false]
theorem prop_cells {rows : List Str} {w : Nat} (hr : RowsOk rows w) (t : T) : fProp "Island" f_Island__cells (.d (islD rows)) t = .ok (.d (.lst ((cellsOf rows w).map cellD))) t := by
  obtain ⟨st, e⟩ := cellsP_eq hr t.b
  have : fCall f_Island__cells [.d (islD rows)] t = .ok (.d (.lst ((cellsOf rows w).map cellD))) t := call_eq' rfl e
  unfold fProp
  simp only [islD, clsOf]
  show (if ("Island" : Str) = "Island" then noX (fCall f_Island__cells [.d (islD rows)] t) else .stuck) = _
  rw [if_pos rfl, this]
  rfl
end K90
set_option Elab.async false
set_option linter.all false
set_option maxRecDepth 100000
set_option maxHeartbeats 2000000
namespace K90
open PySem PySem.Spec PyProof.Rows L2 En
def stepN (f : Pt → Int) (s : Option (Int × Pt)) (c : Pt) : Option (Int × Pt) := match s with
  | none => some (f c, c)
  | some (m, q) => if f c < m then some (f c, c) else some (m, q)
theorem argmin_go (f : Pt → Int) : ∀ (xs pre : List Pt) (m : Int) (q : Pt) (j : Nat), pre[j]? = some q → f q = m → (∀ (i : Nat) (z : Pt), i < j → pre[i]? = some z → m < f z) → (∀ z ∈ pre, m ≤ f z) →
    ∃ (m' : Int) (q' : Pt) (j' : Nat), xs.foldl (stepN f) (some (m, q)) = some (m', q') ∧ (pre ++ xs)[j']? = some q' ∧ f q' = m' ∧ (∀ (i : Nat) (z : Pt), i < j' → (pre ++ xs)[i]? = some z → m' < f z) ∧ ∀ z ∈ pre ++ xs, m' ≤ f z
  | [], pre, m, q, j, h1, h2, h3, h4 => ⟨m, q, j, rfl, by simpa using h1, h2, by simpa using h3, by simpa using h4⟩
  | x :: xs, pre, m, q, j, h1, h2, h3, h4 => by
    have e : pre ++ x :: xs = (pre ++ [x]) ++ xs := by simp
    rw [List.foldl_cons, e]
    have hj : j < pre.length := (List.getElem?_eq_some_iff.mp h1).1
    by_cases hc : f x < m
    · have es : stepN f (some (m, q)) x = some (f x, x) := if_pos hc
      rw [es]
      refine argmin_go f xs (pre ++ [x]) (f x) x pre.length (by simp) rfl (fun i z hi hz => ?_) fun z hz => ?_
      · rw [List.getElem?_append_left hi] at hz
        have := h4 z (List.mem_of_getElem? hz)
        omega
      · rcases List.mem_append.mp hz with hz | hz
        · have := h4 z hz; omega
        · rw [List.mem_singleton.mp hz]; exact Int.le_refl _
    · have es : stepN f (some (m, q)) x = some (m, q) := if_neg hc
      rw [es]
      refine argmin_go f xs (pre ++ [x]) m q j (by rw [List.getElem?_append_left hj]; exact h1) h2 (fun i z hi hz => ?_) fun z hz => ?_
      · rw [List.getElem?_append_left (by omega)] at hz
        exact h3 i z hi hz
      · rcases List.mem_append.mp hz with hz | hz
        · exact h4 z hz
        · rw [List.mem_singleton.mp hz]; omega
theorem ixOf_of {i : Int} : ∀ {ns : List Int} {j : Nat}, ns[j]? = some i → (∀ m, m < j → ∀ z, ns[m]? = some z → z ≠ i) → ixOf i ns = some j
  | [], j, h, _ => by simp at h
  | n :: ns, 0, h, _ => by
    simp only [List.getElem?_cons_zero, Option.some.injEq] at h
    unfold ixOf
    rw [if_pos h]
  | n :: ns, j + 1, h, q => by
    unfold ixOf
    rw [if_neg (q 0 (Nat.zero_lt_succ _) n rfl), ixOf_of (by simpa using h) fun m hm z hz => q (m + 1) (by omega) z (by simpa using hz)]
    rfl
theorem argmin_index (f : Pt → Int) (cs : List Pt) (h : 0 < cs.length) : ∃ m q j, cs.foldl (stepN f) none = some (m, q) ∧ minL (cs.map f) = m ∧ ixOf m (cs.map f) = some j ∧ ∃ hj : j < cs.length, cs[j] = q := by
  cases cs with
  | nil => simp at h
  | cons c cs =>
    rw [List.foldl_cons]
    have es : stepN f none c = some (f c, c) := rfl
    rw [es]
    obtain ⟨m, q, j, e1, e2, e3, e4, e5⟩ := argmin_go f cs [c] (f c) c 0 rfl rfl (fun i z hi => absurd hi (Nat.not_lt_zero _)) fun z hz => by rw [List.mem_singleton.mp hz]; exact Int.le_refl _
    have e2 : (c :: cs)[j]? = some q := e2
    have hmem : m ∈ (c :: cs).map f := List.mem_map.mpr ⟨q, List.mem_of_getElem? e2, e3⟩
    obtain ⟨g1, g2⟩ := minL_spec (n := f c) (ns := cs.map f)
    refine ⟨m, q, j, e1, ?_, ixOf_of (by rw [List.getElem?_map, e2, ← e3]; rfl) fun i hi z hz => ?_, (List.getElem?_eq_some_iff.mp e2).1, (List.getElem?_eq_some_iff.mp e2).2⟩
    · rw [List.map_cons] at hmem ⊢
      have k1 := g2 m hmem
      obtain ⟨z, hz, hz2⟩ := List.mem_map.mp (show minL (f c :: cs.map f) ∈ (c :: cs).map f from g1)
      have k2 := e5 z hz
      omega
    · rw [List.getElem?_map] at hz
      obtain ⟨z', hz', rfl⟩ := Option.map_eq_some_iff.mp hz
      have := e4 i z' hi hz'
      omega
theorem intsOf_map : ∀ ns : List Int, intsOf ((ns.map D.int).map Val.d) = some ns
  | [] => rfl
  | n :: ns => by
    simp only [List.map_cons, intsOf, intsOf_map ns]
    rfl
theorem max1_ok (n : Int) (ns : List Int) (t : T) : fMax1 [.d (.lst ((n :: ns).map D.int))] t = .ok (.d (.int (maxL (n :: ns)))) t := by
  show (match intsOf (((n :: ns).map D.int).map Val.d) with | some ns => _ | none => _) = _
  rw [intsOf_map]
  rfl
theorem min1_ok (n : Int) (ns : List Int) (t : T) : fMin1 [.d (.lst ((n :: ns).map D.int))] t = .ok (.d (.int (minL (n :: ns)))) t := by
  show (match intsOf (((n :: ns).map D.int).map Val.d) with | some ns => _ | none => _) = _
  rw [intsOf_map]
  rfl
theorem index_ok {ns : List Int} {i : Int} {j : Nat} (h : ixOf i ns = some j) (t : T) : fIndexI (.d (.lst (ns.map D.int))) [.d (.int i)] t = .ok (.d (.int (j : Int))) t := by
  show (match intsOf ((ns.map D.int).map Val.d) with | some ns => _ | none => _) = _
  rw [intsOf_map]
  simp only [h]
  rfl
def lens (ls : List (List Pt)) : List Int := ls.map fun l => (l.length : Int)
def worstF (r : Rule) (ps : List Pt) (c : Pt) : Int := maxL (0 :: lens (partsL r c ps))
theorem parts_len_le (r : Rule) (c : Pt) (ps : List Pt) : (partsL r c ps).length ≤ ps.length := by
  have := parts_count r c ps []
  unfold partsL partsF
  rw [List.length_map]
  simpa using this
theorem lens_comp {ρ : Rho} {i : Nat} (ls : List (List Pt)) (hl : ls.length ≤ 1000) (t : T) (hv : ∀ v, (ρ.set i (some v))[i]? = some (some v)) : lcM (gN i) mYes (mL fLenB (mCons (mVar i) mNil)) ρ (ls.map fun l => Val.d (.tup (l.map cellD))) [] t = .ok (((lens ls).map D.int).map Val.d) t := by
  have e := lcM_filter (f := gN i) (tt := mYes) (te := mL fLenB (mCons (mVar i) mNil)) (ρ := ρ) (t := t) (fun l => Val.d (.tup (l.map cellD))) (fun _ => true) (fun (l : List Pt) => .d (.int (l.length : Int))) ls [] (fun l _ => by
    refine ⟨_, rfl, rfl, fun _ => ?_⟩
    have e1 : mVar i (ρ.set i (some (Val.d (.tup (l.map cellD))))) t = .ok (.d (.tup (l.map cellD))) t := mVar_eq (hv _)
    simp only [mL, mCons, mNil, e1, R.bind_ok, len_tup, List.length_map]) (by rw [List.length_nil]; show _ ≤ 100000; omega)
  rw [e]
  have : ls.filter (fun _ => true) = ls := List.filter_eq_self.mpr fun _ _ => rfl
  rw [this]
  unfold lens
  simp [List.map_map, Function.comp_def]
theorem lst1 (t : T) : fLen [.d (.int 0)] t = .ok [.d (.int 0)] t := rfl
theorem worst_eq (r : Rule) (ps : List Pt) (hl : ps.length ≤ 200) (c : Pt) (o0 o3 o4 o6 o7 : Option Val) (t : T) :
    mL fMax1 (mCons (m2 fAdd (mL fFz (mL fLen (mCons (mC (.int 0)) mNil))) (mL fFz (mLc [7] (gN 7) (m1 fDValsI (mL (fCall f_parted) (mCons (mVar 1) (mCons (mVar 2) (mCons (mVar 5) mNil))))) mYes (mL fLenB (mCons (mVar 7) mNil))))) mNil)
      [o0, some (.d (.tup (ps.map cellD))), some (.d (ruleD r)), o3, o4, some (.d (cellD c)), o6, o7] t = .ok (.d (.int (worstF r ps c))) t := by
  have h1 : ∀ t : T, fCall f_parted [.d (.tup (ps.map cellD)), .d (ruleD r), .d (cellD c)] t = .ok (.d (.dK (encGD (partsF r c ps)))) t := fun t => by
    obtain ⟨st, e⟩ := parted_eq r c ps hl t.b
    exact call_eq' rfl e
  have hpl := parts_len_le r c ps
  have h2 := lens_comp (ρ := [o0, some (.d (.tup (ps.map cellD))), some (.d (ruleD r)), o3, o4, some (.d (cellD c)), o6, none]) (i := 7) (partsL r c ps) (by omega) t (fun _ => rfl)
  have h3 := add_lst (xs := [.int 0]) (ys := (lens (partsL r c ps)).map D.int) (by unfold lens; simp only [List.length_cons, List.length_nil, List.length_map]; show _ ≤ 100000; omega) t
  have h4 := max1_ok 0 (lens (partsL r c ps)) t
  simp only [List.map_cons, List.map_nil, List.length_cons, List.length_nil, List.replicate, List.cons_append, List.nil_append, List.append_nil, sSeq, sIf, sRet, sNil, sSet, sDrop, m2, m1, mL, mCons, mNil, mC, mVar, mIf, List.getElem?_cons_zero, List.getElem?_cons_succ, List.set_cons_zero, List.set_cons_succ, R.bind_ok, R.toS_ok, Nat.reduceAdd, Nat.reduceSub, Nat.zero_add, En.eq_cell, En.asB_ok, En.eq_int, En.lt_ok, En.le_ok, En.sub_ok, En.add_ok, En.abs_ok, En.cell_0, En.cell_1, decide_true, decide_false, Bool.false_eq_true, if_true, if_false, Bool.not_true, Bool.not_false, lst1, fz0_ok, mLc, h1, valsDI, wipeR]
  rw [show (partsF r c ps).map (·.2) = partsL r c ps from rfl, h2]
  simp only [List.map_cons, List.map_nil, List.length_cons, List.length_nil, List.replicate, List.cons_append, List.nil_append, List.append_nil, sSeq, sIf, sRet, sNil, sSet, sDrop, m2, m1, mL, mCons, mNil, mC, mVar, mIf, List.getElem?_cons_zero, List.getElem?_cons_succ, List.set_cons_zero, List.set_cons_succ, R.bind_ok, R.toS_ok, Nat.reduceAdd, Nat.reduceSub, Nat.zero_add, En.eq_cell, En.asB_ok, En.eq_int, En.lt_ok, En.le_ok, En.sub_ok, En.add_ok, En.abs_ok, En.cell_0, En.cell_1, decide_true, decide_false, Bool.false_eq_true, if_true, if_false, Bool.not_true, Bool.not_false, fFz, datas_map, h3]
  exact h4
def encS : Option (Int × Pt) → Val × Val
  | none => (.d .non, .d .non)
  | some (m, q) => (.d (.int m), .d (cellD q))
theorem next_dig_eq {rows : List Str} {w : Nat} {r : Rule} (hr : RowsOk rows w) (hru : r.ok) (ps : List Pt) (hl : ps.length ≤ 200) (hps : ∀ p ∈ ps, Land rows p) (b : Box) : f_next_dig [.d (islD rows), .d (.tup (ps.map cellD)), .d (ruleD r)] b = .ok (encS ((cellsOf rows w).foldl (stepN (worstF r ps)) none)).2 ⟨[], b⟩ := by
  have h1 : ∀ t : T, fCall f_validate_places [.d (islD rows), .d (.tup (ps.map cellD)), .d (ruleD r)] t = .ok (.d .non) t := fun t => call_eq rfl (validate_places_eq hr hru ps hps t.b)
  obtain ⟨ρ', t', e, o5, o6, rfl, rfl⟩ := forM_run (f := gN 5) (b := (sSeq (sSet 6 (mL fMax1 (mCons (m2 fAdd (mL fFz (mL fLen (mCons (mC (.int 0)) mNil))) (mL fFz (mLc [7] (gN 7) (m1 fDValsI (mL (fCall f_parted) (mCons (mVar 1) (mCons (mVar 2) (mCons (mVar 5) mNil))))) mYes (mL fLenB (mCons (mVar 7) mNil))))) mNil)))
      (sIf (mOr (m1 asB (m2 fIsN (mVar 3) (mC .non))) (m1 asB (m2 fLt (mVar 6) (mVar 3))))
       (sPar 3 4 (mCons (mVar 6) (mCons (mVar 5) mNil)))
       sNil))) (fun c => .d (cellD c)) (stepN (worstF r ps)) (fun s ρ t => ∃ o5 o6, ρ = [some (.d (islD rows)), some (.d (.tup (ps.map cellD))), some (.d (ruleD r)), some (encS s).1, some (encS s).2, o5, o6, none] ∧ t = ⟨[], b⟩) (cellsOf rows w) none [some (.d (islD rows)), some (.d (.tup (ps.map cellD))), some (.d (ruleD r)), some (.d .non), some (.d .non), none, none, none] ⟨[], b⟩ ⟨none, none, rfl, rfl⟩ (by
    rintro c s ρ t _ ⟨o5, o6, rfl, rfl⟩
    have we := worst_eq r ps hl c (some (.d (islD rows))) (some (encS s).1) (some (encS s).2) o6 none ⟨[], b⟩
    refine ⟨_, _, _, rfl, ?_, some (.d (cellD c)), some (.d (.int (worstF r ps c))), rfl, rfl⟩
    rw [sSeq, sSet]
    simp only [List.set_cons_zero, List.set_cons_succ, we, R.toS_ok]
    cases s with
    | none =>
      simp only [encS, List.map_cons, List.map_nil, List.length_cons, List.length_nil, List.replicate, List.cons_append, List.nil_append, List.append_nil, sSeq, sIf, sRet, sNil, sSet, sDrop, m2, m1, mL, mCons, mNil, mC, mVar, mIf, List.getElem?_cons_zero, List.getElem?_cons_succ, List.set_cons_zero, List.set_cons_succ, R.bind_ok, R.toS_ok, Nat.reduceAdd, Nat.reduceSub, Nat.zero_add, En.eq_cell, En.asB_ok, En.eq_int, En.lt_ok, En.le_ok, En.sub_ok, En.add_ok, En.abs_ok, En.cell_0, En.cell_1, decide_true, decide_false, Bool.false_eq_true, if_true, if_false, Bool.not_true, Bool.not_false, mOr, is_non, sPar]
      rfl
    | some s =>
      obtain ⟨m, q⟩ := s
      by_cases hc : worstF r ps c < m
      · have es : stepN (worstF r ps) (some (m, q)) c = some (worstF r ps c, c) := if_pos hc
        simp only [encS, List.map_cons, List.map_nil, List.length_cons, List.length_nil, List.replicate, List.cons_append, List.nil_append, List.append_nil, sSeq, sIf, sRet, sNil, sSet, sDrop, m2, m1, mL, mCons, mNil, mC, mVar, mIf, List.getElem?_cons_zero, List.getElem?_cons_succ, List.set_cons_zero, List.set_cons_succ, R.bind_ok, R.toS_ok, Nat.reduceAdd, Nat.reduceSub, Nat.zero_add, En.eq_cell, En.asB_ok, En.eq_int, En.lt_ok, En.le_ok, En.sub_ok, En.add_ok, En.abs_ok, En.cell_0, En.cell_1, decide_true, decide_false, Bool.false_eq_true, if_true, if_false, Bool.not_true, Bool.not_false, mOr, is_non, sPar, hc, es]
      · have es : stepN (worstF r ps) (some (m, q)) c = some (m, q) := if_neg hc
        simp only [encS, List.map_cons, List.map_nil, List.length_cons, List.length_nil, List.replicate, List.cons_append, List.nil_append, List.append_nil, sSeq, sIf, sRet, sNil, sSet, sDrop, m2, m1, mL, mCons, mNil, mC, mVar, mIf, List.getElem?_cons_zero, List.getElem?_cons_succ, List.set_cons_zero, List.set_cons_succ, R.bind_ok, R.toS_ok, Nat.reduceAdd, Nat.reduceSub, Nat.zero_add, En.eq_cell, En.asB_ok, En.eq_int, En.lt_ok, En.le_ok, En.sub_ok, En.add_ok, En.abs_ok, En.cell_0, En.cell_1, decide_true, decide_false, Bool.false_eq_true, if_true, if_false, Bool.not_true, Bool.not_false, mOr, is_non, sPar, hc, es])
  have hit : ∀ t : T, fIter (.d (.lst ((cellsOf rows w).map cellD))) t = .ok ((cellsOf rows w).map fun c => Val.d (cellD c)) t := fun t => by
    show R.ok (((cellsOf rows w).map cellD).map Val.d) t = _
    rw [List.map_map]
    rfl
  unfold f_next_dig runF runG m_next_dig
  simp only [List.map_cons, List.map_nil, List.length_cons, List.length_nil, List.replicate, List.cons_append, List.nil_append, List.append_nil, sSeq, sIf, sRet, sNil, sSet, sDrop, m2, m1, mL, mCons, mNil, mC, mVar, mIf, List.getElem?_cons_zero, List.getElem?_cons_succ, List.set_cons_zero, List.set_cons_succ, R.bind_ok, R.toS_ok, Nat.reduceAdd, Nat.reduceSub, Nat.zero_add, En.eq_cell, En.asB_ok, En.eq_int, En.lt_ok, En.le_ok, En.sub_ok, En.add_ok, En.abs_ok, En.cell_0, En.cell_1, decide_true, decide_false, Bool.false_eq_true, if_true, if_false, Bool.not_true, Bool.not_false, h1, sAsgT, sFor, prop_cells hr, hit]
  rw [if_pos ⟨trivial, by decide⟩]
  simp only [oS, gsCons, gsNil, List.set_cons_zero, List.set_cons_succ]
  rw [show ∀ (v : Val) (ρ : Rho), gN 3 v ρ = some (ρ.set 3 (some v)) from fun _ _ => rfl]
  simp only [gN, Option.bind_some, List.set_cons_zero, List.set_cons_succ, List.map_cons, List.map_nil, List.length_cons, List.length_nil, List.replicate, List.cons_append, List.nil_append, List.append_nil, sSeq, sIf, sRet, sNil, sSet, sDrop, m2, m1, mL, mCons, mNil, mC, mVar, mIf, List.getElem?_cons_zero, List.getElem?_cons_succ, List.set_cons_zero, List.set_cons_succ, R.bind_ok, R.toS_ok, Nat.reduceAdd, Nat.reduceSub, Nat.zero_add, En.eq_cell, En.asB_ok, En.eq_int, En.lt_ok, En.le_ok, En.sub_ok, En.add_ok, En.abs_ok, En.cell_0, En.cell_1, decide_true, decide_false, Bool.false_eq_true, if_true, if_false, Bool.not_true, Bool.not_false, prop_cells hr, hit]
  rw [e]
  rfl
end K90
set_option Elab.async false
set_option linter.all false
set_option maxRecDepth 100000
set_option maxHeartbeats 2000000
namespace K90
open PySem PySem.Spec PyProof.Rows L2 En
theorem lenT (ps : List (Int × Int)) (t : T) : fLenB [.d (.tup (ps.map cellD))] t = .ok (.d (.int (ps.length : Int))) t := by rw [len_tup, List.length_map]
theorem lenL {α : Type} (f : α → D) (ps : List α) (t : T) : fLenB [.d (.lst (ps.map f))] t = .ok (.d (.int (ps.length : Int))) t := by rw [len_lst, List.length_map]
theorem nat_of {k : Int} (h : 0 ≤ k) : ∃ n : Nat, k = (n : Int) := ⟨k.toNat, by omega⟩
theorem mLc_eq {own : List Nat} {f : Val → Rho → Option Rho} {mi : ME (List Val)} {tt : ME Bool} {te : ME Val} {ρ : Rho} {t : T} : mLc own f mi tt te ρ t = (mi ρ t).bind fun vs t => lcM f tt te (wipeR ρ own) vs [] t := rfl
def stepL (r : Rule) (ps : List Pt) (f : List Pt → Int) (best : Int) (c : Pt) : Int := if ps ∈ partsL r c ps then best else min best (1 + maxL (0 :: (partsL r c ps).map f))
def leastN (r : Rule) (cs : List Pt) : Nat → List Pt → Int
  | 0, _ => 0
  | n + 1, ps => if ps = [] then 0 else cs.foldl (stepL r ps (leastN r cs n)) (ps.length : Int)
theorem foldl_ext {α β : Type} {f g : β → α → β} : ∀ (xs : List α) (b : β), (∀ b, ∀ x ∈ xs, f b x = g b x) → xs.foldl f b = xs.foldl g b
  | [], b, _ => rfl
  | x :: xs, b, h => by
    rw [List.foldl_cons, List.foldl_cons, h b x (List.mem_cons_self ..)]
    exact foldl_ext xs _ fun b y hy => h b y (List.mem_cons_of_mem _ hy)
theorem leastN_ext (r : Rule) (cs : List Pt) : ∀ (n m : Nat) (ps : List Pt), ps.length ≤ n → ps.length ≤ m → leastN r cs n ps = leastN r cs m ps
  | 0, 0, ps, _, _ => rfl
  | 0, m + 1, ps, h, _ => by
    have : ps = [] := List.eq_nil_of_length_eq_zero (by omega)
    subst this
    simp [leastN]
  | n + 1, 0, ps, _, h => by
    have : ps = [] := List.eq_nil_of_length_eq_zero (by omega)
    subst this
    simp [leastN]
  | n + 1, m + 1, ps, h1, h2 => by
    unfold leastN
    split
    · rfl
    · refine foldl_ext cs _ fun b c _ => ?_
      unfold stepL
      split
      · rfl
      · rename_i hn
        congr 3
        congr 1
        refine List.map_congr_left fun q hq => ?_
        have := parts_lt hq hn
        exact leastN_ext r cs n m q (by omega) (by omega)
def least (r : Rule) (cs ps : List Pt) : Int := leastN r cs ps.length ps
theorem least_nil (r : Rule) (cs : List Pt) : least r cs [] = 0 := rfl
theorem least_eq (r : Rule) (cs ps : List Pt) (h : ps ≠ []) : least r cs ps = cs.foldl (stepL r ps (least r cs)) (ps.length : Int) := by
  unfold least
  obtain ⟨n, hn⟩ : ∃ n, ps.length = n + 1 := ⟨ps.length - 1, by have := List.length_pos_iff.mpr h; omega⟩
  rw [hn]
  show (if ps = [] then _ else _) = _
  rw [if_neg h]
  rw [← hn]
  refine foldl_ext cs _ fun b c _ => ?_
  unfold stepL
  split
  · rfl
  · rename_i hx
    congr 3
    congr 1
    refine List.map_congr_left fun q hq => ?_
    have := parts_lt hq hx
    exact leastN_ext r cs n q.length q (by omega) (Nat.le_refl _)
structure Memo (r : Rule) (cs sp : List Pt) (kvs : List (NestedKey × Val)) (n : Nat) : Prop where
  sub : ∀ k ∈ kvs.map (·.1), ∃ qs, List.Sublist qs sp ∧ k = keyC qs
  nodup : (kvs.map (·.1)).Nodup
  good : ∀ qs : List Pt, qs.length ≤ n → lookK kvs (keyC qs) = none ∨ lookK kvs (keyC qs) = some (.d (.int (least r cs qs)))
theorem memo_len {r : Rule} {cs sp : List Pt} {kvs : List (NestedKey × Val)} {n : Nat} (h : Memo r cs sp kvs n) (hs : sp.length ≤ 9) : kvs.length < lim := by
  have h1 : (kvs.map (·.1)).length ≤ ((subs sp).map keyC).length := nodup_le h.nodup fun k hk => by
    obtain ⟨qs, h1, rfl⟩ := h.sub k hk
    exact List.mem_map.mpr ⟨qs, mem_subs h1, rfl⟩
  rw [List.length_map, List.length_map, subs_len] at h1
  have : 2 ^ sp.length ≤ 2 ^ 9 := Nat.pow_le_pow_right (by decide) hs
  show _ < 100000
  omega
theorem memo_put {r : Rule} {cs sp : List Pt} {kvs : List (NestedKey × Val)} {n : Nat} (h : Memo r cs sp kvs n) {qs : List Pt} {v : Val} (hq : List.Sublist qs sp) (hv : n < qs.length) : Memo r cs sp (putKV kvs (keyC qs) v) n where
  sub := fun k hk => by
    rcases mem_keys_put hk with rfl | hk
    · exact ⟨qs, hq, rfl⟩
    · exact h.sub k hk
  nodup := nodup_put h.nodup
  good := fun ps hp => by
    rw [look_put]
    by_cases e : keyC ps = keyC qs
    · have := keyC_inj e
      subst this
      omega
    · rw [if_neg e]
      exact h.good ps hp
theorem memo_done {r : Rule} {cs sp : List Pt} {kvs : List (NestedKey × Val)} {n : Nat} (h : Memo r cs sp kvs n) {qs : List Pt} {m : Nat} (hm : qs.length = n + 1) (hn : m ≤ n + 1) (g : lookK kvs (keyC qs) = some (.d (.int (least r cs qs)))) (o : ∀ ps : List Pt, ps.length = n + 1 → ps ≠ qs → lookK kvs (keyC ps) = none ∨ lookK kvs (keyC ps) = some (.d (.int (least r cs ps)))) : Memo r cs sp kvs m where
  sub := h.sub
  nodup := h.nodup
  good := fun ps hp => by
    by_cases e : ps.length ≤ n
    · exact h.good ps e
    · by_cases e2 : ps = qs
      · subst e2; exact .inr g
      · exact o ps (by omega) e2
theorem Memo.mono {r : Rule} {cs sp : List Pt} {kvs : List (NestedKey × Val)} {n m : Nat} (h : Memo r cs sp kvs n) (hm : m ≤ n) : Memo r cs sp kvs m := ⟨h.sub, h.nodup, fun qs hq => h.good qs (by omega)⟩
def Above (n : Nat) (kvs kvs' : List (NestedKey × Val)) : Prop := ∀ qs : List Pt, n < qs.length → lookK kvs' (keyC qs) = lookK kvs (keyC qs)
theorem Above.refl {n : Nat} {kvs : List (NestedKey × Val)} : Above n kvs kvs := fun _ _ => rfl
theorem Above.trans {n : Nat} {a b c : List (NestedKey × Val)} (h1 : Above n a b) (h2 : Above n b c) : Above n a c := fun qs h => (h2 qs h).trans (h1 qs h)
theorem Above.mono {n m : Nat} {a b : List (NestedKey × Val)} (h : Above n a b) (hm : n ≤ m) : Above m a b := fun qs hq => h qs (by omega)
end K90
set_option Elab.async false
set_option linter.all false
set_option maxRecDepth 100000
set_option maxHeartbeats 4000000
namespace K90
open PySem PySem.Spec PyProof.Rows L2 En
theorem memo_up {r : Rule} {cs sp : List Pt} {a b : List (NestedKey × Val)} {n m : Nat} (h : Memo r cs sp a n) (h2 : Memo r cs sp b m) (ab : Above m a b) : Memo r cs sp b n := ⟨h2.sub, h2.nodup, fun qs hq => by
  by_cases e : qs.length ≤ m
  · exact h2.good qs e
  · rw [ab qs (by omega)]; exact h.good qs hq⟩
def tupP (l : List Pt) : PyData := .tuple (l.map cellP)
theorem eqvAll_cells : ∀ a b : List Pt, PyData.eqvAll (a.map cellP) (b.map cellP) = decide (a = b)
  | [], [] => by simp [PyData.eqvAll]
  | [], _ :: _ => by simp [PyData.eqvAll]
  | _ :: _, [] => by simp [PyData.eqvAll]
  | x :: a, y :: b => by
    simp only [List.map_cons, PyData.eqvAll, eqv_cell, eqvAll_cells a b, List.cons.injEq]
    by_cases h1 : x = y <;> by_cases h2 : a = b <;> simp [h1, h2]
theorem eqv_tupP (a b : List Pt) : PyData.eqv (tupP a) (tupP b) = decide (a = b) := by
  unfold tupP
  simp only [PyData.eqv, eqvAll_cells]
theorem val_lists (ls : List (List Pt)) (t : T) : valPy (.d (listsD ls)) t = some (.list (ls.map tupP)) := by
  refine val_of ?_ (shaped_lst tupP ls 2 (by decide) (fun l _ => ?_) fun l _ => ?_)
  · unfold listsD
    simp only [toPy, toPys_map (fun l : List Pt => D.tup (l.map cellD)) tupP (fun l => by simp only [toPy, toPys_cells]; rfl) ls]
  · unfold tupP
    simp only [PyData.canLay0]
    exact lay_map cellP l fun c _ => cellP_lay c
  · unfold tupP
    have := depth_map cellP 1 l fun c _ => cellP_depth c
    simp only [PyData.depth]
    omega
theorem any_tupP (ps : List Pt) : ∀ ls : List (List Pt), (ls.map tupP).any (fun z => PyData.eqv z (tupP ps)) = decide (ps ∈ ls)
  | [] => by simp
  | l :: ls => by
    rw [List.map_cons, List.any_cons, any_tupP ps ls, eqv_tupP]
    by_cases h1 : l = ps
    · simp [h1]
    · have : ¬ ps = l := fun z => h1 z.symm
      simp [h1, this]
theorem notIn_lists (ps : List Pt) (ls : List (List Pt)) (t : T) : fNotIn (.d (.tup (ps.map cellD))) (.d (listsD ls)) t = .ok (.d (.bl (!decide (ps ∈ ls)))) t := by
  have e : inB (.d (.tup (ps.map cellD))) (.d (listsD ls)) t = some (decide (ps ∈ ls)) := by
    unfold inB
    simp only [listsD]
    have h1 := val_cellsT ps t
    have h2 := val_lists ls t
    unfold listsD at h2
    simp only [h1, h2]
    rw [← any_tupP ps ls]
    rfl
  unfold fNotIn
  rw [e]
  rfl
theorem lists_iter (ls : List (List Pt)) (t : T) : fIter (.d (listsD ls)) t = .ok (ls.map fun l => Val.d (.tup (l.map cellD))) t := by
  show R.ok ((ls.map fun l => D.tup (l.map cellD)).map Val.d) t = _
  rw [List.map_map]
  rfl
def dgF (cs : List Pt) (r : Rule) : List (Str × Val) := [("cells_to_dig", .d (.lst (cs.map cellD))), ("rule", .d (ruleD r)), ("known", .loc 1)]
def DS (cs : List Pt) (r : Rule) (kvs : List (NestedKey × Val)) (b : Box) : T := ⟨[.ins "Digger" (dgF cs r), .dT kvs], b⟩
section
variable {cs : List Pt} {r : Rule} {kvs : List (NestedKey × Val)} {b : Box}
theorem fldDS {f : Str} {v : Val} (h : (dgF cs r).lookup f = some v) : fFld ["Digger"] f (.loc 0) (DS cs r kvs b) = .ok v (DS cs r kvs b) := by
  unfold fFld
  have e : fldOf f (.loc 0) (DS cs r kvs b) = some (("Digger" : Str), v) := by
    show ((dgF cs r).lookup f).map (fun u => (("Digger" : Str), u)) = _
    rw [h]
    rfl
  rw [e]
  have h2 : [("Digger" : Str)].contains ("Digger" : Str) = true := by decide
  simp only [h2, if_true]
theorem fld_known : fFld ["Digger"] "known" (.loc 0) (DS cs r kvs b) = .ok (.loc 1) (DS cs r kvs b) := fldDS (by
  unfold dgF
  rw [List.lookup_cons, show (("known" : Str) == ("cells_to_dig" : Str)) = false from by decide +kernel]
  show List.lookup _ _ = _
  rw [List.lookup_cons, show (("known" : Str) == ("rule" : Str)) = false from by decide +kernel]
  show List.lookup _ _ = _
  rw [List.lookup_cons, show (("known" : Str) == ("known" : Str)) = true from by decide +kernel])
theorem fld_cells : fFld ["Digger"] "cells_to_dig" (.loc 0) (DS cs r kvs b) = .ok (.d (.lst (cs.map cellD))) (DS cs r kvs b) := fldDS (by
  unfold dgF
  rw [List.lookup_cons, show (("cells_to_dig" : Str) == ("cells_to_dig" : Str)) = true from by decide +kernel])
theorem fld_rule : fFld ["Digger"] "rule" (.loc 0) (DS cs r kvs b) = .ok (.d (ruleD r)) (DS cs r kvs b) := fldDS (by
  unfold dgF
  rw [List.lookup_cons, show (("rule" : Str) == ("cells_to_dig" : Str)) = false from by decide +kernel]
  show List.lookup _ _ = _
  rw [List.lookup_cons, show (("rule" : Str) == ("rule" : Str)) = true from by decide +kernel])
theorem getDS (ps : List Pt) : dGet? (.loc 1) (.d (.tup (ps.map cellD))) (DS cs r kvs b) = some (lookK kvs (keyC ps)) := by
  show (keyT (.d (.tup (ps.map cellD)))).map (fun k => lookK kvs k) = _
  rw [keyT_cells]
  rfl
theorem notInDS (ps : List Pt) : fDNotIn (.d (.tup (ps.map cellD))) (.loc 1) (DS cs r kvs b) = .ok (.d (.bl (!(lookK kvs (keyC ps)).isSome))) (DS cs r kvs b) := by
  unfold fDNotIn
  rw [getDS]
  rfl
theorem lookDS {ps : List Pt} {v : Val} (h : lookK kvs (keyC ps) = some v) : fDGet (.loc 1) (.d (.tup (ps.map cellD))) (DS cs r kvs b) = .ok v (DS cs r kvs b) := by
  unfold fDGet
  rw [getDS, h]
theorem putDS {ρ : Rho} {ps : List Pt} {mv : ME Val} {v : Val} (h0 : ρ[0]? = some (some (.loc 0))) (h1 : ρ[1]? = some (some (.d (.tup (ps.map cellD))))) (hv : mv ρ (DS cs r kvs b) = .ok v (DS cs r kvs b)) (hl : kvs.length < lim) :
    En.sDPut (m1 (fFld ["Digger"] "known") (mVar 0)) (mVar 1) mv ρ (DS cs r kvs b) = .nx ρ (DS cs r (putKV kvs (keyC ps) v) b) := by
  have e0 : ∀ t : T, mVar 0 ρ t = .ok (.loc 0) t := fun t => mVar_eq h0
  have e1 : ∀ t : T, mVar 1 ρ t = .ok (.d (.tup (ps.map cellD))) t := fun t => mVar_eq h1
  unfold En.sDPut
  simp only [hv, R.toS_ok, m1, e0, e1, R.bind_ok, fld_known]
  have hst : (DS cs r kvs b).st[1]? = some (.dT kvs) := rfl
  simp only [hst, keyT_cells, hl, if_true]
  rfl
end
def Good (cs : List Pt) (r : Rule) (sp : List Pt) (kvs : List (NestedKey × Val)) (n : Nat) : Prop := Memo r cs sp kvs n ∧ lookK kvs (keyC []) = some (.d (.int 0))
theorem fewest_sat (cs : List Pt) (r : Rule) (sp : List Pt) (hsp : sp.length ≤ 9) : ∀ (n : Nat) (ps : List Pt) (kvs : List (NestedKey × Val)) (b : Box), ps.length < n → List.Sublist ps sp → Good cs r sp kvs ps.length →
    (f_Digger__fewest n [.loc 0, .d (.tup (ps.map cellD))] (DS cs r kvs b)).sat fun v t => v = .d (.int (least r cs ps)) ∧ ∃ kvs', t = DS cs r kvs' b ∧ Good cs r sp kvs' ps.length ∧ Above ps.length kvs kvs'
  | 0, ps, kvs, b, hn, _, _ => absurd hn (Nat.not_lt_zero _)
  | n + 1, ps, kvs, b, hn, hsub, ⟨hm, hroot⟩ => by
    have hpl : ps.length ≤ 9 := Nat.le_trans hsub.length_le hsp
    show (runG 6 (r_Digger__fewest (f_Digger__fewest n)) _ _).sat _
    refine run_sat ?_
    unfold r_Digger__fewest
    refine seq_sat (N' := fun ρ t => (∃ o2 o3 o4 o5, ρ = [some (.loc 0), some (.d (.tup (ps.map cellD))), o2, o3, o4, o5]) ∧ ∃ kvs', t = DS cs r kvs' b ∧ Good cs r sp kvs' ps.length ∧ Above ps.length kvs kvs' ∧ lookK kvs' (keyC ps) = some (.d (.int (least r cs ps)))) ?_ ?_
    rotate_left
    · rintro ρ t ⟨⟨o2, o3, o4, o5, rfl⟩, kvs', rfl, hg, ha, hl⟩
      simp only [w_sSet, w_sRet, w_sDrop, w_sPar, w_sIf, w_sFor, w_sNil, w_m2, w_m1, w_mL, w_mCons, w_mNil, w_mC, mVar_sat, w_mIf, w_mMeth, w_mNot, w_mAnd, w_mOr, w_asB, sat_ok, List.map_cons, List.map_nil, List.cons_append, List.nil_append, List.getElem?_cons_zero, List.getElem?_cons_succ, List.set_cons_zero, List.set_cons_succ, List.length_cons, List.length_nil, Nat.reduceAdd, Nat.reduceSub, List.replicate, Nat.zero_add, fld_known, lookDS hl]
      exact ⟨trivial, kvs', rfl, hg, ha⟩
    rw [w_sIf, w_m1, w_m2]
    simp only [w_sSet, w_sRet, w_sDrop, w_sPar, w_sIf, w_sFor, w_sNil, w_m2, w_m1, w_mL, w_mCons, w_mNil, w_mC, mVar_sat, w_mIf, w_mMeth, w_mNot, w_mAnd, w_mOr, w_asB, sat_ok, List.map_cons, List.map_nil, List.cons_append, List.nil_append, List.getElem?_cons_zero, List.getElem?_cons_succ, List.set_cons_zero, List.set_cons_succ, List.length_cons, List.length_nil, Nat.reduceAdd, Nat.reduceSub, List.replicate, Nat.zero_add, fld_known, notInDS]
    cases hk : lookK kvs (keyC ps) with
    | some v =>
      have hv : v = .d (.int (least r cs ps)) := by
        rcases hm.good ps (Nat.le_refl _) with z | z
        · rw [hk] at z; cases z
        · rw [hk] at z; cases z; rfl
      subst hv
      show RS.sat (if false = true then _ else _) _ _
      rw [if_neg (by decide), w_sNil]
      exact ⟨⟨_, _, _, _, rfl⟩, kvs, rfl, ⟨hm, hroot⟩, Above.refl, hk⟩
    | none =>
      show RS.sat (if true = true then _ else _) _ _
      rw [if_pos rfl]
      have hne : ps ≠ [] := fun z => by rw [z, hroot] at hk; cases hk
      obtain ⟨n0, hn0⟩ : ∃ n0, ps.length = n0 + 1 := ⟨ps.length - 1, by have := List.length_pos_iff.mpr hne; omega⟩
      refine seq_sat (N' := fun ρ t => (∃ o2 o3 o4 o5, ρ = [some (.loc 0), some (.d (.tup (ps.map cellD))), o2, o3, o4, o5]) ∧ t = DS cs r (putKV kvs (keyC ps) (.d (.int (ps.length : Int)))) b) ?_ ?_
      · have hp := putDS (cs := cs) (r := r) (kvs := kvs) (b := b) (ρ := [some (.loc 0), some (.d (.tup (ps.map cellD))), none, none, none, none]) (ps := ps) (mv := mL fLenB (mCons (mVar 1) mNil)) (v := .d (.int (ps.length : Int))) rfl rfl (by simp only [List.map_cons, List.map_nil, List.length_cons, List.length_nil, List.replicate, List.cons_append, List.nil_append, List.append_nil, sSeq, sIf, sRet, sNil, sSet, sDrop, m2, m1, mL, mCons, mNil, mC, mVar, mIf, List.getElem?_cons_zero, List.getElem?_cons_succ, List.set_cons_zero, List.set_cons_succ, R.bind_ok, R.toS_ok, Nat.reduceAdd, Nat.reduceSub, Nat.zero_add, En.eq_cell, En.asB_ok, En.eq_int, En.lt_ok, En.le_ok, En.sub_ok, En.add_ok, En.abs_ok, En.cell_0, En.cell_1, decide_true, decide_false, Bool.false_eq_true, if_true, if_false, Bool.not_true, Bool.not_false, lenT]) (memo_len hm hsp)
        show RS.sat (En.sDPut _ _ _ _ _) _ _
        rw [hp]
        exact ⟨⟨_, _, _, _, rfl⟩, rfl⟩
      rintro ρ t ⟨⟨o2, o3, o4, o5, rfl⟩, rfl⟩
      have hroot0 : lookK (putKV kvs (keyC ps) (.d (.int (ps.length : Int)))) (keyC []) = some (.d (.int 0)) := by
        rw [look_put, if_neg (fun z => hne (keyC_inj z).symm), hroot]
      simp only [w_sFor, w_m1, mVar_sat, List.getElem?_cons_zero, fld_cells, sat_ok]
      rw [show fIter (.d (.lst (cs.map cellD))) = fun t => R.ok (cs.map fun c => Val.d (cellD c)) t from by
        funext t
        show R.ok ((cs.map cellD).map Val.d) t = _
        rw [List.map_map]
        rfl]
      simp only [sat_ok]
      refine rsat_mono (forM_fsat (fun c => .d (cellD c)) (stepL r ps (least r cs)) (fun best ρ t => (∃ o2 o3 o4 o5, ρ = [some (.loc 0), some (.d (.tup (ps.map cellD))), o2, o3, o4, o5]) ∧ ∃ kvs', t = DS cs r kvs' b ∧ Good cs r sp kvs' n0 ∧ lookK kvs' (keyC ps) = some (.d (.int best)) ∧ ∀ qs : List Pt, n0 < qs.length → qs ≠ ps → lookK kvs' (keyC qs) = lookK kvs (keyC qs)) cs (ps.length : Int) _ _ ⟨⟨_, _, _, _, rfl⟩, _, rfl, ⟨memo_put (hm.mono (by omega)) hsub (by omega), hroot0⟩, by rw [look_put, if_pos rfl], fun qs hq hne' => by rw [look_put, if_neg (fun z => hne' (keyC_inj z))]⟩ ?_) ?_ (fun _ _ x => x)
      · rintro c best ρ t hc ⟨⟨o2, o3, o4, o5, rfl⟩, kv1, rfl, ⟨hm1, hr1⟩, hb1, hu1⟩
        refine ⟨_, rfl, ?_⟩
        have hpt : ∀ t : T, fCall f_parted [.d (.tup (ps.map cellD)), .d (ruleD r), .d (cellD c)] t = .ok (.d (.dK (encGD (partsF r c ps)))) t := fun t => by
          obtain ⟨st, e⟩ := parted_eq r c ps (by omega) t.b
          exact call_eq' rfl e
        have hfz : ∀ t : T, fFz (((partsL r c ps).map fun l => D.tup (l.map cellD)).map Val.d) t = .ok (.d (listsD (partsL r c ps))) t := fun t => by
          unfold fFz
          rw [datas_map]
          rfl
        refine seq_sat (N' := fun ρ t => ρ = [some (.loc 0), some (.d (.tup (ps.map cellD))), some (.d (cellD c)), some (.d (listsD (partsL r c ps))), o4, o5] ∧ t = DS cs r kv1 b) ?_ ?_
        · simp only [w_sSet, w_sRet, w_sDrop, w_sPar, w_sIf, w_sFor, w_sNil, w_m2, w_m1, w_mL, w_mCons, w_mNil, w_mC, mVar_sat, w_mIf, w_mMeth, w_mNot, w_mAnd, w_mOr, w_asB, sat_ok, List.map_cons, List.map_nil, List.cons_append, List.nil_append, List.getElem?_cons_zero, List.getElem?_cons_succ, List.set_cons_zero, List.set_cons_succ, List.length_cons, List.length_nil, Nat.reduceAdd, Nat.reduceSub, List.replicate, Nat.zero_add, fld_rule, hpt, valsD]
          rw [show (partsF r c ps).map (·.2) = partsL r c ps from rfl, hfz, sat_ok]
          exact ⟨rfl, rfl⟩
        rintro ρ t ⟨rfl, rfl⟩
        rw [w_sIf, w_m1, w_m2]
        simp only [w_sSet, w_sRet, w_sDrop, w_sPar, w_sIf, w_sFor, w_sNil, w_m2, w_m1, w_mL, w_mCons, w_mNil, w_mC, mVar_sat, w_mIf, w_mMeth, w_mNot, w_mAnd, w_mOr, w_asB, sat_ok, List.map_cons, List.map_nil, List.cons_append, List.nil_append, List.getElem?_cons_zero, List.getElem?_cons_succ, List.set_cons_zero, List.set_cons_succ, List.length_cons, List.length_nil, Nat.reduceAdd, Nat.reduceSub, List.replicate, Nat.zero_add, notIn_lists]
        by_cases hin : ps ∈ partsL r c ps
        · rw [decide_eq_true hin]
          show RS.sat (if false = true then _ else _) _ _
          rw [if_neg (by decide), w_sNil]
          have es : stepL r ps (least r cs) best c = best := if_pos hin
          rw [es]
          exact ⟨⟨_, _, _, _, rfl⟩, kv1, rfl, ⟨hm1, hr1⟩, hb1, hu1⟩
        · rw [decide_eq_false hin]
          show RS.sat (if true = true then _ else _) _ _
          rw [if_pos rfl]
          have es : stepL r ps (least r cs) best c = min best (1 + maxL (0 :: (partsL r c ps).map (least r cs))) := if_neg hin
          rw [es]
          have hcnt := parts_len_le r c ps
          refine seq_sat (N' := fun ρ t => ρ = [some (.loc 0), some (.d (.tup (ps.map cellD))), some (.d (cellD c)), some (.d (listsD (partsL r c ps))), some (.d (.int (maxL (0 :: (partsL r c ps).map (least r cs))))), o5] ∧ ∃ kv2, t = DS cs r kv2 b ∧ Good cs r sp kv2 n0 ∧ lookK kv2 (keyC ps) = some (.d (.int best)) ∧ ∀ qs : List Pt, n0 < qs.length → qs ≠ ps → lookK kv2 (keyC qs) = lookK kvs (keyC qs)) ?_ ?_
          · rw [w_sSet, w_mL, w_mCons, w_m2]
            simp only [w_mL, w_mCons, w_mNil, w_mC, lst1, fz0_ok, sat_ok]
            unfold mLc
            rw [sat_bind]
            simp only [w_m1, mVar_sat, List.getElem?_cons_zero, List.getElem?_cons_succ, lists_iter, sat_ok, wipeR, List.set_cons_zero, List.set_cons_succ]
            refine sat_mono (lcM_msat (fun (l : List Pt) => Val.d (.tup (l.map cellD))) (fun l => .d (.int (least r cs l))) (fun t => ∃ kv2, t = DS cs r kv2 b ∧ Good cs r sp kv2 n0 ∧ lookK kv2 (keyC ps) = some (.d (.int best)) ∧ ∀ qs : List Pt, n0 < qs.length → qs ≠ ps → lookK kv2 (keyC qs) = lookK kvs (keyC qs)) (partsL r c ps) [] _ ⟨kv1, rfl, ⟨hm1, hr1⟩, hb1, hu1⟩ (by rw [List.length_nil]; show _ ≤ 100000; omega) ?_) ?_
            · rintro l t hl ⟨kv2, rfl, ⟨hm2, hr2⟩, hb2, hu2⟩
              refine ⟨_, rfl, ?_⟩
              have hll := parts_lt hl hin
              unfold mMethG
              rw [sat_bind, mVar_sat]
              show R.sat _ _
              have hst : (DS cs r kv2 b).st[0]? = some (.ins "Digger" (dgF cs r)) := rfl
              have hlk : (dgF cs r).lookup ("fewest" : Str) = none := by
                unfold dgF
                rw [List.lookup_cons, show (("fewest" : Str) == ("cells_to_dig" : Str)) = false from by decide +kernel]
                show List.lookup _ _ = _
                rw [List.lookup_cons, show (("fewest" : Str) == ("rule" : Str)) = false from by decide +kernel]
                show List.lookup _ _ = _
                rw [List.lookup_cons, show (("fewest" : Str) == ("known" : Str)) = false from by decide +kernel]
                rfl
              simp only [hst, hlk]
              rw [if_pos ⟨trivial, trivial⟩, sat_bind, w_mCons, mVar_sat]
              show R.sat _ _
              rw [w_mNil]
              refine sat_mono (fewest_sat cs r sp hsp n l kv2 b (by omega) ((parts_sub hl).trans hsub) ⟨hm2.mono (by omega), hr2⟩) ?_
              rintro v t ⟨rfl, kv3, rfl, ⟨hm3, hr3⟩, ha3⟩
              refine ⟨rfl, kv3, rfl, ⟨memo_up hm2 hm3 ha3, hr3⟩, ?_, fun qs hq hqn => ?_⟩
              · rw [ha3 ps (by omega)]; exact hb2
              · rw [ha3 qs (by omega)]; exact hu2 qs hq hqn
            · rintro vs t ⟨rfl, kv2, rfl, hg2, hb2, hu2⟩
              have hfz2 : ∀ t : T, fFz ((partsL r c ps).map fun l => Val.d (.int (least r cs l))) t = .ok (.d (.lst (((partsL r c ps).map (least r cs)).map D.int))) t := fun t => by
                unfold fFz
                rw [show ((partsL r c ps).map fun l => Val.d (.int (least r cs l))) = (((partsL r c ps).map (least r cs)).map D.int).map Val.d from by simp [List.map_map, Function.comp_def], datas_map]
              rw [List.nil_append, hfz2, sat_ok, add_lst (by simp only [List.length_cons, List.length_nil, List.length_map]; show _ ≤ 100000; omega), sat_ok]
              have hmx := max1_ok 0 ((partsL r c ps).map (least r cs)) (DS cs r kv2 b)
              rw [List.map_cons] at hmx
              show (fMax1 [.d (.lst (.int 0 :: ((partsL r c ps).map (least r cs)).map D.int))] (DS cs r kv2 b)).sat _
              rw [hmx, sat_ok]
              exact ⟨rfl, kv2, rfl, hg2, hb2, hu2⟩
          rintro ρ t ⟨rfl, kv2, rfl, ⟨hm2, hr2⟩, hb2, hu2⟩
          have hp := putDS (cs := cs) (r := r) (kvs := kv2) (b := b) (ρ := [some (.loc 0), some (.d (.tup (ps.map cellD))), some (.d (cellD c)), some (.d (listsD (partsL r c ps))), some (.d (.int (maxL (0 :: (partsL r c ps).map (least r cs))))), o5]) (ps := ps) (mv := mL fMin2 (mCons (m2 fDGet (m1 (fFld ["Digger"] "known") (mVar 0)) (mVar 1)) (mCons (m2 fAdd (mC (.int 1)) (mVar 4)) mNil))) (v := .d (.int (min best (1 + maxL (0 :: (partsL r c ps).map (least r cs)))))) rfl rfl (by
            simp only [List.map_cons, List.map_nil, List.length_cons, List.length_nil, List.replicate, List.cons_append, List.nil_append, List.append_nil, sSeq, sIf, sRet, sNil, sSet, sDrop, m2, m1, mL, mCons, mNil, mC, mVar, mIf, List.getElem?_cons_zero, List.getElem?_cons_succ, List.set_cons_zero, List.set_cons_succ, R.bind_ok, R.toS_ok, Nat.reduceAdd, Nat.reduceSub, Nat.zero_add, En.eq_cell, En.asB_ok, En.eq_int, En.lt_ok, En.le_ok, En.sub_ok, En.add_ok, En.abs_ok, En.cell_0, En.cell_1, decide_true, decide_false, Bool.false_eq_true, if_true, if_false, Bool.not_true, Bool.not_false, fld_known, lookDS hb2, min2_ok]
            congr 3
            simp only [Int.min_def]
            split <;> split <;> omega) (memo_len hm2 hsp)
          rw [hp]
          refine ⟨⟨_, _, _, _, rfl⟩, _, rfl, ⟨memo_put hm2 hsub (by omega), ?_⟩, by rw [look_put, if_pos rfl], fun qs hq hqn => ?_⟩
          · rw [look_put, if_neg (fun z => hne (keyC_inj z).symm)]; exact hr2
          · rw [look_put, if_neg (fun z => hqn (keyC_inj z))]; exact hu2 qs hq hqn
      · rintro ρ t ⟨hρ, kv1, rfl, ⟨hm1, hr1⟩, hb1, hu1⟩
        rw [← least_eq r cs ps hne] at hb1
        refine ⟨hρ, kv1, rfl, ⟨memo_done hm1 hn0 (by omega) hb1 fun qs hq hqn => ?_, hr1⟩, fun qs hq => hu1 qs (by omega) (fun z => by rw [z] at hq; omega), hb1⟩
        rw [hu1 qs (by omega) hqn]
        exact hm.good qs (by omega)
end K90
set_option Elab.async false
set_option linter.all false
set_option maxRecDepth 100000
set_option maxHeartbeats 4000000
namespace K90
open PySem PySem.Spec PyProof.Rows L2 En
def sgn : List D := [.str ".", .str ".", .str ".", .str "~", .str "A", .str "B"]
theorem sgn_at {k : Int} (h0 : 0 ≤ k) (h1 : k < 6) : isSign (.d (sgn.getD k.toNat .non)) := by
  have : k = 0 ∨ k = 1 ∨ k = 2 ∨ k = 3 ∨ k = 4 ∨ k = 5 := by omega
  rcases this with rfl | rfl | rfl | rfl | rfl | rfl
  · exact ⟨46, by decide, rfl⟩
  · exact ⟨46, by decide, rfl⟩
  · exact ⟨46, by decide, rfl⟩
  · exact ⟨126, by decide, rfl⟩
  · exact ⟨65, by decide, rfl⟩
  · exact ⟨66, by decide, rfl⟩
theorem sign_item {ρ : Rho} {t : T} (hv : ρ[1]? = some (some .box)) (g : GoodB t.b) : ((m2 fIx (mL fFz (mL fLen (mCons (mC (.str ".")) (mCons (mC (.str ".")) (mCons (mC (.str ".")) (mCons (mC (.str "~")) (mCons (mC (.str "A")) (mCons (mC (.str "B")) mNil)))))))) (mL (fDraw drNext) (mCons (mVar 1) (mCons (mC (.int 6)) mNil)))) ρ t).sat fun v t' => isSign v ∧ t'.st = t.st ∧ GoodB t'.b := by
  rw [w_m2]
  refine ⟨.d (.lst sgn), t, rfl, ?_⟩
  simp only [w_mL, w_mCons, w_mC, w_mNil, w_mVar hv]
  refine draw_sat g (by decide) (by decide) fun k b1 hk0 hk1 g1 => ?_
  rw [ixl_ok hk0 (by show k < 6; exact hk1), sat_ok]
  exact ⟨sgn_at hk0 hk1, rfl, g1⟩
theorem signs_comp {ρ : Rho} (hρ : ρ[1]? = some (some .box)) (st : List Cell) (b : Box) (g : GoodB b) (vs : List Val) (hn : vs.length ≤ 1000) :
    (lcM (gN 17) mYes (m2 fIx (mL fFz (mL fLen (mCons (mC (.str ".")) (mCons (mC (.str ".")) (mCons (mC (.str ".")) (mCons (mC (.str "~")) (mCons (mC (.str "A")) (mCons (mC (.str "B")) mNil)))))))) (mL (fDraw drNext) (mCons (mVar 1) (mCons (mC (.int 6)) mNil)))) ρ vs [] ⟨st, b⟩).sat fun us t => t.st = st ∧ GoodB t.b ∧ us.length = vs.length ∧ ∀ v ∈ us, isSign v := by
  refine lcM_sat (fun rest acc t => acc.length + rest.length = vs.length ∧ (∀ v ∈ acc, isSign v) ∧ t.st = st ∧ GoodB t.b) vs [] ⟨st, b⟩ ⟨by simp, fun v h => (by cases h), rfl, g⟩ (fun v rest acc t ⟨h1, h2, h3, h4⟩ => ?_) fun acc t ⟨h1, h2, h3, h4⟩ => ⟨h3, h4, by simpa using h1, h2⟩
  rw [List.length_cons] at h1
  refine ⟨_, rfl, true, t, rfl, ?_⟩
  simp only [if_true]
  refine sat_mono (sign_item (by rw [List.getElem?_set_ne (by decide)]; exact hρ) h4) fun y t' ⟨s1, s2, s3⟩ => ⟨by show _ < 100000; omega, by rw [List.length_append, List.length_cons, List.length_nil]; omega, fun u hu => ?_, s2.trans h3, s3⟩
  rcases List.mem_append.mp hu with hu | hu
  · exact h2 u hu
  · rw [List.mem_singleton.mp hu]; exact s1
theorem row_text {ρ : Rho} {t : T} (h0 : ρ[1]? = some (some .box)) (g : GoodB t.b) :
    ((mMeth isStrB fJoin (mC (.str "")) (mCons (mL fFz (mLc [17] (gN 17) (mL fRange1 (mCons (mC (.int 12)) mNil)) mYes (m2 fIx (mL fFz (mL fLen (mCons (mC (.str ".")) (mCons (mC (.str ".")) (mCons (mC (.str ".")) (mCons (mC (.str "~")) (mCons (mC (.str "A")) (mCons (mC (.str "B")) mNil)))))))) (mL (fDraw drNext) (mCons (mVar 1) (mCons (mC (.int 6)) mNil)))))) mNil)) ρ t).sat fun v t' => ∃ x, v = .d (.str x) ∧ RowT 12 x ∧ t'.st = t.st ∧ GoodB t'.b := by
  rw [w_mMeth, w_mC]
  rw [if_pos (show isStrB (.d (.str "")) t = true from rfl)]
  rw [w_mCons, w_mL]
  unfold mLc
  rw [sat_bind, w_mL, w_mCons, w_mC, w_mNil, show ∀ t : T, fRange1 [.d (.int 12)] t = .ok (intsV 0 12) t from fun t => range_ok (n := 12) (by decide) t, sat_ok]
  have hv : (wipeR ρ [17])[1]? = some (some .box) := by
    show (ρ.set 17 none)[1]? = _
    rw [List.getElem?_set_ne (by decide)]
    exact h0
  obtain ⟨ts, tb⟩ := t
  have hlen : (intsV 0 12).length = 12 := by rw [intsV_map, List.length_map, List.length_range]
  refine sat_mono (signs_comp hv ts tb g (intsV 0 12) (by rw [hlen]; decide)) fun us t1 ⟨s1, s2, s3, s4⟩ => ?_
  obtain ⟨cs, rfl, hcs⟩ := signs_data us s4
  rw [hlen, List.length_map, List.length_map] at s3
  have fz : fFz ((cs.map fun s => D.str ⟨#[s]⟩).map Val.d) t1 = .ok (.d (.lst (cs.map fun s => D.str ⟨#[s]⟩))) t1 := by
    unfold fFz
    rw [datas_map]
  rw [fz, sat_ok, w_mNil]
  obtain ⟨x, e, hx⟩ := join_signs cs (by omega) t1
  rw [e, sat_ok]
  refine ⟨x, rfl, ⟨?_, ?_⟩, s1, s2⟩
  · show x.cps.toList.length = 12
    rw [hx, s3]
  · rw [hx]
    exact hcs
theorem rows_loop {x0 : Option Val} {b1 : Box} (g1 : GoodB b1) {V : Val → T → Prop} : (sFor (gN 3) (mL fRange1 (mCons (mC (.int 12)) mNil)) (sDrop (mMeth isLstB fAppend (mVar 2) (mCons (mMeth isStrB fJoin (mC (.str "")) (mCons (mL fFz (mLc [17] (gN 17) (mL fRange1 (mCons (mC (.int 12)) mNil)) mYes (m2 fIx (mL fFz (mL fLen (mCons (mC (.str ".")) (mCons (mC (.str ".")) (mCons (mC (.str ".")) (mCons (mC (.str "~")) (mCons (mC (.str "A")) (mCons (mC (.str "B")) mNil)))))))) (mL (fDraw drNext) (mCons (mVar 1) (mCons (mC (.int 6)) mNil)))))) mNil)) mNil))) [x0, some .box, some (.loc 0), none, none, none, none, none, none, none, none, none, none, none, none, none, none, none, none, none, none] ⟨[.lst []], b1⟩).sat (fun ρ t => ∃ (rows : List Str) (b : Box) (o : Option Val), ρ = [x0, some .box, some (.loc 0), o, none, none, none, none, none, none, none, none, none, none, none, none, none, none, none, none, none] ∧ t = ⟨[.lst ((rows.map D.str).map Val.d)], b⟩ ∧ GoodB b ∧ (∀ x ∈ rows, RowT 12 x) ∧ rows.length = 12) V := by
  simp only [w_sFor, w_mL, w_mCons, w_mNil, w_mC]
  rw [show ∀ t : T, fRange1 [.d (.int 12)] t = .ok (intsV 0 12) t from fun t => range_ok (n := 12) (by decide) t, sat_ok]
  refine forM_sat (fun rest ρ t => ∃ (rows : List Str) (b : Box) (o : Option Val), ρ = [x0, some .box, some (.loc 0), o, none, none, none, none, none, none, none, none, none, none, none, none, none, none, none, none, none] ∧ t = ⟨[.lst ((rows.map D.str).map Val.d)], b⟩ ∧ GoodB b ∧ (∀ x ∈ rows, RowT 12 x) ∧ rows.length + rest.length = 12) (intsV 0 12) _ _ ⟨[], b1, none, rfl, rfl, g1, fun _ h => (by cases h), by rw [intsV_map]; simp⟩ ?_ ?_
  · rintro v vs ρ t ⟨rows, b, o, rfl, rfl, gb, hrow, hlen⟩
    refine ⟨_, rfl, ?_⟩
    rw [w_sDrop, w_mMeth, mVar_sat]
    show (if isLstB (.loc 0) _ = true then _ else False)
    rw [if_pos (show isLstB (.loc 0) ⟨[.lst ((rows.map D.str).map Val.d)], b⟩ = true from rfl), w_mCons]
    refine sat_mono (row_text rfl gb) ?_
    rintro v ⟨st2, b2⟩ ⟨x, rfl, hx, hst, g2⟩
    cases hst
    rw [w_mNil]
    have hl : ((rows.map D.str).map Val.d).length < lim := by
      rw [List.length_map, List.length_map]
      rw [List.length_cons] at hlen
      show _ < 100000
      omega
    refine ⟨.d .non, ⟨[.lst ((rows.map D.str).map Val.d ++ [.d (.str x)])], b2⟩, ?_, rows ++ [x], b2, some v, rfl, ?_, g2, ?_, ?_⟩
    · show (if ((rows.map D.str).map Val.d).length < lim then _ else _) = _
      rw [if_pos hl]
      rfl
    · simp
    · intro y hy
      rcases List.mem_append.mp hy with hy | hy
      · exact hrow y hy
      · rw [List.mem_singleton.mp hy]; exact hx
    · rw [List.length_cons] at hlen
      rw [List.length_append, List.length_cons, List.length_nil]
      omega
  · rintro ρ t ⟨rows, b, o, rfl, rfl, gb, hrow, hlen⟩
    exact ⟨rows, b, o, rfl, rfl, gb, hrow, by simpa using hlen⟩
theorem cut1 (x : Str) (h : 0 < x.cps.toList.length) : (cutS x (some 1) none).cps.toList = x.cps.toList.drop 1 := by
  have e1 : HT.sIx x.length 0 (some 1) = 1 := by
    obtain ⟨n, hn⟩ : ∃ n, x.length = n + 1 := ⟨x.cps.toList.length - 1, by show x.cps.toList.length = _; omega⟩
    rw [hn]
    unfold HT.sIx
    simp
    try omega
  have e2 : HT.sIx x.length x.length none = x.length := rfl
  unfold cutS
  rw [e1, e2]
  show (List.take (x.length - 1) (x.cps.toList.drop 1)).toArray.toList = _
  rw [List.toList_toArray, List.take_of_length_le (by rw [List.length_drop]; exact Nat.le_refl _)]
theorem rows_fix {x0 o3 : Option Val} {b : Box} {rows : List Str} (hrow : ∀ x ∈ rows, RowT 12 x) (hlen : rows.length = 12) : ∃ rows', RowsOk rows' 12 ∧ HasLand rows' ∧ (sSub (mVar 2) (mC (.int 11)) (m2 fAdd (mC (.str ".")) (mSl (m2 fIx (mVar 2) (mC (.int 11))) (m1 asPart (mC (.int 1))) mNoPart))) [x0, some .box, some (.loc 0), o3, none, none, none, none, none, none, none, none, none, none, none, none, none, none, none, none, none] ⟨[.lst ((rows.map D.str).map Val.d)], b⟩ = .nx [x0, some .box, some (.loc 0), o3, none, none, none, none, none, none, none, none, none, none, none, none, none, none, none, none, none] ⟨[.lst ((rows'.map D.str).map Val.d)], b⟩ := by
  obtain ⟨x, hx⟩ : ∃ x, rows[11]? = some x := ⟨rows[11], List.getElem?_eq_getElem (by omega)⟩
  have hxm : x ∈ rows := List.mem_of_getElem? hx
  have hxl : x.cps.toList.length = 12 := (hrow x hxm).1
  have hix : ∀ (b : Box), fIx (.loc 0) (.d (.int 11)) ⟨[.lst ((rows.map D.str).map Val.d)], b⟩ = .ok (.d (.str x)) ⟨[.lst ((rows.map D.str).map Val.d)], b⟩ := fun b => by
    show (match atI ((rows.map D.str).map Val.d) 11 with | some v => _ | none => _) = _
    rw [atI_of (by decide) (by rw [List.length_map, List.length_map]; omega), List.getElem?_map, List.getElem?_map]
    show (match Option.map Val.d (Option.map D.str rows[11]?) with | some v => _ | none => _) = _
    rw [hx]
    rfl
  have hsl : ∀ t : T, fSl (.d (.str x)) (some 1) none t = .ok (.d (.str (cutS x (some 1) none))) t := fun t => by
    show (if x.length ≤ lim then _ else _) = _
    rw [if_pos]
    show x.cps.toList.length ≤ 100000
    omega
  have hcl : (cutS x (some 1) none).length ≤ 12 := by
    have := cutS_length x (some 1) none
    have e : x.length = 12 := hxl
    omega
  have had : ∀ t : T, fAdd (.d (.str ".")) (.d (.str (cutS x (some 1) none))) t = .ok (.d (.str (("." : Str) ++ cutS x (some 1) none))) t := fun t => by
    show (if ("." : Str).length + (cutS x (some 1) none).length ≤ lim then _ else _) = _
    rw [if_pos]
    rw [show ("." : Str).length = 1 from by decide +kernel]
    show _ ≤ 100000
    omega
  have hy : ((("." : Str) ++ cutS x (some 1) none) : Str).cps.toList = 46 :: x.cps.toList.drop 1 := by
    have e : ((("." : Str) ++ cutS x (some 1) none) : Str).cps.toList = ("." : Str).cps.toList ++ (cutS x (some 1) none).cps.toList := Array.toList_append
    rw [e, cut1 x (by omega), show ("." : Str).cps.toList = [46] from by decide +kernel]
    rfl
  have hix2 : ixN ((rows.map D.str).map Val.d).length 11 = some 11 := by
    rw [ixN_of (by decide) (by rw [List.length_map, List.length_map]; omega)]
    rfl
  refine ⟨rows.set 11 (("." : Str) ++ cutS x (some 1) none), ⟨?_, ?_, by decide, by decide, ?_, ?_⟩, ⟨(("." : Str) ++ cutS x (some 1) none), ?_, 46, ?_, by decide⟩, ?_⟩
  · intro z
    have := congrArg List.length z
    rw [List.length_set, hlen] at this
    cases this
  · rw [List.length_set, hlen]; decide
  · intro z hz
    rcases List.mem_or_eq_of_mem_set hz with hz | rfl
    · exact (hrow z hz).1
    · show List.length _ = 12
      rw [hy, List.length_cons, List.length_drop, hxl]
  · intro z hz c hc
    rcases List.mem_or_eq_of_mem_set hz with hz | rfl
    · exact (hrow z hz).2 c hc
    · rw [hy] at hc
      rcases List.mem_cons.mp hc with rfl | hc
      · decide
      · exact (hrow x hxm).2 c (List.mem_of_mem_drop hc)
  · exact List.mem_iff_getElem.mpr ⟨11, by rw [List.length_set]; omega, by rw [List.getElem_set_self]⟩
  · rw [hy]; exact List.mem_cons_self ..
  · unfold sSub mSl mNoPart
    simp only [List.map_cons, List.map_nil, List.length_cons, List.length_nil, List.replicate, List.cons_append, List.nil_append, List.append_nil, sSeq, sIf, sRet, sNil, sSet, sDrop, m2, m1, mL, mCons, mNil, mC, mVar, mIf, List.getElem?_cons_zero, List.getElem?_cons_succ, List.set_cons_zero, List.set_cons_succ, R.bind_ok, R.toS_ok, Nat.reduceAdd, Nat.reduceSub, Nat.zero_add, En.eq_cell, En.asB_ok, En.eq_int, En.lt_ok, En.le_ok, En.sub_ok, En.add_ok, En.abs_ok, En.cell_0, En.cell_1, decide_true, decide_false, Bool.false_eq_true, if_true, if_false, Bool.not_true, Bool.not_false, hix, asPart, hsl, had, hix2]
    unfold putL
    simp [List.map_set]
end K90
set_option Elab.async false
set_option linter.all false
set_option maxRecDepth 100000
set_option maxHeartbeats 4000000
namespace K90
open PySem PySem.Spec PyProof.Rows L2 En
def restF (r : Rule) (cs ps : List Pt) (c : Pt) : Int := maxL (0 :: (partsL r c ps).map (least r cs))
theorem stepL_le {r : Rule} {ps : List Pt} {f : List Pt → Int} {b : Int} {c : Pt} : stepL r ps f b c ≤ b := by
  unfold stepL
  split
  · exact Int.le_refl _
  · omega
theorem foldL_le {r : Rule} {ps : List Pt} {f : List Pt → Int} : ∀ (cs : List Pt) (b : Int), cs.foldl (stepL r ps f) b ≤ b
  | [], b => Int.le_refl _
  | c :: cs, b => Int.le_trans (foldL_le cs _) stepL_le
theorem foldL_mem {r : Rule} {ps : List Pt} {f : List Pt → Int} : ∀ (cs : List Pt) (b : Int) (c : Pt), c ∈ cs → ps ∉ partsL r c ps → cs.foldl (stepL r ps f) b ≤ 1 + maxL (0 :: (partsL r c ps).map f)
  | [], b, c, h, _ => by cases h
  | x :: cs, b, c, h, hn => by
    rw [List.foldl_cons]
    rcases List.mem_cons.mp h with rfl | h
    · refine Int.le_trans (foldL_le cs _) ?_
      unfold stepL
      rw [if_neg hn]
      omega
    · exact foldL_mem cs _ c h hn
theorem foldL_or {r : Rule} {ps : List Pt} {f : List Pt → Int} : ∀ (cs : List Pt) (b : Int), cs.foldl (stepL r ps f) b = b ∨ ∃ c ∈ cs, cs.foldl (stepL r ps f) b = 1 + maxL (0 :: (partsL r c ps).map f)
  | [], b => .inl rfl
  | x :: cs, b => by
    rw [List.foldl_cons]
    rcases foldL_or cs (stepL r ps f b x) with h | ⟨c, hc, h⟩
    · rw [h]
      unfold stepL
      split
      · exact .inl rfl
      · by_cases hb : b ≤ 1 + maxL (0 :: (partsL r x ps).map f)
        · left; omega
        · right
          exact ⟨x, List.mem_cons_self .., by omega⟩
    · exact .inr ⟨c, List.mem_cons_of_mem _ hc, h⟩
theorem least_le (r : Rule) (cs ps : List Pt) : least r cs ps ≤ (ps.length : Int) := by
  by_cases h : ps = []
  · subst h; exact Int.le_refl _
  · rw [least_eq r cs ps h]; exact foldL_le ..
theorem rest_ge {r : Rule} {cs ps : List Pt} {c : Pt} (h : ps ≠ []) (hc : c ∈ cs) : least r cs ps - 1 ≤ restF r cs ps c := by
  by_cases hn : ps ∈ partsL r c ps
  · have := (maxL_spec (n := 0) (ns := (partsL r c ps).map (least r cs))).2 (least r cs ps) (List.mem_cons_of_mem _ (List.mem_map.mpr ⟨ps, hn, rfl⟩))
    show _ ≤ maxL _
    omega
  · have := foldL_mem (f := least r cs) cs (ps.length : Int) c hc hn
    rw [← least_eq r cs ps h] at this
    show _ ≤ maxL _
    omega
theorem maxL_le {n k : Int} {ns : List Int} (h0 : n ≤ k) (h : ∀ y ∈ ns, y ≤ k) : maxL (n :: ns) ≤ k := by
  rcases List.mem_cons.mp (maxL_spec (n := n) (ns := ns)).1 with e | e
  · omega
  · exact h _ e
theorem part_short {r : Rule} {c : Pt} {ps q : List Pt} (hc : c ∈ ps) (h : q ∈ partsL r c ps) : q.length < ps.length := by
  obtain ⟨w, rfl⟩ := parts_mem h
  refine List.length_filter_lt_length_iff_exists.mpr ⟨c, hc, ?_⟩
  simp
theorem rest_at {r : Rule} {cs ps : List Pt} {c : Pt} (hc : c ∈ ps) : restF r cs ps c ≤ (ps.length : Int) - 1 := by
  have hp : 0 < ps.length := List.length_pos_of_mem hc
  refine maxL_le (by omega) fun y hy => ?_
  obtain ⟨l, hl, rfl⟩ := List.mem_map.mp hy
  have h1 := part_short hc hl
  have h2 := least_le r cs l
  omega
theorem worst_at {r : Rule} {ps : List Pt} {c : Pt} (hc : c ∈ ps) : worstF r ps c ≤ (ps.length : Int) - 1 := by
  have hp : 0 < ps.length := List.length_pos_of_mem hc
  refine maxL_le (by omega) fun y hy => ?_
  obtain ⟨l, hl, rfl⟩ := List.mem_map.mp hy
  have h1 := part_short hc hl
  show (l.length : Int) ≤ _
  omega
theorem rest_min {r : Rule} {cs ps : List Pt} (h : ps ≠ []) (hs : ∀ p ∈ ps, p ∈ cs) : minL (cs.map (restF r cs ps)) = least r cs ps - 1 := by
  obtain ⟨p, hp⟩ := List.exists_mem_of_ne_nil ps h
  have hex : ∃ c ∈ cs, restF r cs ps c = least r cs ps - 1 := by
    rcases foldL_or (f := least r cs) cs (ps.length : Int) with e | ⟨c, hc, e⟩
    · rw [← least_eq r cs ps h] at e
      refine ⟨p, hs p hp, ?_⟩
      have h1 := rest_at (r := r) (cs := cs) hp
      have h2 := rest_ge (r := r) h (hs p hp)
      omega
    · rw [← least_eq r cs ps h] at e
      refine ⟨c, hc, ?_⟩
      show maxL _ = _
      omega
  obtain ⟨c, hc, e⟩ := hex
  cases cs with
  | nil => cases hc
  | cons x xs =>
    rw [List.map_cons]
    obtain ⟨g1, g2⟩ := minL_spec (n := restF r (x :: xs) ps x) (ns := xs.map (restF r (x :: xs) ps))
    rw [← List.map_cons] at g1 g2
    rw [← List.map_cons]
    obtain ⟨z, hz, hz2⟩ := List.mem_map.mp g1
    have k1 := rest_ge (r := r) h hz
    have k2 := g2 _ (List.mem_map.mpr ⟨c, hc, rfl⟩)
    omega
def nextD (r : Rule) (cs here : List Pt) : Pt := ((cs.foldl (stepN (worstF r here)) none).map (·.2)).getD (0, 0)
theorem next_spec {r : Rule} {cs here : List Pt} (h : 0 < cs.length) : ∃ m, cs.foldl (stepN (worstF r here)) none = some (m, nextD r cs here) ∧ nextD r cs here ∈ cs ∧ ∀ c ∈ cs, worstF r here (nextD r cs here) ≤ worstF r here c := by
  obtain ⟨m, q, j, e1, e2, e3, hj, e4⟩ := argmin_index (worstF r here) cs h
  have hq : nextD r cs here = q := by unfold nextD; rw [e1]; rfl
  rw [hq]
  have hqm : q ∈ cs := by rw [← e4]; exact List.getElem_mem hj
  refine ⟨m, e1, hqm, fun c hc => ?_⟩
  have hm : worstF r here q = m := by
    have := (ixOf_spec e3).1
    rw [List.getElem?_map, List.getElem?_eq_getElem hj, e4] at this
    exact Option.some.inj this
  rw [hm, ← e2]
  cases cs with
  | nil => cases hc
  | cons x xs =>
    rw [List.map_cons]
    refine (minL_spec (n := worstF r here x) (ns := xs.map (worstF r here))).2 _ ?_
    rw [← List.map_cons]
    exact List.mem_map.mpr ⟨c, hc, rfl⟩
theorem next_short {r : Rule} {cs here l : List Pt} (hn : here ≠ []) (hs : ∀ p ∈ here, p ∈ cs) (hl : l ∈ partsL r (nextD r cs here) here) : l.length < here.length := by
  obtain ⟨p, hp⟩ := List.exists_mem_of_ne_nil here hn
  obtain ⟨m, _, _, h3⟩ := next_spec (r := r) (here := here) (List.length_pos_of_mem (hs p hp))
  have h1 := h3 p (hs p hp)
  have h2 := worst_at (r := r) hp
  have h4 := (maxL_spec (n := 0) (ns := lens (partsL r (nextD r cs here) here))).2 (l.length : Int) (List.mem_cons_of_mem _ (List.mem_map.mpr ⟨l, hl, rfl⟩))
  have h5 : (l.length : Int) ≤ worstF r here (nextD r cs here) := h4
  omega
theorem look_mem {κ α : Type} [DecidableEq κ] : ∀ {kvs : List (κ × α)} {k : κ} {v : α}, lookK kvs k = some v → (k, v) ∈ kvs
  | [], _, _, h => by cases h
  | p :: r, k, v, h => by
    rw [lookK_cons] at h
    split at h
    · rename_i e
      cases h
      rw [← e]
      exact List.mem_cons_self ..
    · exact List.mem_cons_of_mem _ (look_mem h)
def sameW (r : Rule) (q tr : Pt) (here : List Pt) : List Pt := here.filter fun p => told r q p == told r q tr
theorem same_part {r : Rule} {q tr : Pt} {here : List Pt} (hq : ¬ q = tr) : sameW r q tr here = here.filter fun p => !decide (q = p) && told r q p == told r q tr := by
  unfold sameW
  refine List.filter_congr fun p _ => ?_
  by_cases h : q = p
  · subst h
    have h1 := told_found r q q
    rw [decide_eq_true rfl] at h1
    have h2 := told_found r q tr
    rw [decide_eq_false hq] at h2
    have h3 : (told r q q == told r q tr) = false := by
      cases hb : told r q q == told r q tr with
      | false => rfl
      | true => rw [eq_of_beq hb, h2] at h1; cases h1
    rw [h3, decide_eq_true rfl]
    rfl
  · rw [decide_eq_false h]
    rfl
theorem same_mem {r : Rule} {q tr : Pt} {here : List Pt} (hq : ¬ q = tr) (ht : tr ∈ here) : sameW r q tr here ∈ partsL r q here := by
  rw [same_part hq]
  have e2 := parts_get r q (told r q tr) here []
  rw [lookK_nil] at e2
  have e3 : (lookK (partsF r q here) (told r q tr)).getD [] = here.filter fun p => !decide (q = p) && told r q p == told r q tr := e2
  cases e : lookK (partsF r q here) (told r q tr) with
  | none =>
    rw [e] at e3
    have : tr ∈ here.filter fun p => !decide (q = p) && told r q p == told r q tr := List.mem_filter.mpr ⟨ht, by rw [decide_eq_false hq]; simp⟩
    rw [← e3] at this
    cases this
  | some l =>
    rw [e] at e3
    rw [← e3]
    exact List.mem_map.mpr ⟨_, look_mem e, rfl⟩
theorem same_has {r : Rule} {q tr : Pt} {here : List Pt} (ht : tr ∈ here) : tr ∈ sameW r q tr here := List.mem_filter.mpr ⟨ht, by simp⟩
def count (r : Rule) (cs : List Pt) : Nat → List Pt → Pt → Nat
  | 0, _, _ => 0
  | n + 1, here, tr => if nextD r cs here = tr then 1 else 1 + count r cs n (sameW r (nextD r cs here) tr here) tr
theorem count_ge {r : Rule} {cs : List Pt} : ∀ (n : Nat) (here : List Pt), here.length ≤ n → here ≠ [] → (∀ p ∈ here, p ∈ cs) → ∃ tr ∈ here, least r cs here ≤ (count r cs n here tr : Int)
  | 0, here, h, hn, _ => absurd (List.eq_nil_of_length_eq_zero (by omega)) hn
  | n + 1, here, h, hn, hs => by
    obtain ⟨p, hp⟩ := List.exists_mem_of_ne_nil here hn
    obtain ⟨m, _, hqc, _⟩ := next_spec (r := r) (here := here) (List.length_pos_of_mem (hs p hp))
    have hprog : here ∉ partsL r (nextD r cs here) here := fun z => absurd (next_short hn hs z) (Nat.lt_irrefl _)
    have hle := foldL_mem (f := least r cs) cs (here.length : Int) _ hqc hprog
    rw [← least_eq r cs here hn] at hle
    have hone : ∀ tr, 1 ≤ count r cs (n + 1) here tr := fun tr => by
      unfold count
      split <;> omega
    rcases List.mem_cons.mp (maxL_spec (n := 0) (ns := (partsL r (nextD r cs here) here).map (least r cs))).1 with e | e
    · refine ⟨p, hp, ?_⟩
      have := hone p
      omega
    · obtain ⟨l, hl, e⟩ := List.mem_map.mp e
      by_cases hln : l = []
      · subst hln
        rw [least_nil] at e
        refine ⟨p, hp, ?_⟩
        have := hone p
        omega
      · have hsub := parts_sub hl
        have hlt := next_short hn hs hl
        obtain ⟨tr, htr, hc⟩ := count_ge (r := r) n l (by omega) hln fun p hp => hs p (hsub.subset hp)
        refine ⟨tr, hsub.subset htr, ?_⟩
        obtain ⟨w, hw⟩ := parts_mem hl
        rw [hw] at htr
        obtain ⟨h1, h2⟩ := List.mem_filter.mp htr
        simp only [Bool.and_eq_true, Bool.not_eq_true', decide_eq_false_iff_not] at h2
        have hwq := eq_of_beq h2.2
        have hsame : sameW r (nextD r cs here) tr here = l := by rw [same_part h2.1, hwq, hw]
        have hcnt : count r cs (n + 1) here tr = 1 + count r cs n l tr := by
          rw [← hsame]
          show (if nextD r cs here = tr then 1 else _) = _
          rw [if_neg h2.1]
        rw [hcnt]
        omega
end K90
set_option Elab.async false
set_option linter.all false
set_option maxRecDepth 100000
set_option maxHeartbeats 4000000
namespace K90
open PySem PySem.Spec PyProof.Rows L2 En
theorem split_eq (r : Rule) (c : Pt) (ps : List Pt) (hl : ps.length ≤ 200) (b : Box) : ∃ st, f__law_split [.d (ruleD r), .d (cellD c), .d (.tup (ps.map cellD))] b = .ok (.d (.dK (encGD (partsF r c ps)))) ⟨st, b⟩ := by
  have h1 : ∀ (p : Pt) (t : T), fCall f__law_hint [.d (ruleD r), .d (cellD c), .d (cellD p)] t = .ok (.d (.str (told r c p))) t := fun p t => call_eq rfl (law_hint_eq r c p t.b)
  obtain ⟨ρ', t', e, o4, o5, rfl, rfl⟩ := forM_pre (f := gN 4) (b := (sIf (m1 asB (m2 fNe (mVar 4) (mVar 1)))
     (sSeq (sSet 5 (mL (fCall f__law_hint) (mCons (mVar 0) (mCons (mVar 1) (mCons (mVar 4) mNil)))))
      (En.sDPut (mVar 3) (mVar 5) (m2 fAdd (mDGet2 (mVar 3) (mVar 5) (mL fTup mNil)) (mL fTup (mCons (mVar 4) mNil)))))
     sNil)) (fun p => .d (cellD p)) (fun pre ρ t => ∃ o4 o5, ρ = [some (.d (ruleD r)), some (.d (cellD c)), some (.d (.tup (ps.map cellD))), some (.loc 0), o4, o5] ∧ t = ⟨[.dK (encG (pre.foldl (stepP r c) []))], b⟩) ps (by
    rintro p pre post ρ t epr ⟨o4, o5, rfl, rfl⟩
    obtain ⟨s1, s2⟩ := part_small (r := r) (c := c) hl ⟨_, epr⟩ (told r c p)
    by_cases hcp : c = p
    · refine ⟨_, _, _, rfl, ?_, some (.d (cellD p)), o5, rfl, rfl⟩
      have e0 : (pre ++ [p]).foldl (stepP r c) [] = pre.foldl (stepP r c) [] := by rw [List.foldl_append, List.foldl_cons, List.foldl_nil]; unfold stepP; rw [if_pos hcp]
      have hd : decide (p = c) = true := decide_eq_true hcp.symm
      simp only [List.map_cons, List.map_nil, List.length_cons, List.length_nil, List.replicate, List.cons_append, List.nil_append, List.append_nil, sSeq, sIf, sRet, sNil, sSet, sDrop, m2, m1, mL, mCons, mNil, mC, mVar, mIf, List.getElem?_cons_zero, List.getElem?_cons_succ, List.set_cons_zero, List.set_cons_succ, R.bind_ok, R.toS_ok, Nat.reduceAdd, Nat.reduceSub, Nat.zero_add, En.eq_cell, En.asB_ok, En.eq_int, En.lt_ok, En.le_ok, En.sub_ok, En.add_ok, En.abs_ok, En.cell_0, En.cell_1, decide_true, decide_false, Bool.false_eq_true, if_true, if_false, Bool.not_true, Bool.not_false, ne_cell, hd, e0]
    · refine ⟨_, _, _, rfl, ?_, some (.d (cellD p)), some (.d (.str (told r c p))), rfl, rfl⟩
      have e0 : (pre ++ [p]).foldl (stepP r c) [] = addP (pre.foldl (stepP r c) []) (told r c p) p := by rw [List.foldl_append, List.foldl_cons, List.foldl_nil]; unfold stepP; rw [if_neg hcp]
      have pp := put_part (ρ := [some (.d (ruleD r)), some (.d (cellD c)), some (.d (.tup (ps.map cellD))), some (.loc 0), some (.d (cellD p)), some (.d (.str (told r c p)))]) (g := pre.foldl (stepP r c) []) (w := told r c p) (p := p) (b := b) rfl rfl rfl s2 s1
      have hpc : ¬ p = c := fun z => hcp z.symm
      simp only [List.map_cons, List.map_nil, List.length_cons, List.length_nil, List.replicate, List.cons_append, List.nil_append, List.append_nil, sSeq, sIf, sRet, sNil, sSet, sDrop, m2, m1, mL, mCons, mNil, mC, mVar, mIf, List.getElem?_cons_zero, List.getElem?_cons_succ, List.set_cons_zero, List.set_cons_succ, R.bind_ok, R.toS_ok, Nat.reduceAdd, Nat.reduceSub, Nat.zero_add, En.eq_cell, En.asB_ok, En.eq_int, En.lt_ok, En.le_ok, En.sub_ok, En.add_ok, En.abs_ok, En.cell_0, En.cell_1, decide_true, decide_false, Bool.false_eq_true, if_true, if_false, Bool.not_true, Bool.not_false, h1, ne_cell, hpc, e0, pp]) ps [] [some (.d (ruleD r)), some (.d (cellD c)), some (.d (.tup (ps.map cellD))), some (.loc 0), none, none] ⟨[.dK []], b⟩ rfl ⟨none, none, rfl, rfl⟩
  refine ⟨[.dead], ?_⟩
  unfold f__law_split runF runG m__law_split
  simp only [List.map_cons, List.map_nil, List.length_cons, List.length_nil, List.replicate, List.cons_append, List.nil_append, List.append_nil, sSeq, sIf, sRet, sNil, sSet, sDrop, m2, m1, mL, mCons, mNil, mC, mVar, mIf, List.getElem?_cons_zero, List.getElem?_cons_succ, List.set_cons_zero, List.set_cons_succ, R.bind_ok, R.toS_ok, Nat.reduceAdd, Nat.reduceSub, Nat.zero_add, En.eq_cell, En.asB_ok, En.eq_int, En.lt_ok, En.le_ok, En.sub_ok, En.add_ok, En.abs_ok, En.cell_0, En.cell_1, decide_true, decide_false, Bool.false_eq_true, if_true, if_false, Bool.not_true, Bool.not_false, mDNewK, sFor, cells_iter] at e ⊢
  rw [e]
  simp only [sFzD, List.getElem?_cons_zero, List.getElem?_cons_succ, datas_encG, zip_encG, List.set_cons_zero, List.set_cons_succ]
  rfl
theorem foldL_or' {r : Rule} {ps : List Pt} {f : List Pt → Int} : ∀ (cs : List Pt) (b : Int), cs.foldl (stepL r ps f) b = b ∨ ∃ c ∈ cs, ps ∉ partsL r c ps ∧ cs.foldl (stepL r ps f) b = 1 + maxL (0 :: (partsL r c ps).map f)
  | [], b => .inl rfl
  | x :: cs, b => by
    rw [List.foldl_cons]
    rcases foldL_or' cs (stepL r ps f b x) with h | ⟨c, hc, hn, h⟩
    · rw [h]
      unfold stepL
      split
      · exact .inl rfl
      · rename_i hx
        by_cases hb : b ≤ 1 + maxL (0 :: (partsL r x ps).map f)
        · left; omega
        · right
          exact ⟨x, List.mem_cons_self .., hx, by omega⟩
    · exact .inr ⟨c, List.mem_cons_of_mem _ hc, hn, h⟩
theorem least_99 (r : Rule) (cs ps : List Pt) (h : ps ≠ []) (hs : ∀ p ∈ ps, p ∈ cs) (hl : ps.length ≤ 99) : least r cs ps = cs.foldl (stepL r ps (least r cs)) 99 := by
  rw [least_eq r cs ps h]
  obtain ⟨p, hp⟩ := List.exists_mem_of_ne_nil ps h
  have hpn : ps ∉ partsL r p ps := fun z => absurd (part_short hp z) (Nat.lt_irrefl _)
  have hr := rest_at (r := r) (cs := cs) hp
  unfold restF at hr
  have m1 := foldL_mem (f := least r cs) cs (ps.length : Int) p (hs p hp) hpn
  have m2 := foldL_mem (f := least r cs) cs 99 p (hs p hp) hpn
  have key : ∀ b1 b2 : Int, 1 + maxL (0 :: (partsL r p ps).map (least r cs)) ≤ b1 → cs.foldl (stepL r ps (least r cs)) b2 ≤ cs.foldl (stepL r ps (least r cs)) b1 := by
    intro b1 b2 hb
    rcases foldL_or' (f := least r cs) cs b1 with e | ⟨c, hc, hn, e⟩
    · rw [e]
      exact Int.le_trans (foldL_mem (f := least r cs) cs b2 p (hs p hp) hpn) hb
    · rw [e]
      exact foldL_mem (f := least r cs) cs b2 c hc hn
  have k1 := key (ps.length : Int) 99 (by omega)
  have k2 := key 99 (ps.length : Int) (by omega)
  omega
def LS (pre : List Cell) (kvs : List (NestedKey × Val)) (b : Box) : T := ⟨pre ++ [.dT kvs], b⟩
section
variable {pre : List Cell} {kvs : List (NestedKey × Val)} {b : Box}
theorem stLS : (LS pre kvs b).st[pre.length]? = some (.dT kvs) := by
  show (pre ++ [Cell.dT kvs])[pre.length]? = _
  simp
theorem getLS (ps : List Pt) : dGet? (.loc pre.length) (.d (.tup (ps.map cellD))) (LS pre kvs b) = some (lookK kvs (keyC ps)) := by
  unfold dGet?
  simp only [stLS, keyT_cells]
  rfl
theorem notInLS (ps : List Pt) : fDNotIn (.d (.tup (ps.map cellD))) (.loc pre.length) (LS pre kvs b) = .ok (.d (.bl (!(lookK kvs (keyC ps)).isSome))) (LS pre kvs b) := by
  unfold fDNotIn
  rw [getLS]
  rfl
theorem lookLS {ps : List Pt} {v : Val} (h : lookK kvs (keyC ps) = some v) : fDGet (.loc pre.length) (.d (.tup (ps.map cellD))) (LS pre kvs b) = .ok v (LS pre kvs b) := by
  unfold fDGet
  rw [getLS, h]
theorem putLS {ρ : Rho} {ps : List Pt} {v : Val} (h3 : ρ[3]? = some (some (.loc pre.length))) (h2 : ρ[2]? = some (some (.d (.tup (ps.map cellD))))) (h4 : ρ[4]? = some (some v)) (hl : kvs.length < lim) :
    En.sDPut (mVar 3) (mVar 2) (mVar 4) ρ (LS pre kvs b) = .nx ρ (LS pre (putKV kvs (keyC ps) v) b) := by
  have e3 : ∀ t : T, mVar 3 ρ t = .ok (.loc pre.length) t := fun t => mVar_eq h3
  have e2 : ∀ t : T, mVar 2 ρ t = .ok (.d (.tup (ps.map cellD))) t := fun t => mVar_eq h2
  have e4 : ∀ t : T, mVar 4 ρ t = .ok v t := fun t => mVar_eq h4
  unfold En.sDPut
  simp only [e2, e3, e4, R.toS_ok, stLS, keyT_cells, hl, if_true]
  unfold LS
  simp
end
theorem eq_T0' (ps : List Pt) (t : T) : fEq (.d (.tup (ps.map cellD))) (.d (.tup [])) t = .ok (.d (.bl ps.isEmpty)) t := by
  rw [eq_of_val (val_cellsT ps t) (val_T0 t), eqv_T0]
  simp
theorem gt_ok (i j : Int) (t : T) : fGt (.d (.int i)) (.d (.int j)) t = .ok (.d (.bl (decide (j < i)))) t := rfl
theorem maxL0 (ns : List Int) : 0 ≤ maxL (0 :: ns) := (maxL_spec (n := 0) (ns := ns)).2 0 (List.mem_cons_self ..)
theorem least_sat (cs : List Pt) (r : Rule) (sp : List Pt) (hsp : sp.length ≤ 9) (hsc : ∀ p ∈ sp, p ∈ cs) (pre : List Cell) : ∀ (n : Nat) (ps : List Pt) (kvs : List (NestedKey × Val)) (b : Box), ps.length < n → List.Sublist ps sp → Memo r cs sp kvs ps.length →
    (f__law_least n [.d (ruleD r), .d (.lst (cs.map cellD)), .d (.tup (ps.map cellD)), .loc pre.length] (LS pre kvs b)).sat fun v t => v = .d (.int (least r cs ps)) ∧ ∃ kvs', t = LS pre kvs' b ∧ Memo r cs sp kvs' ps.length ∧ Above ps.length kvs kvs'
  | 0, ps, kvs, b, hn, _, _ => absurd hn (Nat.not_lt_zero _)
  | n + 1, ps, kvs, b, hn, hsub, hm => by
    have hpl : ps.length ≤ 9 := Nat.le_trans hsub.length_le hsp
    show (runG 8 (r__law_least (f__law_least n)) _ _).sat _
    refine run_sat ?_
    unfold r__law_least
    refine seq_sat (N' := fun ρ t => ρ = [some (.d (ruleD r)), some (.d (.lst (cs.map cellD))), some (.d (.tup (ps.map cellD))), some (.loc pre.length), none, none, none, none] ∧ t = LS pre kvs b ∧ ps ≠ []) ?_ ?_
    · rw [w_sIf, w_m1, w_m2]
      simp only [w_sSet, w_sRet, w_sDrop, w_sPar, w_sIf, w_sFor, w_sNil, w_m2, w_m1, w_mL, w_mCons, w_mNil, w_mC, mVar_sat, w_mIf, w_mMeth, w_mNot, w_mAnd, w_mOr, w_asB, sat_ok, List.map_cons, List.map_nil, List.cons_append, List.nil_append, List.getElem?_cons_zero, List.getElem?_cons_succ, List.set_cons_zero, List.set_cons_succ, List.length_cons, List.length_nil, Nat.reduceAdd, Nat.reduceSub, List.replicate, Nat.zero_add, tup0, eq_T0']
      cases he : ps.isEmpty with
      | true =>
        rw [if_pos rfl]
        simp only [w_sSet, w_sRet, w_sDrop, w_sPar, w_sIf, w_sFor, w_sNil, w_m2, w_m1, w_mL, w_mCons, w_mNil, w_mC, mVar_sat, w_mIf, w_mMeth, w_mNot, w_mAnd, w_mOr, w_asB, sat_ok, List.map_cons, List.map_nil, List.cons_append, List.nil_append, List.getElem?_cons_zero, List.getElem?_cons_succ, List.set_cons_zero, List.set_cons_succ, List.length_cons, List.length_nil, Nat.reduceAdd, Nat.reduceSub, List.replicate, Nat.zero_add]
        have : ps = [] := by simpa using he
        subst this
        exact ⟨rfl, kvs, rfl, hm, Above.refl⟩
      | false =>
        rw [if_neg (by decide), w_sNil]
        exact ⟨rfl, rfl, fun z => by rw [z] at he; cases he⟩
    rintro ρ t ⟨rfl, rfl, hne⟩
    obtain ⟨n0, hn0⟩ : ∃ n0, ps.length = n0 + 1 := ⟨ps.length - 1, by have := List.length_pos_iff.mpr hne; omega⟩
    refine seq_sat (N' := fun ρ t => (∃ o4 o5 o6 o7, ρ = [some (.d (ruleD r)), some (.d (.lst (cs.map cellD))), some (.d (.tup (ps.map cellD))), some (.loc pre.length), o4, o5, o6, o7]) ∧ ∃ kvs', t = LS pre kvs' b ∧ Memo r cs sp kvs' ps.length ∧ Above ps.length kvs kvs' ∧ lookK kvs' (keyC ps) = some (.d (.int (least r cs ps)))) ?_ ?_
    rotate_left
    · rintro ρ t ⟨⟨o4, o5, o6, o7, rfl⟩, kvs', rfl, hg, ha, hl⟩
      simp only [w_sSet, w_sRet, w_sDrop, w_sPar, w_sIf, w_sFor, w_sNil, w_m2, w_m1, w_mL, w_mCons, w_mNil, w_mC, mVar_sat, w_mIf, w_mMeth, w_mNot, w_mAnd, w_mOr, w_asB, sat_ok, List.map_cons, List.map_nil, List.cons_append, List.nil_append, List.getElem?_cons_zero, List.getElem?_cons_succ, List.set_cons_zero, List.set_cons_succ, List.length_cons, List.length_nil, Nat.reduceAdd, Nat.reduceSub, List.replicate, Nat.zero_add, lookLS hl]
      exact ⟨trivial, kvs', rfl, hg, ha⟩
    rw [w_sIf, w_m1, w_m2]
    simp only [w_sSet, w_sRet, w_sDrop, w_sPar, w_sIf, w_sFor, w_sNil, w_m2, w_m1, w_mL, w_mCons, w_mNil, w_mC, mVar_sat, w_mIf, w_mMeth, w_mNot, w_mAnd, w_mOr, w_asB, sat_ok, List.map_cons, List.map_nil, List.cons_append, List.nil_append, List.getElem?_cons_zero, List.getElem?_cons_succ, List.set_cons_zero, List.set_cons_succ, List.length_cons, List.length_nil, Nat.reduceAdd, Nat.reduceSub, List.replicate, Nat.zero_add, notInLS]
    cases hk : lookK kvs (keyC ps) with
    | some v =>
      have hv : v = .d (.int (least r cs ps)) := by
        rcases hm.good ps (Nat.le_refl _) with z | z
        · rw [hk] at z; cases z
        · rw [hk] at z; cases z; rfl
      subst hv
      show RS.sat (if false = true then _ else _) _ _
      rw [if_neg (by decide), w_sNil]
      exact ⟨⟨_, _, _, _, rfl⟩, kvs, rfl, hm, Above.refl, hk⟩
    | none =>
      show RS.sat (if true = true then _ else _) _ _
      rw [if_pos rfl]
      refine seq_sat (N' := fun ρ t => ρ = [some (.d (ruleD r)), some (.d (.lst (cs.map cellD))), some (.d (.tup (ps.map cellD))), some (.loc pre.length), some (.d (.int 99)), none, none, none] ∧ t = LS pre kvs b) ?_ ?_
      · simp only [w_sSet, w_sRet, w_sDrop, w_sPar, w_sIf, w_sFor, w_sNil, w_m2, w_m1, w_mL, w_mCons, w_mNil, w_mC, mVar_sat, w_mIf, w_mMeth, w_mNot, w_mAnd, w_mOr, w_asB, sat_ok, List.map_cons, List.map_nil, List.cons_append, List.nil_append, List.getElem?_cons_zero, List.getElem?_cons_succ, List.set_cons_zero, List.set_cons_succ, List.length_cons, List.length_nil, Nat.reduceAdd, Nat.reduceSub, List.replicate, Nat.zero_add]
        exact ⟨trivial, trivial⟩
      rintro ρ t ⟨rfl, rfl⟩
      refine seq_sat (N' := fun ρ t => (∃ o5 o6 o7, ρ = [some (.d (ruleD r)), some (.d (.lst (cs.map cellD))), some (.d (.tup (ps.map cellD))), some (.loc pre.length), some (.d (.int (least r cs ps))), o5, o6, o7]) ∧ ∃ kv1, t = LS pre kv1 b ∧ Memo r cs sp kv1 n0 ∧ ∀ qs : List Pt, n0 < qs.length → lookK kv1 (keyC qs) = lookK kvs (keyC qs)) ?_ ?_
      · simp only [w_sFor, w_m1, mVar_sat, List.getElem?_cons_zero, List.getElem?_cons_succ]
        rw [show fIter (.d (.lst (cs.map cellD))) = fun t => R.ok (cs.map fun c => Val.d (cellD c)) t from by
          funext t
          show R.ok ((cs.map cellD).map Val.d) t = _
          rw [List.map_map]
          rfl]
        simp only [sat_ok]
        refine rsat_mono (forM_fsat (fun c => .d (cellD c)) (stepL r ps (least r cs)) (fun best ρ t => 1 ≤ best ∧ (∃ o5 o6 o7, ρ = [some (.d (ruleD r)), some (.d (.lst (cs.map cellD))), some (.d (.tup (ps.map cellD))), some (.loc pre.length), some (.d (.int best)), o5, o6, o7]) ∧ ∃ kv1, t = LS pre kv1 b ∧ Memo r cs sp kv1 n0 ∧ ∀ qs : List Pt, n0 < qs.length → lookK kv1 (keyC qs) = lookK kvs (keyC qs)) cs 99 _ _ ⟨by omega, ⟨_, _, _, rfl⟩, kvs, rfl, hm.mono (by omega), fun _ _ => rfl⟩ ?_) ?_ (fun _ _ x => x)
        · rintro c best ρ t hc ⟨hbest, ⟨o5, o6, o7, rfl⟩, kv1, rfl, hm1, hu1⟩
          refine ⟨_, rfl, ?_⟩
          have hpt : ∀ t : T, fCall f__law_split [.d (ruleD r), .d (cellD c), .d (.tup (ps.map cellD))] t = .ok (.d (.dK (encGD (partsF r c ps)))) t := fun t => by
            obtain ⟨st, e⟩ := split_eq r c ps (by omega) t.b
            exact call_eq' rfl e
          refine seq_sat (N' := fun ρ t => ρ = [some (.d (ruleD r)), some (.d (.lst (cs.map cellD))), some (.d (.tup (ps.map cellD))), some (.loc pre.length), some (.d (.int best)), some (.d (cellD c)), some (.d (.dK (encGD (partsF r c ps)))), o7] ∧ t = LS pre kv1 b) ?_ ?_
          · simp only [w_sSet, w_sRet, w_sDrop, w_sPar, w_sIf, w_sFor, w_sNil, w_m2, w_m1, w_mL, w_mCons, w_mNil, w_mC, mVar_sat, w_mIf, w_mMeth, w_mNot, w_mAnd, w_mOr, w_asB, sat_ok, List.map_cons, List.map_nil, List.cons_append, List.nil_append, List.getElem?_cons_zero, List.getElem?_cons_succ, List.set_cons_zero, List.set_cons_succ, List.length_cons, List.length_nil, Nat.reduceAdd, Nat.reduceSub, List.replicate, Nat.zero_add, hpt]
            exact ⟨trivial, trivial⟩
          rintro ρ t ⟨rfl, rfl⟩
          have hvl : ∀ t : T, fFz (((((partsF r c ps).map (·.2)).map fun l => D.tup (l.map cellD)).map Val.d)) t = .ok (.d (listsD (partsL r c ps))) t := fun t => by
            unfold fFz
            rw [datas_map]
            rfl
          rw [w_sIf, w_m1, w_m2]
          simp only [w_sSet, w_sRet, w_sDrop, w_sPar, w_sIf, w_sFor, w_sNil, w_m2, w_m1, w_mL, w_mCons, w_mNil, w_mC, mVar_sat, w_mIf, w_mMeth, w_mNot, w_mAnd, w_mOr, w_asB, sat_ok, List.map_cons, List.map_nil, List.cons_append, List.nil_append, List.getElem?_cons_zero, List.getElem?_cons_succ, List.set_cons_zero, List.set_cons_succ, List.length_cons, List.length_nil, Nat.reduceAdd, Nat.reduceSub, List.replicate, Nat.zero_add, valsD, hvl, notIn_lists]
          by_cases hin : ps ∈ partsL r c ps
          · rw [decide_eq_true hin]
            show RS.sat (if false = true then _ else _) _ _
            rw [if_neg (by decide), w_sNil]
            have es : stepL r ps (least r cs) best c = best := if_pos hin
            rw [es]
            exact ⟨hbest, ⟨_, _, _, rfl⟩, kv1, rfl, hm1, hu1⟩
          · rw [decide_eq_false hin]
            show RS.sat (if true = true then _ else _) _ _
            rw [if_pos rfl]
            have es : stepL r ps (least r cs) best c = min best (1 + maxL (0 :: (partsL r c ps).map (least r cs))) := if_neg hin
            rw [es]
            have hmx0 := maxL0 ((partsL r c ps).map (least r cs))
            have hcnt := parts_len_le r c ps
            have hcnt2 : (partsF r c ps).length ≤ ps.length := by
              unfold partsL at hcnt
              rw [List.length_map] at hcnt
              exact hcnt
            have hnd := parts_nodup r c ps [] (by simp)
            have hki : ∀ t : T, fDKeysI (.d (.dK (encGD (partsF r c ps)))) t = .ok ((partsF r c ps).map fun p => Val.d (.str p.1)) t := fun t => by
              show R.ok ((encGD (partsF r c ps)).map fun p => Val.d (keyKD p.1)) t = _
              unfold encGD
              rw [List.map_map]
              rfl
            rw [w_sSet, w_mL, w_mCons, mVar_sat]
            show R.sat _ _
            rw [w_mCons, w_m2, w_mC, w_mL, w_mCons, w_m2]
            simp only [w_mL, w_mCons, w_mNil, w_mC, lst1, fz0_ok, sat_ok]
            unfold mLc
            rw [sat_bind]
            simp only [w_m1, mVar_sat, List.getElem?_cons_zero, List.getElem?_cons_succ, hki, sat_ok, wipeR, List.set_cons_zero, List.set_cons_succ]
            refine sat_mono (lcM_msat (fun (p : Str × List Pt) => Val.d (.str p.1)) (fun p => .d (.int (least r cs p.2))) (fun t => ∃ kv2, t = LS pre kv2 b ∧ Memo r cs sp kv2 n0 ∧ ∀ qs : List Pt, n0 < qs.length → lookK kv2 (keyC qs) = lookK kvs (keyC qs)) (partsF r c ps) [] _ ⟨kv1, rfl, hm1, hu1⟩ (by rw [List.length_nil]; show _ ≤ 100000; omega) ?_) ?_
            · rintro q t hq ⟨kv2, rfl, hm2, hu2⟩
              refine ⟨_, rfl, ?_⟩
              have hl : q.2 ∈ partsL r c ps := List.mem_map.mpr ⟨q, hq, rfl⟩
              have hll := parts_lt hl hin
              have hg : ∀ t : T, fDGet (.d (.dK (encGD (partsF r c ps)))) (.d (.str q.1)) t = .ok (.d (.tup (q.2.map cellD))) t := fun t => by
                have h0 : dGet? (.d (.dK (encGD (partsF r c ps)))) (.d (.str q.1)) t = some (some (.d (.tup (q.2.map cellD)))) := by
                  show some (lookK ((encGD (partsF r c ps)).map fun p => (p.1, Val.d p.2)) (Sum.inr q.1)) = _
                  have h1 : ((encGD (partsF r c ps)).map fun p => (p.1, Val.d p.2)) = encG (partsF r c ps) := by
                    unfold encGD encG
                    rw [List.map_map]
                    rfl
                  rw [h1, encG_look, show lookK (partsF r c ps) q.1 = some q.2 from mem_look hnd hq]
                  rfl
                unfold fDGet
                rw [h0]
              simp only [w_mL, w_mCons, w_mNil, w_m2, mVar_sat, List.getElem?_cons_zero, List.getElem?_cons_succ, List.set_cons_zero, List.set_cons_succ, hg, sat_ok]
              refine sat_mono (least_sat cs r sp hsp hsc pre n q.2 kv2 b (by omega) ((parts_sub hl).trans hsub) (hm2.mono (by omega))) ?_
              rintro v t ⟨rfl, kv3, rfl, hm3, ha3⟩
              exact ⟨rfl, kv3, rfl, memo_up hm2 hm3 ha3, fun qs hq => by rw [ha3 qs (by omega)]; exact hu2 qs hq⟩
            · rintro vs t ⟨rfl, kv2, rfl, hm2, hu2⟩
              have hfz2 : ∀ t : T, fFz ((partsF r c ps).map fun p => Val.d (.int (least r cs p.2))) t = .ok (.d (.lst (((partsL r c ps).map (least r cs)).map D.int))) t := fun t => by
                unfold fFz
                rw [show ((partsF r c ps).map fun p => Val.d (.int (least r cs p.2))) = (((partsL r c ps).map (least r cs)).map D.int).map Val.d from by unfold partsL; simp [List.map_map, Function.comp_def], datas_map]
              rw [List.nil_append, hfz2, sat_ok, add_lst (by simp only [List.length_cons, List.length_nil, List.length_map]; show _ ≤ 100000; omega), sat_ok]
              have hmx := max1_ok 0 ((partsL r c ps).map (least r cs)) (LS pre kv2 b)
              rw [List.map_cons] at hmx
              show (fMax1 [.d (.lst (.int 0 :: ((partsL r c ps).map (least r cs)).map D.int))] (LS pre kv2 b)).sat _
              rw [hmx, sat_ok, add_ok, sat_ok, min2_ok, sat_ok]
              have hmin : (if 1 + maxL (0 :: (partsL r c ps).map (least r cs)) < best then 1 + maxL (0 :: (partsL r c ps).map (least r cs)) else best) = min best (1 + maxL (0 :: (partsL r c ps).map (least r cs))) := by
                simp only [Int.min_def]
                split <;> split <;> omega
              rw [hmin]
              exact ⟨by omega, ⟨_, _, _, rfl⟩, kv2, rfl, hm2, hu2⟩
        · rintro ρ t ⟨_, h1, h2⟩
          rw [← least_99 r cs ps hne (fun p hp => hsc p (hsub.subset hp)) (by omega)] at h1
          exact ⟨h1, h2⟩
      rintro ρ t ⟨⟨o5, o6, o7, rfl⟩, kv1, rfl, hm1, hu1⟩
      rw [putLS (ps := ps) (v := .d (.int (least r cs ps))) rfl rfl rfl (memo_len hm1 hsp)]
      have hq : lookK (putKV kv1 (keyC ps) (.d (.int (least r cs ps)))) (keyC ps) = some (.d (.int (least r cs ps))) := by rw [look_put, if_pos rfl]
      refine ⟨⟨_, _, _, _, rfl⟩, _, rfl, memo_done (memo_put hm1 hsub (by omega)) hn0 (by omega) hq fun qs hql hqn => ?_, fun qs hql => ?_, hq⟩
      · rw [look_put, if_neg (fun z => hqn (keyC_inj z)), hu1 qs (by omega)]
        exact hm.good qs (by omega)
      · rw [look_put, if_neg (fun z => by rw [keyC_inj z] at hql; omega), hu1 qs (by omega)]
theorem digger_init {rows : List Str} {w : Nat} (hr : RowsOk rows w) (r : Rule) (b : Box) : f_Digger____init__ [.loc 0, .d (islD rows), .d (ruleD r)] ⟨[.ins "Digger" []], b⟩ = .ok (.d .non) (DS (cellsOf rows w) r [(keyC [], .d (.int 0))] b) := by
  have n1 : ¬ (("cells_to_dig" : Str) = ("rule" : Str)) := by decide +kernel
  have n2 : ¬ (("cells_to_dig" : Str) = ("known" : Str)) := by decide +kernel
  have n3 : ¬ (("rule" : Str) = ("known" : Str)) := by decide +kernel
  have hc : [("Digger" : Str)].contains ("Digger" : Str) = true := by decide
  have hk : keyT (.d (.tup [])) = some (keyC []) := keyT_cells []
  unfold f_Digger____init__ runG m_Digger____init__
  simp only [List.map_cons, List.map_nil, List.length_cons, List.length_nil, List.replicate, List.cons_append, List.nil_append, List.append_nil, sSeq, sIf, sRet, sNil, sSet, sDrop, m2, m1, mL, mCons, mNil, mC, mVar, mIf, List.getElem?_cons_zero, List.getElem?_cons_succ, List.set_cons_zero, List.set_cons_succ, R.bind_ok, R.toS_ok, Nat.reduceAdd, Nat.reduceSub, Nat.zero_add, En.eq_cell, En.asB_ok, En.eq_int, En.lt_ok, En.le_ok, En.sub_ok, En.add_ok, En.abs_ok, En.cell_0, En.cell_1, decide_true, decide_false, Bool.false_eq_true, if_true, if_false, Bool.not_true, Bool.not_false, sFldV, prop_cells hr, hc, Bool.true_and, putV, List.length_cons, List.length_nil, Nat.reduceAdd, Nat.reduceLT, decide_true, mDisp1, tup0, R.bindN, hk, n1, n2, n3]
  rfl
theorem fewest_digs_sat {rows : List Str} {w : Nat} {r : Rule} (hr : RowsOk rows w) (hru : r.ok) (ps : List Pt) (hl : ps.length ≤ 9) (hps : ∀ p ∈ ps, Land rows p) (b : Box) : (f_fewest_digs [.d (islD rows), .d (.tup (ps.map cellD)), .d (ruleD r)] b).sat fun v t => v = .d (.int (least r (cellsOf rows w) ps)) ∧ t.b = b := by
  have h1 : ∀ t : T, fCall f_validate_places [.d (islD rows), .d (.tup (ps.map cellD)), .d (ruleD r)] t = .ok (.d .non) t := fun t => call_eq rfl (validate_places_eq hr hru ps hps t.b)
  have hmk : fMakeG "Digger" f_Digger____init__ [.d (islD rows), .d (ruleD r)] ⟨[], b⟩ = .ok (.loc 0) (DS (cellsOf rows w) r [(keyC [], .d (.int 0))] b) := by
    unfold fMakeG
    simp only [List.length_nil, List.nil_append, digger_init hr]
  have htup : ∀ t : T, fTuple [.d (.tup (ps.map cellD))] t = .ok (.d (.tup (ps.map cellD))) t := fun _ => rfl
  refine run_sat ?_
  unfold m_fewest_digs
  refine seq_sat (N' := fun ρ t => ρ = [some (.d (islD rows)), some (.d (.tup (ps.map cellD))), some (.d (ruleD r))] ∧ t = ⟨[], b⟩) ?_ ?_
  · simp only [w_sSet, w_sRet, w_sDrop, w_sPar, w_sIf, w_sFor, w_sNil, w_m2, w_m1, w_mL, w_mCons, w_mNil, w_mC, mVar_sat, w_mIf, w_mMeth, w_mNot, w_mAnd, w_mOr, w_asB, sat_ok, List.map_cons, List.map_nil, List.cons_append, List.nil_append, List.getElem?_cons_zero, List.getElem?_cons_succ, List.set_cons_zero, List.set_cons_succ, List.length_cons, List.length_nil, Nat.reduceAdd, Nat.reduceSub, List.replicate, Nat.zero_add, h1]
    exact ⟨trivial, trivial⟩
  rintro ρ t ⟨rfl, rfl⟩
  refine seq_sat (N' := fun ρ t => ρ = [some (.d (islD rows)), some (.d (.tup (ps.map cellD))), some (.d (ruleD r))] ∧ t = ⟨[], b⟩) ?_ ?_
  · simp only [w_sSet, w_sRet, w_sDrop, w_sPar, w_sIf, w_sFor, w_sNil, w_m2, w_m1, w_mL, w_mCons, w_mNil, w_mC, mVar_sat, w_mIf, w_mMeth, w_mNot, w_mAnd, w_mOr, w_asB, sat_ok, List.map_cons, List.map_nil, List.cons_append, List.nil_append, List.getElem?_cons_zero, List.getElem?_cons_succ, List.set_cons_zero, List.set_cons_succ, List.length_cons, List.length_nil, Nat.reduceAdd, Nat.reduceSub, List.replicate, Nat.zero_add, lenT, d_MAX_DUG, gt_ok]
    rw [decide_eq_false (by omega), if_neg (by decide), w_sNil]
    exact ⟨rfl, rfl⟩
  rintro ρ t ⟨rfl, rfl⟩
  rw [w_sRet]
  unfold mMethG
  rw [sat_bind, w_mL, w_mCons, mVar_sat]
  show R.sat _ _
  rw [w_mCons, mVar_sat]
  show R.sat _ _
  rw [w_mNil, hmk, sat_ok]
  have hst : (DS (cellsOf rows w) r [(keyC [], .d (.int 0))] b).st[0]? = some (.ins "Digger" (dgF (cellsOf rows w) r)) := rfl
  have hlk : (dgF (cellsOf rows w) r).lookup ("fewest" : Str) = none := by
    unfold dgF
    rw [List.lookup_cons, show (("fewest" : Str) == ("cells_to_dig" : Str)) = false from by decide +kernel]
    show List.lookup _ _ = _
    rw [List.lookup_cons, show (("fewest" : Str) == ("rule" : Str)) = false from by decide +kernel]
    show List.lookup _ _ = _
    rw [List.lookup_cons, show (("fewest" : Str) == ("known" : Str)) = false from by decide +kernel]
    rfl
  simp only [hst, hlk]
  rw [if_pos ⟨trivial, trivial⟩, sat_bind]
  simp only [w_sSet, w_sRet, w_sDrop, w_sPar, w_sIf, w_sFor, w_sNil, w_m2, w_m1, w_mL, w_mCons, w_mNil, w_mC, mVar_sat, w_mIf, w_mMeth, w_mNot, w_mAnd, w_mOr, w_asB, sat_ok, List.map_cons, List.map_nil, List.cons_append, List.nil_append, List.getElem?_cons_zero, List.getElem?_cons_succ, List.set_cons_zero, List.set_cons_succ, List.length_cons, List.length_nil, Nat.reduceAdd, Nat.reduceSub, List.replicate, Nat.zero_add, htup]
  have hroot : lookK [(keyC [], Val.d (.int 0))] (keyC []) = some (.d (.int 0)) := by rw [lookK_cons, if_pos rfl]
  refine sat_mono (fewest_sat (cellsOf rows w) r ps hl 10 ps [(keyC [], .d (.int 0))] b (by omega) (List.Sublist.refl _) ⟨⟨?_, ?_, ?_⟩, hroot⟩) ?_
  · intro k hk
    rw [List.map_cons, List.map_nil, List.mem_singleton] at hk
    exact ⟨[], List.nil_sublist _, hk⟩
  · simp
  · intro qs _
    rw [lookK_cons]
    by_cases e : keyC [] = keyC qs
    · right
      have := keyC_inj e
      subst this
      rw [if_pos rfl]
      rfl
    · left
      show (if keyC [] = keyC qs then _ else _) = _
      rw [if_neg e]
      rfl
  · rintro v t ⟨rfl, kvs', rfl, _, _⟩
    exact ⟨rfl, rfl⟩
theorem alike_cell (c : Pt) (b : Box) : f__law_alike 6 [.d (cellD c), .d (cellD c)] b = .ok (.d (.bl true)) ⟨[], b⟩ :=
  alike_tup 5 [.int c.1, .int c.2] (show 2 ≤ 100000 by decide) (fun d hd b => by
    simp only [List.mem_cons, List.mem_nil_iff, or_false] at hd
    rcases hd with rfl | rfl
    · exact alike_int 4 _ b
    · exact alike_int 4 _ b) b
end K90
set_option Elab.async false
set_option linter.all false
set_option maxRecDepth 100000
set_option maxHeartbeats 4000000
namespace K90
open PySem PySem.Spec PyProof.Rows L2 En
theorem pick_sat {ρ : Rho} {t : T} {cs : List Pt} (h1 : ρ[1]? = some (some .box)) (h5 : ρ[5]? = some (some (.d (.lst (cs.map cellD))))) (hp : 0 < cs.length) (hl : cs.length ≤ 1000) (g : GoodB t.b) : ((m2 fIx (mVar 5) (mL (fDraw drNext) (mCons (mVar 1) (mCons (mL fLenB (mCons (mVar 5) mNil)) mNil)))) ρ t).sat fun v t' => ∃ c ∈ cs, v = .d (cellD c) ∧ t'.st = t.st ∧ GoodB t'.b := by
  rw [w_m2, w_mVar h5]
  simp only [w_mL, w_mCons, w_mC, w_mNil, w_mVar h1, w_mVar h5, lenL, sat_ok]
  refine draw_sat g (by omega) (by omega) fun k b1 hk0 hk1 g1 => ?_
  obtain ⟨q, rfl⟩ := nat_of hk0
  have hq : q < cs.length := by omega
  rw [ix_cellL hq, sat_ok]
  exact ⟨_, List.getElem_mem hq, rfl, rfl, g1⟩
theorem hints8 {r : Rule} {rows : List Str} {cs : List Pt} (hru : r.ok) (hp : 0 < cs.length) (hl : cs.length ≤ 1000) {x0 x2 x3 x6 x8 x9 x10 x11 x12 x13 x14 x15 x16 : Option Val} {st : List Cell} {b : Box} (g : GoodB b) {V : Val → T → Prop} : (sFor (gN 8) (mL fRange1 (mCons (mC (.int 8)) mNil)) (sSeq (sPar 9 10 (mCons (m2 fIx (mVar 5) (mL (fDraw drNext) (mCons (mVar 1) (mCons (mL fLenB (mCons (mVar 5) mNil)) mNil)))) (mCons (m2 fIx (mVar 5) (mL (fDraw drNext) (mCons (mVar 1) (mCons (mL fLenB (mCons (mVar 5) mNil)) mNil)))) mNil)))
           (sIf (mNot (m1 asB (mL (fCall (f__law_alike 6)) (mCons (mL (fCall f_hint) (mCons (mVar 7) (mCons (mVar 9) (mCons (mVar 10) mNil)))) (mCons (mL (fCall f__law_hint) (mCons (mVar 7) (mCons (mVar 9) (mCons (mVar 10) mNil)))) mNil)))))
            (sRet (mC (.bl false)))
            sNil)) [x0, some .box, x2, x3, some (.d (islD rows)), some (.d (.lst (cs.map cellD))), x6, some (.d (ruleD r)), x8, x9, x10, x11, x12, x13, x14, x15, x16, none, none, none, none] ⟨st, b⟩).sat (fun ρ t => ∃ y8 y9 y10, ρ = [x0, some .box, x2, x3, some (.d (islD rows)), some (.d (.lst (cs.map cellD))), x6, some (.d (ruleD r)), y8, y9, y10, x11, x12, x13, x14, x15, x16, none, none, none, none] ∧ t.st = st ∧ GoodB t.b) V := by
  simp only [w_sFor, w_mL, w_mCons, w_mNil, w_mC]
  rw [show ∀ t : T, fRange1 [.d (.int 8)] t = .ok (intsV 0 8) t from fun t => range_ok (n := 8) (by decide) t, sat_ok]
  refine forM_sat (fun _ ρ t => ∃ y8 y9 y10, ρ = [x0, some .box, x2, x3, some (.d (islD rows)), some (.d (.lst (cs.map cellD))), x6, some (.d (ruleD r)), y8, y9, y10, x11, x12, x13, x14, x15, x16, none, none, none, none] ∧ t.st = st ∧ GoodB t.b) (intsV 0 8) _ _ ⟨x8, x9, x10, rfl, rfl, g⟩ ?_ (fun _ _ h => h)
  rintro v vs ρ ⟨st', b'⟩ ⟨y8, y9, y10, rfl, hst, gb⟩
  have hst : st' = st := hst
  subst hst
  refine ⟨_, rfl, ?_⟩
  refine seq_sat (N' := fun ρ t => ∃ c p : Pt, ρ = [x0, some .box, x2, x3, some (.d (islD rows)), some (.d (.lst (cs.map cellD))), x6, some (.d (ruleD r)), some v, some (.d (cellD c)), some (.d (cellD p)), x11, x12, x13, x14, x15, x16, none, none, none, none] ∧ t.st = st' ∧ GoodB t.b) ?_ ?_
  · rw [w_sPar, w_mCons]
    refine sat_mono (pick_sat (cs := cs) rfl rfl hp hl gb) ?_
    rintro _ ⟨s1, b1⟩ ⟨c, hc, rfl, hs1, g1⟩
    rw [w_mCons]
    refine sat_mono (pick_sat (cs := cs) rfl rfl hp hl g1) ?_
    rintro _ ⟨s2, b2⟩ ⟨p, hp, rfl, hs2, g2⟩
    rw [w_mNil]
    exact ⟨c, p, rfl, hs2.trans hs1, g2⟩
  rintro ρ ⟨s1, b1⟩ ⟨c, p, rfl, hs1, g1⟩
  have h1 : ∀ t : T, fCall f_hint [.d (ruleD r), .d (cellD c), .d (cellD p)] t = .ok (.d (.str (told r c p))) t := fun t => call_eq rfl (hint_eq hru c p t.b)
  have h2 : ∀ t : T, fCall f__law_hint [.d (ruleD r), .d (cellD c), .d (cellD p)] t = .ok (.d (.str (told r c p))) t := fun t => call_eq rfl (law_hint_eq r c p t.b)
  have h3 : ∀ t : T, fCall (f__law_alike 6) [.d (.str (told r c p)), .d (.str (told r c p))] t = .ok (.d (.bl true)) t := fun t => call_eq rfl (alike_str 5 (told_ok r c p) t.b)
  simp only [w_sSet, w_sRet, w_sDrop, w_sPar, w_sIf, w_sFor, w_sNil, w_m2, w_m1, w_mL, w_mCons, w_mNil, w_mC, mVar_sat, w_mIf, w_mMeth, w_mNot, w_mAnd, w_mOr, w_asB, sat_ok, List.map_cons, List.map_nil, List.cons_append, List.nil_append, List.getElem?_cons_zero, List.getElem?_cons_succ, List.set_cons_zero, List.set_cons_succ, List.length_cons, List.length_nil, Nat.reduceAdd, Nat.reduceSub, List.replicate, Nat.zero_add, h1, h2, h3, Bool.not_true, Bool.false_eq_true, if_false]
  exact ⟨_, _, _, rfl, hs1, g1⟩
theorem worst_item {r : Rule} {cs : List Pt} {rows : List Str} (c : Pt) (ps : List Pt) (hl : ps.length ≤ 200) {x0 x2 x3 x6 x8 x10 x12 x14 x15 x16 : Option Val} (t : T) : (mL fMax1 (mCons (m2 fAdd (mL fFz (mL fLen (mCons (mC (.int 0)) mNil))) (mL fFz (mLc [18] (gN 18) (m1 fDKeysI (mVar 13)) mYes (mL fLenB (mCons (m2 fDGet (mVar 13) (mVar 18)) mNil))))) mNil)) [x0, some .box, x2, x3, some (.d (islD rows)), some (.d (.lst (cs.map cellD))), x6, some (.d (ruleD r)), x8, some (.d (cellD c)), x10, some (.d (.tup (ps.map cellD))), x12, some (.d (.dK (encGD (partsF r c ps)))), x14, x15, x16, none, none, none, none] t = .ok (.d (.int (worstF r ps c))) t := by
  have hpl := parts_len_le r c ps
  have hcnt2 : (partsF r c ps).length ≤ ps.length := by
    unfold partsL at hpl
    rw [List.length_map] at hpl
    exact hpl
  have hnd := parts_nodup r c ps [] (by simp)
  have hki : ∀ t : T, fDKeysI (.d (.dK (encGD (partsF r c ps)))) t = .ok ((partsF r c ps).map fun p => Val.d (.str p.1)) t := fun t => by
    show R.ok ((encGD (partsF r c ps)).map fun p => Val.d (keyKD p.1)) t = _
    unfold encGD
    rw [List.map_map]
    rfl
  have h2 := lcM_filter (f := gN 18) (tt := mYes) (te := mL fLenB (mCons (m2 fDGet (mVar 13) (mVar 18)) mNil)) (ρ := [x0, some .box, x2, x3, some (.d (islD rows)), some (.d (.lst (cs.map cellD))), x6, some (.d (ruleD r)), x8, some (.d (cellD c)), x10, some (.d (.tup (ps.map cellD))), x12, some (.d (.dK (encGD (partsF r c ps)))), x14, x15, x16, none, none, none, none]) (t := t) (fun (p : Str × List Pt) => Val.d (.str p.1)) (fun _ => true) (fun p => .d (.int (p.2.length : Int))) (partsF r c ps) [] (fun q hq => by
    refine ⟨_, rfl, rfl, fun _ => ?_⟩
    have hg : ∀ t : T, fDGet (.d (.dK (encGD (partsF r c ps)))) (.d (.str q.1)) t = .ok (.d (.tup (q.2.map cellD))) t := fun t => by
      have h0 : dGet? (.d (.dK (encGD (partsF r c ps)))) (.d (.str q.1)) t = some (some (.d (.tup (q.2.map cellD)))) := by
        show some (lookK ((encGD (partsF r c ps)).map fun p => (p.1, Val.d p.2)) (Sum.inr q.1)) = _
        have h1 : ((encGD (partsF r c ps)).map fun p => (p.1, Val.d p.2)) = encG (partsF r c ps) := by
          unfold encGD encG
          rw [List.map_map]
          rfl
        rw [h1, encG_look, show lookK (partsF r c ps) q.1 = some q.2 from mem_look hnd hq]
        rfl
      unfold fDGet
      rw [h0]
    simp only [List.map_cons, List.map_nil, List.length_cons, List.length_nil, List.replicate, List.cons_append, List.nil_append, List.append_nil, sSeq, sIf, sRet, sNil, sSet, sDrop, m2, m1, mL, mCons, mNil, mC, mVar, mIf, List.getElem?_cons_zero, List.getElem?_cons_succ, List.set_cons_zero, List.set_cons_succ, R.bind_ok, R.toS_ok, Nat.reduceAdd, Nat.reduceSub, Nat.zero_add, En.eq_cell, En.asB_ok, En.eq_int, En.lt_ok, En.le_ok, En.sub_ok, En.add_ok, En.abs_ok, En.cell_0, En.cell_1, decide_true, decide_false, Bool.false_eq_true, if_true, if_false, Bool.not_true, Bool.not_false, hg, lenT]) (by rw [List.length_nil]; show _ ≤ 100000; omega)
  have hfl : (partsF r c ps).filter (fun _ => true) = partsF r c ps := List.filter_eq_self.mpr fun _ _ => rfl
  rw [hfl, List.nil_append, show ((partsF r c ps).map fun p => Val.d (.int (p.2.length : Int))) = ((lens (partsL r c ps)).map D.int).map Val.d from by unfold lens partsL; simp [List.map_map, Function.comp_def]] at h2
  have h3 := add_lst (xs := [.int 0]) (ys := (lens (partsL r c ps)).map D.int) (by unfold lens; simp only [List.length_cons, List.length_nil, List.length_map]; show _ ≤ 100000; omega) t
  have h4 := max1_ok 0 (lens (partsL r c ps)) t
  simp only [List.map_cons, List.map_nil, List.length_cons, List.length_nil, List.replicate, List.cons_append, List.nil_append, List.append_nil, sSeq, sIf, sRet, sNil, sSet, sDrop, m2, m1, mL, mCons, mNil, mC, mVar, mIf, List.getElem?_cons_zero, List.getElem?_cons_succ, List.set_cons_zero, List.set_cons_succ, R.bind_ok, R.toS_ok, Nat.reduceAdd, Nat.reduceSub, Nat.zero_add, En.eq_cell, En.asB_ok, En.eq_int, En.lt_ok, En.le_ok, En.sub_ok, En.add_ok, En.abs_ok, En.cell_0, En.cell_1, decide_true, decide_false, Bool.false_eq_true, if_true, if_false, Bool.not_true, Bool.not_false, lst1, fz0_ok, mLc, hki, wipeR]
  rw [h2]
  simp only [List.map_cons, List.map_nil, List.length_cons, List.length_nil, List.replicate, List.cons_append, List.nil_append, List.append_nil, sSeq, sIf, sRet, sNil, sSet, sDrop, m2, m1, mL, mCons, mNil, mC, mVar, mIf, List.getElem?_cons_zero, List.getElem?_cons_succ, List.set_cons_zero, List.set_cons_succ, R.bind_ok, R.toS_ok, Nat.reduceAdd, Nat.reduceSub, Nat.zero_add, En.eq_cell, En.asB_ok, En.eq_int, En.lt_ok, En.le_ok, En.sub_ok, En.add_ok, En.abs_ok, En.cell_0, En.cell_1, decide_true, decide_false, Bool.false_eq_true, if_true, if_false, Bool.not_true, Bool.not_false, fFz, datas_map, h3]
  exact h4
theorem worst_loop {r : Rule} {rows : List Str} {cs : List Pt} (hcl : cs.length ≤ 1000) (ps : List Pt) (hl : ps.length ≤ 200) {x0 x2 x3 x6 x8 x9 x10 x13 x14 x15 x16 : Option Val} (pre : List Cell) (b : Box) : ∃ y9 y13, sFor (gN 9) (m1 fIter (mVar 5)) (sSeq (sSet 13 (mL (fCall f__law_split) (mCons (mVar 7) (mCons (mVar 9) (mCons (mVar 11) mNil)))))
              (sDrop (mMeth isLstB fAppend (mVar 12) (mCons (mL fMax1 (mCons (m2 fAdd (mL fFz (mL fLen (mCons (mC (.int 0)) mNil))) (mL fFz (mLc [18] (gN 18) (m1 fDKeysI (mVar 13)) mYes (mL fLenB (mCons (m2 fDGet (mVar 13) (mVar 18)) mNil))))) mNil)) mNil)))) [x0, some .box, x2, x3, some (.d (islD rows)), some (.d (.lst (cs.map cellD))), x6, some (.d (ruleD r)), x8, x9, x10, some (.d (.tup (ps.map cellD))), some (.loc pre.length), x13, x14, x15, x16, none, none, none, none] ⟨pre ++ [.lst []], b⟩ = .nx [x0, some .box, x2, x3, some (.d (islD rows)), some (.d (.lst (cs.map cellD))), x6, some (.d (ruleD r)), x8, y9, x10, some (.d (.tup (ps.map cellD))), some (.loc pre.length), y13, x14, x15, x16, none, none, none, none] ⟨pre ++ [.lst (((cs.map (worstF r ps)).map D.int).map Val.d)], b⟩ := by
  have hit : ∀ t : T, fIter (.d (.lst (cs.map cellD))) t = .ok (cs.map fun c => Val.d (cellD c)) t := fun t => by
    show R.ok ((cs.map cellD).map Val.d) t = _
    rw [List.map_map]
    rfl
  obtain ⟨ρ', t', e, y9, y13, rfl, rfl⟩ := forM_pre (f := gN 9) (b := (sSeq (sSet 13 (mL (fCall f__law_split) (mCons (mVar 7) (mCons (mVar 9) (mCons (mVar 11) mNil)))))
              (sDrop (mMeth isLstB fAppend (mVar 12) (mCons (mL fMax1 (mCons (m2 fAdd (mL fFz (mL fLen (mCons (mC (.int 0)) mNil))) (mL fFz (mLc [18] (gN 18) (m1 fDKeysI (mVar 13)) mYes (mL fLenB (mCons (m2 fDGet (mVar 13) (mVar 18)) mNil))))) mNil)) mNil))))) (fun c => .d (cellD c)) (fun done ρ t => ∃ y9 y13, ρ = [x0, some .box, x2, x3, some (.d (islD rows)), some (.d (.lst (cs.map cellD))), x6, some (.d (ruleD r)), x8, y9, x10, some (.d (.tup (ps.map cellD))), some (.loc pre.length), y13, x14, x15, x16, none, none, none, none] ∧ t = ⟨pre ++ [.lst (((done.map (worstF r ps)).map D.int).map Val.d)], b⟩) cs (by
    rintro c done post ρ t epr ⟨y9, y13, rfl, rfl⟩
    refine ⟨_, _, _, rfl, ?_, some (.d (cellD c)), some (.d (.dK (encGD (partsF r c ps)))), rfl, rfl⟩
    have hlen : (((done.map (worstF r ps)).map D.int).map Val.d).length < lim := by
      have : done.length ≤ cs.length := by rw [epr, List.length_append]; omega
      simp only [List.length_map]
      show _ < 100000
      omega
    have ha := append_last (pre := pre) (b := b) (us := ((done.map (worstF r ps)).map D.int).map Val.d) (u := .d (.int (worstF r ps c))) hlen
    have hpt : ∀ t : T, fCall f__law_split [.d (ruleD r), .d (cellD c), .d (.tup (ps.map cellD))] t = .ok (.d (.dK (encGD (partsF r c ps)))) t := fun t => by
      obtain ⟨st, e⟩ := split_eq r c ps hl t.b
      exact call_eq' rfl e
    have hw := worst_item (r := r) (cs := cs) (rows := rows) c ps hl (x0 := x0) (x2 := x2) (x3 := x3) (x6 := x6) (x8 := x8) (x10 := x10) (x12 := some (.loc pre.length)) (x14 := x14) (x15 := x15) (x16 := x16) ⟨pre ++ [.lst (((done.map (worstF r ps)).map D.int).map Val.d)], b⟩
    simp only [sSeq, sSet, sDrop, mL, mCons, mNil, mVar, mMeth, List.getElem?_cons_zero, List.getElem?_cons_succ, List.set_cons_zero, List.set_cons_succ, R.bind_ok, R.toS_ok, hpt, isLst_last, if_true] at hw ⊢
    rw [hw]
    simp only [R.bind_ok, R.toS_ok, ha, List.map_append, List.map_cons, List.map_nil]) cs [] [x0, some .box, x2, x3, some (.d (islD rows)), some (.d (.lst (cs.map cellD))), x6, some (.d (ruleD r)), x8, x9, x10, some (.d (.tup (ps.map cellD))), some (.loc pre.length), x13, x14, x15, x16, none, none, none, none] ⟨pre ++ [.lst []], b⟩ rfl ⟨x9, x13, rfl, rfl⟩
  refine ⟨y9, y13, ?_⟩
  unfold sFor
  simp only [m1, mVar, List.getElem?_cons_zero, List.getElem?_cons_succ, R.bind_ok, R.toS_ok, hit]
  exact e
theorem digs_loop {r : Rule} {rows : List Str} {cs : List Pt} {pl : Pt} (hp : 0 < cs.length) (hl : cs.length ≤ 1000) {x0 x2 x3 x6 x8 x9 x11 x12 x13 x14 x16 : Option Val} (pre : List Cell) {b : Box} (g : GoodB b) {V : Val → T → Prop} : (sFor (gN 8) (mL fRange1 (mCons (mC (.int 3)) mNil)) (sSeq (sSet 9 (m2 fIx (mVar 5) (mL (fDraw drNext) (mCons (mVar 1) (mCons (mL fLenB (mCons (mVar 5) mNil)) mNil)))))
                    (sDrop (mMeth isLstB fAppend (mVar 15) (mCons (mL fTup (mCons (mVar 9) (mCons (mL (fCall f__law_hint) (mCons (mVar 7) (mCons (mVar 9) (mCons (mVar 10) mNil)))) mNil))) mNil)))) [x0, some .box, x2, x3, some (.d (islD rows)), some (.d (.lst (cs.map cellD))), x6, some (.d (ruleD r)), x8, x9, some (.d (cellD pl)), x11, x12, x13, x14, some (.loc pre.length), x16, none, none, none, none] ⟨pre ++ [.lst []], b⟩).sat (fun ρ t => ∃ y8 y9 b', ∃ qs : List Pt, ρ = [x0, some .box, x2, x3, some (.d (islD rows)), some (.d (.lst (cs.map cellD))), x6, some (.d (ruleD r)), y8, y9, some (.d (cellD pl)), x11, x12, x13, x14, some (.loc pre.length), x16, none, none, none, none] ∧ t = ⟨pre ++ [.lst ((qs.map fun q => digD (q, told r q pl)).map Val.d)], b'⟩ ∧ GoodB b' ∧ (∀ q ∈ qs, q ∈ cs) ∧ qs.length ≤ 3) V := by
  simp only [w_sFor, w_mL, w_mCons, w_mNil, w_mC]
  rw [show ∀ t : T, fRange1 [.d (.int 3)] t = .ok (intsV 0 3) t from fun t => range_ok (n := 3) (by decide) t, sat_ok]
  refine forM_sat (fun rest ρ t => ∃ y8 y9 b', ∃ qs : List Pt, ρ = [x0, some .box, x2, x3, some (.d (islD rows)), some (.d (.lst (cs.map cellD))), x6, some (.d (ruleD r)), y8, y9, some (.d (cellD pl)), x11, x12, x13, x14, some (.loc pre.length), x16, none, none, none, none] ∧ t = ⟨pre ++ [.lst ((qs.map fun q => digD (q, told r q pl)).map Val.d)], b'⟩ ∧ GoodB b' ∧ (∀ q ∈ qs, q ∈ cs) ∧ qs.length + rest.length ≤ 3) (intsV 0 3) _ _ ⟨x8, x9, b, [], rfl, rfl, g, fun _ h => (by cases h), by rw [intsV_map]; simp⟩ ?_ ?_
  · rintro v vs ρ t ⟨y8, y9, b', qs, rfl, rfl, gb, hq, hlen⟩
    rw [List.length_cons] at hlen
    refine ⟨_, rfl, ?_⟩
    refine seq_sat (N' := fun ρ t => ∃ c ∈ cs, ∃ b2, ρ = [x0, some .box, x2, x3, some (.d (islD rows)), some (.d (.lst (cs.map cellD))), x6, some (.d (ruleD r)), some v, some (.d (cellD c)), some (.d (cellD pl)), x11, x12, x13, x14, some (.loc pre.length), x16, none, none, none, none] ∧ t = ⟨pre ++ [.lst ((qs.map fun q => digD (q, told r q pl)).map Val.d)], b2⟩ ∧ GoodB b2) ?_ ?_
    · rw [w_sSet]
      refine sat_mono (pick_sat (cs := cs) rfl rfl hp hl gb) ?_
      rintro _ ⟨s1, b1⟩ ⟨c, hc, rfl, hs1, g1⟩
      have hs1 : s1 = _ := hs1
      subst hs1
      exact ⟨c, hc, b1, rfl, rfl, g1⟩
    rintro ρ t ⟨c, hc, b2, rfl, rfl, g2⟩
    have h2 : ∀ t : T, fCall f__law_hint [.d (ruleD r), .d (cellD c), .d (cellD pl)] t = .ok (.d (.str (told r c pl))) t := fun t => call_eq rfl (law_hint_eq r c pl t.b)
    have h3 : ∀ t : T, fTup [.d (cellD c), .d (.str (told r c pl))] t = .ok (.d (digD (c, told r c pl))) t := fun _ => rfl
    have ha := append_last (pre := pre) (b := b2) (us := (qs.map fun q => digD (q, told r q pl)).map Val.d) (u := .d (digD (c, told r c pl))) (by rw [List.length_map, List.length_map]; show _ < 100000; omega)
    rw [w_sDrop, w_mMeth, mVar_sat]
    show (if isLstB (.loc pre.length) _ = true then _ else False)
    rw [if_pos isLst_last]
    simp only [w_sSet, w_sRet, w_sDrop, w_sPar, w_sIf, w_sFor, w_sNil, w_m2, w_m1, w_mL, w_mCons, w_mNil, w_mC, mVar_sat, w_mIf, w_mMeth, w_mNot, w_mAnd, w_mOr, w_asB, sat_ok, List.map_cons, List.map_nil, List.cons_append, List.nil_append, List.getElem?_cons_zero, List.getElem?_cons_succ, List.set_cons_zero, List.set_cons_succ, List.length_cons, List.length_nil, Nat.reduceAdd, Nat.reduceSub, List.replicate, Nat.zero_add, h2, h3, ha]
    refine ⟨_, _, b2, qs ++ [c], rfl, by simp, g2, ?_, by rw [List.length_append, List.length_cons, List.length_nil]; omega⟩
    intro q hq'
    rcases List.mem_append.mp hq' with h | h
    · exact hq q h
    · rw [List.mem_singleton.mp h]; exact hc
  · rintro ρ t ⟨y8, y9, b', qs, h1, h2, h3, h4, h5⟩
    exact ⟨y8, y9, b', qs, h1, h2, h3, h4, by simpa using h5⟩
theorem due_eq {r : Rule} {rows : List Str} {cs : List Pt} {ps : List (Int × Int)} (hl : ps.length ≤ 1000) {ds : List ((Int × Int) × Str)} (hds : ∀ d ∈ ds, d.2 ∈ words r) (hdl : ds.length ≤ 5) (t : T) {x0 x2 x3 x6 x8 x9 x10 x11 x12 x13 x16 : Option Val} :
    mLc [19] (gN 19) (m1 fIter (mVar 14)) (m1 asB (m2 fEq (mL fFz (mLc [20] (gN 20) (m1 fIter (mVar 15)) (m1 asB (m2 fNe (mL (fCall f__law_hint) (mCons (mVar 7) (mCons (m2 fIx (mVar 20) (mC (.int 0))) (mCons (mVar 19) mNil)))) (m2 fIx (mVar 20) (mC (.int 1))))) (mVar 20))) (mL fFz (mL fLen mNil)))) (mVar 19) [x0, some .box, x2, x3, some (.d (islD rows)), some (.d (.lst (cs.map cellD))), x6, some (.d (ruleD r)), x8, x9, x10, x11, x12, x13, some (.d (.tup (ps.map cellD))), some (.d (.lst (ds.map digD))), x16, none, none, none, none] t = .ok (((leftF r ps ds).map cellD).map Val.d) t := by
  have hint : ∀ (c p : Int × Int) (t : T), fCall f__law_hint [.d (ruleD r), .d (cellD c), .d (cellD p)] t = .ok (.d (.str (told r c p))) t := fun c p t => call_eq rfl (law_hint_eq r c p t.b)
  have hit15 : ∀ t : T, fIter (.d (.lst (ds.map digD))) t = .ok (ds.map fun p => .d (digD p)) t := fun t => digs_iter ds t
  have d0 : ∀ (d : (Int × Int) × Str) (t : T), fIx (.d (digD d)) (.d (.int 0)) t = .ok (.d (cellD d.1)) t := fun _ _ => rfl
  have d1 : ∀ (d : (Int × Int) × Str) (t : T), fIx (.d (digD d)) (.d (.int 1)) t = .ok (.d (.str d.2)) t := fun _ _ => rfl
  have hin : ∀ (p : Int × Int), lcM (gN 20) (m1 asB (m2 fNe (mL (fCall f__law_hint) (mCons (mVar 7) (mCons (m2 fIx (mVar 20) (mC (.int 0))) (mCons (mVar 19) mNil)))) (m2 fIx (mVar 20) (mC (.int 1))))) (mVar 20) [x0, some .box, x2, x3, some (.d (islD rows)), some (.d (.lst (cs.map cellD))), x6, some (.d (ruleD r)), x8, x9, x10, x11, x12, x13, some (.d (.tup (ps.map cellD))), some (.d (.lst (ds.map digD))), x16, none, none, some (.d (cellD p)), none] (ds.map fun p => .d (digD p)) [] t = .ok ([] ++ (ds.filter fun d => !(told r d.1 p == d.2)).map fun d => .d (digD d)) t := by
    intro p
    refine lcM_filter (fun d => .d (digD d)) (fun d => !(told r d.1 p == d.2)) (fun d => .d (digD d)) ds [] (fun d hd => ?_) ?_
    · refine ⟨_, rfl, ?_, fun _ => ?_⟩
      · simp only [List.map_cons, List.map_nil, List.length_cons, List.length_nil, List.replicate, List.cons_append, List.nil_append, List.append_nil, sSeq, sIf, sRet, sNil, sSet, sDrop, m2, m1, mL, mCons, mNil, mC, mVar, mIf, List.getElem?_cons_zero, List.getElem?_cons_succ, List.set_cons_zero, List.set_cons_succ, R.bind_ok, R.toS_ok, Nat.reduceAdd, Nat.reduceSub, Nat.zero_add, En.eq_cell, En.asB_ok, En.eq_int, En.lt_ok, En.le_ok, En.sub_ok, En.add_ok, En.abs_ok, En.cell_0, En.cell_1, decide_true, decide_false, Bool.false_eq_true, if_true, if_false, Bool.not_true, Bool.not_false, d0, d1, hint, En.ne_str (told_ok r d.1 p) (words_ok r d.2 (hds d hd))]
      · simp only [List.map_cons, List.map_nil, List.length_cons, List.length_nil, List.replicate, List.cons_append, List.nil_append, List.append_nil, sSeq, sIf, sRet, sNil, sSet, sDrop, m2, m1, mL, mCons, mNil, mC, mVar, mIf, List.getElem?_cons_zero, List.getElem?_cons_succ, List.set_cons_zero, List.set_cons_succ, R.bind_ok, R.toS_ok, Nat.reduceAdd, Nat.reduceSub, Nat.zero_add, En.eq_cell, En.asB_ok, En.eq_int, En.lt_ok, En.le_ok, En.sub_ok, En.add_ok, En.abs_ok, En.cell_0, En.cell_1, decide_true, decide_false, Bool.false_eq_true, if_true, if_false, Bool.not_true, Bool.not_false]
    · rw [List.length_nil]
      show _ ≤ 100000
      omega
  rw [mLc_eq]
  simp only [List.map_cons, List.map_nil, List.length_cons, List.length_nil, List.replicate, List.cons_append, List.nil_append, List.append_nil, sSeq, sIf, sRet, sNil, sSet, sDrop, m2, m1, mL, mCons, mNil, mC, mVar, mIf, List.getElem?_cons_zero, List.getElem?_cons_succ, List.set_cons_zero, List.set_cons_succ, R.bind_ok, R.toS_ok, Nat.reduceAdd, Nat.reduceSub, Nat.zero_add, En.eq_cell, En.asB_ok, En.eq_int, En.lt_ok, En.le_ok, En.sub_ok, En.add_ok, En.abs_ok, En.cell_0, En.cell_1, decide_true, decide_false, Bool.false_eq_true, if_true, if_false, Bool.not_true, Bool.not_false, cells_iter, wipeR]
  have e := lcM_filter (f := gN 19) (tt := (m1 asB (m2 fEq (mL fFz (mLc [20] (gN 20) (m1 fIter (mVar 15)) (m1 asB (m2 fNe (mL (fCall f__law_hint) (mCons (mVar 7) (mCons (m2 fIx (mVar 20) (mC (.int 0))) (mCons (mVar 19) mNil)))) (m2 fIx (mVar 20) (mC (.int 1))))) (mVar 20))) (mL fFz (mL fLen mNil))))) (te := mVar 19) (t := t) (ρ := [x0, some .box, x2, x3, some (.d (islD rows)), some (.d (.lst (cs.map cellD))), x6, some (.d (ruleD r)), x8, x9, x10, x11, x12, x13, some (.d (.tup (ps.map cellD))), some (.d (.lst (ds.map digD))), x16, none, none, none, none]) (fun p => .d (cellD p)) (fun p => (ds.filter fun d => !(told r d.1 p == d.2)).isEmpty) (fun p => .d (cellD p)) ps [] (fun p hp => by
    refine ⟨_, rfl, ?_, fun _ => ?_⟩
    · have hfz : ∀ (l : List ((Int × Int) × Str)) (t : T), fFz (l.map fun d => Val.d (digD d)) t = .ok (.d (.lst (l.map digD))) t := fun l t => by
        unfold fFz
        rw [show (l.map fun d => Val.d (digD d)) = (l.map digD).map Val.d from by simp, datas_map]
      have heq : ∀ t : T, fEq (.d (.lst ((ds.filter fun d => !(told r d.1 p == d.2)).map digD))) (.d (.lst [])) t = .ok (.d (.bl (ds.filter fun d => !(told r d.1 p == d.2)).isEmpty)) t := fun t => eq_digs0 (fun d hd => words_ok r d.2 (hds d (List.mem_filter.mp hd).1)) t
      simp only [List.map_cons, List.map_nil, List.length_cons, List.length_nil, List.replicate, List.cons_append, List.nil_append, List.append_nil, sSeq, sIf, sRet, sNil, sSet, sDrop, m2, m1, mL, mCons, mNil, mC, mVar, mIf, List.getElem?_cons_zero, List.getElem?_cons_succ, List.set_cons_zero, List.set_cons_succ, R.bind_ok, R.toS_ok, Nat.reduceAdd, Nat.reduceSub, Nat.zero_add, En.eq_cell, En.asB_ok, En.eq_int, En.lt_ok, En.le_ok, En.sub_ok, En.add_ok, En.abs_ok, En.cell_0, En.cell_1, decide_true, decide_false, Bool.false_eq_true, if_true, if_false, Bool.not_true, Bool.not_false, mLc, hit15, wipeR, hin, hfz, f0, f1, heq]
    · simp only [List.map_cons, List.map_nil, List.length_cons, List.length_nil, List.replicate, List.cons_append, List.nil_append, List.append_nil, sSeq, sIf, sRet, sNil, sSet, sDrop, m2, m1, mL, mCons, mNil, mC, mVar, mIf, List.getElem?_cons_zero, List.getElem?_cons_succ, List.set_cons_zero, List.set_cons_succ, R.bind_ok, R.toS_ok, Nat.reduceAdd, Nat.reduceSub, Nat.zero_add, En.eq_cell, En.asB_ok, En.eq_int, En.lt_ok, En.le_ok, En.sub_ok, En.add_ok, En.abs_ok, En.cell_0, En.cell_1, decide_true, decide_false, Bool.false_eq_true, if_true, if_false, Bool.not_true, Bool.not_false]) (by rw [List.length_nil]; show _ ≤ 100000; omega)
  rw [e, due_left]
  simp
theorem low_sat {ρ : Rho} (h1 : ρ[1]? = some (some .box)) (hlen : 9 < ρ.length) (cs : List Pt) (hl : cs.length ≤ 1000) (st : List Cell) {b : Box} (g : GoodB b) : (lcM (gN 9) (m1 asB (m2 fGt (m2 fIx (mVar 9) (mC (.int 0))) (m2 fAdd (mC (.int 7)) (mL (fDraw drNext) (mCons (mVar 1) (mCons (mC (.int 3)) mNil)))))) (mVar 9) ρ (cs.map fun c => Val.d (cellD c)) [] ⟨st, b⟩).sat fun us t => ∃ low : List Pt, us = (low.map cellD).map Val.d ∧ (∀ p ∈ low, p ∈ cs) ∧ low.length ≤ cs.length ∧ t.st = st ∧ GoodB t.b := by
  refine lcM_sat (fun rest acc t => ∃ low : List Pt, acc = (low.map cellD).map Val.d ∧ (∀ p ∈ low, p ∈ cs) ∧ (∃ rs : List Pt, rest = rs.map (fun c => Val.d (cellD c)) ∧ (∀ p ∈ rs, p ∈ cs) ∧ low.length + rs.length ≤ cs.length) ∧ t.st = st ∧ GoodB t.b) _ [] ⟨st, b⟩ ⟨[], rfl, fun _ h => (by cases h), ⟨cs, rfl, fun _ h => h, by simp⟩, rfl, g⟩ ?_ ?_
  · rintro v vs acc ⟨s1, b1⟩ ⟨low, rfl, hlow, ⟨rs, hrs, hrm, hrl⟩, hst, gb⟩
    have hst : s1 = st := hst
    subst hst
    cases rs with
    | nil => cases hrs
    | cons c rs =>
      rw [List.map_cons, List.cons.injEq] at hrs
      obtain ⟨rfl, rfl⟩ := hrs
      rw [List.length_cons] at hrl
      refine ⟨_, rfl, ?_⟩
      have h9 : (ρ.set 9 (some (.d (cellD c))))[9]? = some (some (.d (cellD c))) := by rw [List.getElem?_set_self hlen]
      have h1' : (ρ.set 9 (some (.d (cellD c))))[1]? = some (some .box) := by rw [List.getElem?_set_ne (by decide)]; exact h1
      rw [w_m1, w_m2, w_m2, w_mVar h9, w_mC, cell_0, sat_ok, w_m2, w_mC, w_mL, w_mCons, w_mVar h1', w_mCons, w_mC, w_mNil]
      refine draw_sat gb (by decide) (by decide) fun k b2 hk0 hk1 g2 => ?_
      rw [add_ok, sat_ok, gt_ok, sat_ok, w_asB]
      by_cases hc : (7 + k : Int) < c.1
      · rw [decide_eq_true hc, if_pos rfl, w_mVar h9]
        refine ⟨by rw [List.length_map, List.length_map]; show _ < 100000; omega, low ++ [c], by simp, fun p hp => ?_, ⟨rs, rfl, fun p hp => hrm p (List.mem_cons_of_mem _ hp), by rw [List.length_append, List.length_cons, List.length_nil]; omega⟩, rfl, g2⟩
        rcases List.mem_append.mp hp with h | h
        · exact hlow p h
        · rw [List.mem_singleton.mp h]; exact hrm c (List.mem_cons_self ..)
      · rw [decide_eq_false hc, if_neg (by decide)]
        exact ⟨low, rfl, hlow, ⟨rs, rfl, fun p hp => hrm p (List.mem_cons_of_mem _ hp), by omega⟩, rfl, g2⟩
  · rintro acc t ⟨low, rfl, hlow, ⟨rs, hrs, _, hrl⟩, hst, gb⟩
    exact ⟨low, rfl, hlow, by omega, hst, gb⟩
theorem pairsI_cells : ∀ ps : List Pt, (∀ p ∈ ps, okP p = true) → pairsI (ps.map cellD) = some ps
  | [], _ => rfl
  | p :: ps, h => by
    have h1 : pairI (cellD p) = some p := by
      show (if okP (p.1, p.2) = true then some (p.1, p.2) else none) = _
      rw [if_pos (h p (List.mem_cons_self ..))]
    rw [List.map_cons, pairsI, h1, pairsI_cells ps fun q hq => h q (List.mem_cons_of_mem _ hq)]
theorem insP_len (p : Pt) : ∀ l : List Pt, (insP p l).length ≤ l.length + 1
  | [] => Nat.le_refl _
  | q :: r => by
    unfold insP
    split
    · exact Nat.le_refl _
    · split
      · exact Nat.le_succ _
      · rw [List.length_cons, List.length_cons]
        have := insP_len p r
        omega
theorem sortP_len : ∀ ps : List Pt, (sortP ps).length ≤ ps.length
  | [] => Nat.le_refl _
  | p :: ps => by
    have h1 := insP_len p (sortP ps)
    have h2 := sortP_len ps
    show (insP p (sortP ps)).length ≤ _
    rw [List.length_cons]
    omega
theorem sortSet_eq (ps : List Pt) (h : ∀ p ∈ ps, okP p = true) (hl : ps.length < 64) (t : T) : fSortSet [.d (.tup (ps.map cellD))] t = .ok (.d (.lst ((sortP ps).map cellD))) t := by
  show (match pairsI (ps.map cellD) with | some ps => if ps.length < 64 then R.ok (Val.d (.lst ((sortP ps).map pairD))) t else .stuck | none => .stuck) = _
  rw [pairsI_cells ps h]
  show (if ps.length < 64 then _ else _) = _
  rw [if_pos hl]
  rfl
theorem cells_okP {rows : List Str} {w : Nat} (hr : RowsOk rows w) {p : Pt} (h : p ∈ cellsOf rows w) : okP p = true := by
  obtain ⟨a, c, h1, h2, _, rfl⟩ := cellsOf_mem.mp h
  have h3 := hr.len
  have h4 := hr.w2
  unfold okP
  simp only [Bool.and_eq_true, decide_eq_true_eq]
  omega
end K90
set_option Elab.async false
set_option linter.all false
set_option maxRecDepth 100000
set_option maxHeartbeats 4000000
namespace K90
open PySem PySem.Spec PyProof.Rows L2 En
theorem law_sat (ns : List Int) (hn : ns.length ≤ 63) : (f_law [.d (.scr ns)] box0).sat fun v _ => v = .d (.bl true) := by
  refine run_sat ?_
  unfold m_law
  refine seq_sat (N' := fun ρ t => ρ = [some (.d (.scr ns)), some .box, none, none, none, none, none, none, none, none, none, none, none, none, none, none, none, none, none, none, none] ∧ t.st = [] ∧ GoodB t.b) ?_ ?_
  · simp only [w_sSet, w_sRet, w_sDrop, w_sPar, w_sIf, w_sFor, w_sNil, w_m2, w_m1, w_mL, w_mCons, w_mNil, w_mC, mVar_sat, w_mIf, w_mMeth, w_mNot, w_mAnd, w_mOr, w_asB, sat_ok, List.map_cons, List.map_nil, List.cons_append, List.nil_append, List.getElem?_cons_zero, List.getElem?_cons_succ, List.set_cons_zero, List.set_cons_succ, List.length_cons, List.length_nil, Nat.reduceAdd, Nat.reduceSub, List.replicate, Nat.zero_add]
    refine ⟨.box, ⟨[], ⟨true, false, mixSt ns 90, ns, 0⟩⟩, ?_, rfl, rfl, ⟨rfl, rfl, Nat.le_trans hn (by decide)⟩⟩
    unfold fBegun bg_law_mix
    simp only [if_pos (show ns.length ≤ 1000 by omega)]
    rfl
  rintro ρ ⟨st, b0⟩ ⟨rfl, hst, g0⟩
  cases hst
  have g0 : GoodB b0 := g0
  refine seq_sat (N' := fun ρ t => ρ = [some (.d (.scr ns)), some .box, some (.loc 0), none, none, none, none, none, none, none, none, none, none, none, none, none, none, none, none, none, none] ∧ t = ⟨[.lst []], b0⟩) ?_ ?_
  · simp only [w_sSet, w_sRet, w_sDrop, w_sPar, w_sIf, w_sFor, w_sNil, w_m2, w_m1, w_mL, w_mCons, w_mNil, w_mC, mVar_sat, w_mIf, w_mMeth, w_mNot, w_mAnd, w_mOr, w_asB, sat_ok, List.map_cons, List.map_nil, List.cons_append, List.nil_append, List.getElem?_cons_zero, List.getElem?_cons_succ, List.set_cons_zero, List.set_cons_succ, List.length_cons, List.length_nil, Nat.reduceAdd, Nat.reduceSub, List.replicate, Nat.zero_add]
    exact ⟨_, _, rfl, _, _, rfl, rfl, rfl⟩
  rintro ρ t ⟨rfl, rfl⟩
  refine seq_sat (rows_loop g0) ?_
  rintro ρ t ⟨rows0, b1, x3, rfl, rfl, g1, hrow, hlen⟩
  obtain ⟨rows, hr, hland, efix⟩ := rows_fix (x0 := some (.d (.scr ns))) (o3 := x3) (b := b1) hrow hlen
  refine seq_sat (N' := fun ρ t => ρ = [some (.d (.scr ns)), some .box, some (.loc 0), x3, none, none, none, none, none, none, none, none, none, none, none, none, none, none, none, none, none] ∧ t = ⟨[.lst ((rows.map D.str).map Val.d)], b1⟩) ?_ ?_
  · rw [efix]
    exact ⟨rfl, rfl⟩
  rintro ρ t ⟨rfl, rfl⟩
  have hfz : fFreeze (.loc 0) ⟨[.lst ((rows.map D.str).map Val.d)], b1⟩ = .ok (.d (.lst (rows.map D.str))) ⟨[.dead], b1⟩ := by
    have := dead_at (pre := []) (vs := (rows.map D.str).map Val.d) (b := b1)
    rw [datas_map] at this
    exact this
  rw [w_sFz rfl hfz]
  have htup : ∀ (ds : List D) (t : T), fTuple [.d (.lst ds)] t = .ok (.d (.tup ds)) t := fun ds t => by
    show (match datas (ds.map Val.d) with | some ds => _ | none => _) = _
    rw [datas_map]
  have hcells : ∀ t : T, fCall f__law_cells [.d (.lst (rows.map D.str))] t = .ok (.d (.lst ((cellsOf rows 12).map cellD))) t := fun t => call_eq rfl (cells_eq hr t.b)
  have hclen := cellsOf_len hr
  have hcpos := cellsOf_ne hr hland
  have hcland : ∀ p ∈ cellsOf rows 12, Land rows p := fun p hp => cellsOf_land hr hp
  refine seq_sat (N' := fun ρ t => ρ = [some (.d (.scr ns)), some .box, some (.d (.lst (rows.map D.str))), x3, some (.d (islD rows)), some (.d (.lst ((cellsOf rows 12).map cellD))), none, none, none, none, none, none, none, none, none, none, none, none, none, none, none] ∧ t = ⟨[.dead], b1⟩) ?_ ?_
  · simp only [w_sSet, w_sRet, w_sDrop, w_sPar, w_sIf, w_sFor, w_sNil, w_m2, w_m1, w_mL, w_mCons, w_mNil, w_mC, mVar_sat, w_mIf, w_mMeth, w_mNot, w_mAnd, w_mOr, w_asB, sat_ok, List.map_cons, List.map_nil, List.cons_append, List.nil_append, List.getElem?_cons_zero, List.getElem?_cons_succ, List.set_cons_zero, List.set_cons_succ, List.length_cons, List.length_nil, Nat.reduceAdd, Nat.reduceSub, List.replicate, Nat.zero_add, htup, make_eq hr, hcells]
    exact ⟨trivial, trivial⟩
  rintro ρ t ⟨rfl, rfl⟩
  refine seq_sat (N' := fun ρ t => ∃ (low : List Pt) (b : Box), (∀ p ∈ low, p ∈ cellsOf rows 12) ∧ low.length ≤ 1000 ∧ ρ = [some (.d (.scr ns)), some .box, some (.d (.lst (rows.map D.str))), x3, some (.d (islD rows)), some (.d (.lst ((cellsOf rows 12).map cellD))), some (.d (.lst (low.map cellD))), none, none, none, none, none, none, none, none, none, none, none, none, none, none] ∧ t = ⟨[.dead], b⟩ ∧ GoodB b) ?_ ?_
  · rw [w_sSet, w_mL]
    unfold mLc
    rw [sat_bind, w_m1, mVar_sat]
    show R.sat _ _
    have hit : ∀ t : T, fIter (.d (.lst ((cellsOf rows 12).map cellD))) t = .ok ((cellsOf rows 12).map fun c => Val.d (cellD c)) t := fun t => by
      show R.ok (((cellsOf rows 12).map cellD).map Val.d) t = _
      rw [List.map_map]
      rfl
    rw [hit, sat_ok]
    refine sat_mono (low_sat (cs := cellsOf rows 12) rfl (by simp [wipeR]) (by omega) [.dead] g1) ?_
    rintro us ⟨s1, b2⟩ ⟨low, rfl, hlow, hll, hst, g2⟩
    have hst : s1 = _ := hst
    subst hst
    refine ⟨.d (.lst (low.map cellD)), _, ?_, low, b2, hlow, by omega, rfl, rfl, g2⟩
    show fFz _ _ = _
    unfold fFz
    rw [datas_map]
  rintro ρ t ⟨low, b2, hlow, hll, rfl, rfl, g2⟩
  refine seq_sat (N' := fun _ _ => True) ?_ ?_
  rotate_left
  · intro ρ t _
    simp only [w_sSet, w_sRet, w_sDrop, w_sPar, w_sIf, w_sFor, w_sNil, w_m2, w_m1, w_mL, w_mCons, w_mNil, w_mC, mVar_sat, w_mIf, w_mMeth, w_mNot, w_mAnd, w_mOr, w_asB, sat_ok, List.map_cons, List.map_nil, List.cons_append, List.nil_append, List.getElem?_cons_zero, List.getElem?_cons_succ, List.set_cons_zero, List.set_cons_succ, List.length_cons, List.length_nil, Nat.reduceAdd, Nat.reduceSub, List.replicate, Nat.zero_add]
  rw [w_sFor, w_m1]
  simp only [w_sSet, w_sRet, w_sDrop, w_sPar, w_sIf, w_sFor, w_sNil, w_m2, w_m1, w_mL, w_mCons, w_mNil, w_mC, mVar_sat, w_mIf, w_mMeth, w_mNot, w_mAnd, w_mOr, w_asB, sat_ok, List.map_cons, List.map_nil, List.cons_append, List.nil_append, List.getElem?_cons_zero, List.getElem?_cons_succ, List.set_cons_zero, List.set_cons_succ, List.length_cons, List.length_nil, Nat.reduceAdd, Nat.reduceSub, List.replicate, Nat.zero_add]
  refine ⟨.d (ruleD .plain), _, rfl, ?_⟩
  refine ⟨.d (ruleD .rows), _, rfl, ?_⟩
  refine draw_sat g2 (by decide) (by decide) fun k b3 hk0 hk1 g3 => ?_
  rw [add_ok, sat_ok]
  refine ⟨.d (ruleD (.near (1 + k))), _, rfl, ?_⟩
  refine ⟨.d (.tup [ruleD .plain, ruleD .rows, ruleD (.near (1 + k))]), _, rfl, ?_⟩
  refine ⟨[.d (ruleD .plain), .d (ruleD .rows), .d (ruleD (.near (1 + k)))], _, rfl, ?_⟩
  refine forM_sat (fun rest ρ t => (∀ v ∈ rest, ∃ r : Rule, v = .d (ruleD r) ∧ r.ok) ∧ (∃ x7 x8 x9 x10 x11 x12 x13 x14 x15 x16, ρ = [some (.d (.scr ns)), some .box, some (.d (.lst (rows.map D.str))), x3, some (.d (islD rows)), some (.d (.lst ((cellsOf rows 12).map cellD))), some (.d (.lst (low.map cellD))), x7, x8, x9, x10, x11, x12, x13, x14, x15, x16, none, none, none, none]) ∧ GoodB t.b) _ _ _ ⟨?_, ⟨_, _, _, _, _, _, _, _, _, _, rfl⟩, g3⟩ ?_ (fun _ _ _ => trivial)
  · intro v hv
    simp only [List.mem_cons, List.mem_nil_iff, or_false] at hv
    rcases hv with rfl | rfl | rfl
    · exact ⟨.plain, rfl, trivial⟩
    · exact ⟨.rows, rfl, trivial⟩
    · exact ⟨.near (1 + k), rfl, ⟨by omega, by omega⟩⟩
  clear g3 g2 g1 g0
  rintro v vs ρ ⟨P0, b4⟩ ⟨hrest, ⟨x7, x8, x9, x10, x11, x12, x13, x14, x15, x16, rfl⟩, g4⟩
  obtain ⟨r, rfl, hru⟩ := hrest v (List.mem_cons_self ..)
  have hrest' : ∀ v ∈ vs, ∃ r : Rule, v = .d (ruleD r) ∧ r.ok := fun v hv => hrest v (List.mem_cons_of_mem _ hv)
  refine ⟨_, rfl, ?_⟩
  refine seq_sat (hints8 (rows := rows) (cs := cellsOf rows 12) hru hcpos (by omega) (b := b4) g4) ?_
  rintro ρ ⟨P1, b5⟩ ⟨y8, y9, y10, rfl, _, g5⟩
  have g5 : GoodB b5 := g5
  refine seq_sat (N' := fun ρ t => ∃ (ps : List Pt) (b : Box), (∀ p ∈ ps, p ∈ cellsOf rows 12) ∧ ps.length ≤ 3 ∧ GoodB b ∧ ρ = [some (.d (.scr ns)), some .box, some (.d (.lst (rows.map D.str))), x3, some (.d (islD rows)), some (.d (.lst ((cellsOf rows 12).map cellD))), some (.d (.lst (low.map cellD))), some (.d (ruleD r)), y8, y9, y10, some (.d (.tup (ps.map cellD))), x12, x13, x14, x15, x16, none, none, none, none] ∧ t = ⟨P1, b⟩) ?_ ?_
  · rw [w_sSet, w_mL, w_mCons, mVar_sat]
    show R.sat _ _
    rw [w_mCons, w_m2]
    refine ⟨.d (.lst [.lst (low.map cellD), .lst ((cellsOf rows 12).map cellD)]), _, rfl, ?_⟩
    simp only [w_mL, w_mCons, w_mC, w_mNil, mVar_sat, List.getElem?_cons_zero, List.getElem?_cons_succ]
    refine draw_sat g5 (by decide) (by decide) fun j b6 hj0 hj1 g6 => ?_
    have key : ∀ src : List Pt, (∀ p ∈ src, p ∈ cellsOf rows 12) → src.length ≤ 1000 → (fCall f__law_some [.box, .d (.lst (src.map cellD)), .d (.int 3)] ⟨P1, b6⟩).sat fun v t => ∃ (ps : List Pt) (b : Box), (∀ p ∈ ps, p ∈ cellsOf rows 12) ∧ ps.length ≤ 3 ∧ GoodB b ∧ v = .d (.tup (ps.map cellD)) ∧ t = ⟨P1, b⟩ := by
      intro src hs hl
      refine call_sat rfl (sat_mono (some_sat (m := 3) g6 src hl (by decide)) ?_)
      rintro x t2 ⟨ps, rfl, hp, hpl, g7⟩
      exact ⟨_, rfl, g7.on.trans g6.on.symm, ps, t2.b, fun p h => hs p (hp p h), hpl, g7, rfl, rfl⟩
    have hj : j = 0 ∨ j = 1 := by omega
    rcases hj with rfl | rfl
    · refine ⟨.d (.lst (low.map cellD)), _, rfl, ?_⟩
      refine sat_mono (key low hlow hll) ?_
      rintro _ _ ⟨ps, b, h1, h2, h3, rfl, rfl⟩
      exact ⟨ps, b, h1, h2, h3, rfl, rfl⟩
    · refine ⟨.d (.lst ((cellsOf rows 12).map cellD)), _, rfl, ?_⟩
      refine sat_mono (key (cellsOf rows 12) (fun _ h => h) (by omega)) ?_
      rintro _ _ ⟨ps, b, h1, h2, h3, rfl, rfl⟩
      exact ⟨ps, b, h1, h2, h3, rfl, rfl⟩
  rintro ρ t ⟨ps, b6, hps, hpl, g6, rfl, rfl⟩
  have hpland : ∀ p ∈ ps, Land rows p := fun p hp => hcland p (hps p hp)
  refine seq_sat (N' := fun ρ t => ρ = [some (.d (.scr ns)), some .box, some (.d (.lst (rows.map D.str))), x3, some (.d (islD rows)), some (.d (.lst ((cellsOf rows 12).map cellD))), some (.d (.lst (low.map cellD))), some (.d (ruleD r)), y8, y9, y10, some (.d (.tup (ps.map cellD))), some (.loc P1.length), x13, x14, x15, x16, none, none, none, none] ∧ t = ⟨P1 ++ [.lst []], b6⟩) ?_ ?_
  · simp only [w_sSet, w_sRet, w_sDrop, w_sPar, w_sIf, w_sFor, w_sNil, w_m2, w_m1, w_mL, w_mCons, w_mNil, w_mC, mVar_sat, w_mIf, w_mMeth, w_mNot, w_mAnd, w_mOr, w_asB, sat_ok, List.map_cons, List.map_nil, List.cons_append, List.nil_append, List.getElem?_cons_zero, List.getElem?_cons_succ, List.set_cons_zero, List.set_cons_succ, List.length_cons, List.length_nil, Nat.reduceAdd, Nat.reduceSub, List.replicate, Nat.zero_add]
    exact ⟨_, _, rfl, _, _, rfl, rfl, rfl⟩
  rintro ρ t ⟨rfl, rfl⟩
  obtain ⟨z9, z13, ew⟩ := worst_loop (r := r) (rows := rows) (cs := cellsOf rows 12) (by omega) ps (by omega) (x0 := some (.d (.scr ns))) (x2 := some (.d (.lst (rows.map D.str)))) (x3 := x3) (x6 := some (.d (.lst (low.map cellD)))) (x8 := y8) (x9 := y9) (x10 := y10) (x13 := x13) (x14 := x14) (x15 := x15) (x16 := x16) P1 b6
  refine seq_sat (N' := fun ρ t => ρ = [some (.d (.scr ns)), some .box, some (.d (.lst (rows.map D.str))), x3, some (.d (islD rows)), some (.d (.lst ((cellsOf rows 12).map cellD))), some (.d (.lst (low.map cellD))), some (.d (ruleD r)), y8, z9, y10, some (.d (.tup (ps.map cellD))), some (.loc P1.length), z13, x14, x15, x16, none, none, none, none] ∧ t = ⟨P1 ++ [.lst ((((cellsOf rows 12).map (worstF r ps)).map D.int).map Val.d)], b6⟩) ?_ ?_
  · rw [ew]
    exact ⟨rfl, rfl⟩
  rintro ρ t ⟨rfl, rfl⟩
  have hfz2 : fFreeze (.loc P1.length) ⟨P1 ++ [.lst ((((cellsOf rows 12).map (worstF r ps)).map D.int).map Val.d)], b6⟩ = .ok (.d (.lst (((cellsOf rows 12).map (worstF r ps)).map D.int))) ⟨P1 ++ [.dead], b6⟩ := by
    have := dead_at (pre := P1) (vs := (((cellsOf rows 12).map (worstF r ps)).map D.int).map Val.d) (b := b6)
    rw [datas_map] at this
    exact this
  rw [w_sFz rfl hfz2]
  generalize P1 ++ [Cell.dead] = P2
  obtain ⟨m, q, j, e1, e2, e3, hj, e4⟩ := argmin_index (worstF r ps) (cellsOf rows 12) hcpos
  have hnd : ∀ t : T, fCall f_next_dig [.d (islD rows), .d (.tup (ps.map cellD)), .d (ruleD r)] t = .ok (.d (cellD q)) t := fun t => call_eq rfl (by
    rw [next_dig_eq hr hru ps (by omega) hpland, e1]
    rfl)
  have hmin : ∀ t : T, fMin1 [.d (.lst (((cellsOf rows 12).map (worstF r ps)).map D.int))] t = .ok (.d (.int m)) t := fun t => by
    cases hcs : cellsOf rows 12 with
    | nil => rw [hcs] at hcpos; simp at hcpos
    | cons c0 cs0 =>
      rw [List.map_cons, min1_ok, ← List.map_cons, ← hcs, e2]
  have hal : ∀ t : T, fCall (f__law_alike 6) [.d (cellD q), .d (cellD q)] t = .ok (.d (.bl true)) t := fun t => call_eq rfl (alike_cell q t.b)
  refine seq_sat (N' := fun ρ t => ρ = [some (.d (.scr ns)), some .box, some (.d (.lst (rows.map D.str))), x3, some (.d (islD rows)), some (.d (.lst ((cellsOf rows 12).map cellD))), some (.d (.lst (low.map cellD))), some (.d (ruleD r)), y8, z9, y10, some (.d (.tup (ps.map cellD))), some (.d (.lst (((cellsOf rows 12).map (worstF r ps)).map D.int))), z13, x14, x15, x16, none, none, none, none] ∧ t = ⟨P2, b6⟩) ?_ ?_
  · simp only [w_sSet, w_sRet, w_sDrop, w_sPar, w_sIf, w_sFor, w_sNil, w_m2, w_m1, w_mL, w_mCons, w_mNil, w_mC, mVar_sat, w_mIf, w_mMeth, w_mNot, w_mAnd, w_mOr, w_asB, sat_ok, List.map_cons, List.map_nil, List.cons_append, List.nil_append, List.getElem?_cons_zero, List.getElem?_cons_succ, List.set_cons_zero, List.set_cons_succ, List.length_cons, List.length_nil, Nat.reduceAdd, Nat.reduceSub, List.replicate, Nat.zero_add, hnd]
    rw [if_pos (show isLstB (.d (.lst (((cellsOf rows 12).map (worstF r ps)).map D.int))) ⟨P2, b6⟩ = true from rfl)]
    simp only [w_sSet, w_sRet, w_sDrop, w_sPar, w_sIf, w_sFor, w_sNil, w_m2, w_m1, w_mL, w_mCons, w_mNil, w_mC, mVar_sat, w_mIf, w_mMeth, w_mNot, w_mAnd, w_mOr, w_asB, sat_ok, List.map_cons, List.map_nil, List.cons_append, List.nil_append, List.getElem?_cons_zero, List.getElem?_cons_succ, List.set_cons_zero, List.set_cons_succ, List.length_cons, List.length_nil, Nat.reduceAdd, Nat.reduceSub, List.replicate, Nat.zero_add, hmin, index_ok e3, ix_cellL hj, e4, hal, Bool.not_true, Bool.false_eq_true, if_false]
    exact ⟨trivial, trivial⟩
  rintro ρ t ⟨rfl, rfl⟩
  refine seq_sat (N' := fun ρ t => ρ = [some (.d (.scr ns)), some .box, some (.d (.lst (rows.map D.str))), x3, some (.d (islD rows)), some (.d (.lst ((cellsOf rows 12).map cellD))), some (.d (.lst (low.map cellD))), some (.d (ruleD r)), y8, z9, y10, some (.d (.tup (ps.map cellD))), some (.d (.lst (((cellsOf rows 12).map (worstF r ps)).map D.int))), z13, x14, x15, x16, none, none, none, none] ∧ ∃ P3, t = ⟨P3, b6⟩) ?_ ?_
  · rw [w_sIf, w_mNot, w_m1, w_mL, w_mCons]
    simp only [w_sSet, w_sRet, w_sDrop, w_sPar, w_sIf, w_sFor, w_sNil, w_m2, w_m1, w_mL, w_mCons, w_mNil, w_mC, mVar_sat, w_mIf, w_mMeth, w_mNot, w_mAnd, w_mOr, w_asB, sat_ok, List.map_cons, List.map_nil, List.cons_append, List.nil_append, List.getElem?_cons_zero, List.getElem?_cons_succ, List.set_cons_zero, List.set_cons_succ, List.length_cons, List.length_nil, Nat.reduceAdd, Nat.reduceSub, List.replicate, Nat.zero_add]
    refine call_sat rfl (sat_mono (fewest_digs_sat hr hru ps (by omega) hpland b6) ?_)
    rintro x t3 ⟨rfl, hb3⟩
    refine ⟨_, rfl, by rw [hb3], ?_⟩
    rw [hb3]
    have hd0 : ∀ (ρ : Rho) (t : T), mDNewT ρ t = .ok (.loc t.st.length) { t with st := t.st ++ [.dT []] } := fun _ _ => rfl
    simp only [hd0, sat_ok]
    refine sat_mono (least_sat (cellsOf rows 12) r ps (by omega) hps P2 10 ps [] b6 (by omega) (List.Sublist.refl _) ⟨fun k hk => (by cases hk), by simp, fun qs _ => .inl rfl⟩) ?_
    rintro x t4 ⟨rfl, kv, rfl, _, _⟩
    have hal2 : ∀ (i : Int) (t : T), fCall (f__law_alike 6) [.d (.int i), .d (.int i)] t = .ok (.d (.bl true)) t := fun i t => call_eq rfl (alike_int 5 i t.b)
    simp only [hal2, w_sSet, w_sRet, w_sDrop, w_sPar, w_sIf, w_sFor, w_sNil, w_m2, w_m1, w_mL, w_mCons, w_mNil, w_mC, mVar_sat, w_mIf, w_mMeth, w_mNot, w_mAnd, w_mOr, w_asB, sat_ok, List.map_cons, List.map_nil, List.cons_append, List.nil_append, List.getElem?_cons_zero, List.getElem?_cons_succ, List.set_cons_zero, List.set_cons_succ, List.length_cons, List.length_nil, Nat.reduceAdd, Nat.reduceSub, List.replicate, Nat.zero_add, Bool.not_true, Bool.false_eq_true, if_false]
    exact ⟨trivial, _, rfl⟩
  rintro ρ t ⟨rfl, P3, rfl⟩
  refine seq_sat (N' := fun ρ t => ∃ pl ∈ cellsOf rows 12, ∃ b, ρ = [some (.d (.scr ns)), some .box, some (.d (.lst (rows.map D.str))), x3, some (.d (islD rows)), some (.d (.lst ((cellsOf rows 12).map cellD))), some (.d (.lst (low.map cellD))), some (.d (ruleD r)), y8, z9, some (.d (cellD pl)), some (.d (.tup (ps.map cellD))), some (.d (.lst (((cellsOf rows 12).map (worstF r ps)).map D.int))), z13, x14, x15, x16, none, none, none, none] ∧ t = ⟨P3, b⟩ ∧ GoodB b) ?_ ?_
  · rw [w_sSet]
    refine sat_mono (pick_sat (cs := cellsOf rows 12) rfl rfl hcpos (by omega) g6) ?_
    rintro _ ⟨s1, b7⟩ ⟨c, hc, rfl, hs1, g7⟩
    have hs1 : s1 = _ := hs1
    subst hs1
    exact ⟨c, hc, b7, rfl, rfl, g7⟩
  rintro ρ t ⟨pl, hplc, b7, rfl, rfl, g7⟩
  refine seq_sat (N' := fun ρ t => ∃ (ms : List Pt) (b : Box), (∀ p ∈ ms, p ∈ cellsOf rows 12) ∧ ms.length ≤ 21 ∧ GoodB b ∧ ρ = [some (.d (.scr ns)), some .box, some (.d (.lst (rows.map D.str))), x3, some (.d (islD rows)), some (.d (.lst ((cellsOf rows 12).map cellD))), some (.d (.lst (low.map cellD))), some (.d (ruleD r)), y8, z9, some (.d (cellD pl)), some (.d (.tup (ps.map cellD))), some (.d (.lst (((cellsOf rows 12).map (worstF r ps)).map D.int))), z13, some (.d (.tup (ms.map cellD))), x15, x16, none, none, none, none] ∧ t = ⟨P3, b⟩) ?_ ?_
  · rw [w_sSet, w_m2]
    simp only [w_sSet, w_sRet, w_sDrop, w_sPar, w_sIf, w_sFor, w_sNil, w_m2, w_m1, w_mL, w_mCons, w_mNil, w_mC, mVar_sat, w_mIf, w_mMeth, w_mNot, w_mAnd, w_mOr, w_asB, sat_ok, List.map_cons, List.map_nil, List.cons_append, List.nil_append, List.getElem?_cons_zero, List.getElem?_cons_succ, List.set_cons_zero, List.set_cons_succ, List.length_cons, List.length_nil, Nat.reduceAdd, Nat.reduceSub, List.replicate, Nat.zero_add]
    refine call_sat rfl (sat_mono (some_sat (m := 20) g7 (cellsOf rows 12) (by omega) (by decide)) ?_)
    rintro x t2 ⟨ms, rfl, hm, hml, g8⟩
    refine ⟨_, rfl, g8.on.trans g7.on.symm, ?_⟩
    have had := addT (xs := ms.map cellD) (ys := [cellD pl]) (by rw [List.length_map]; show _ + 1 ≤ 100000; omega)
    rw [tup1, sat_ok, had, sat_ok]
    refine ⟨ms ++ [pl], t2.b, fun p hp => ?_, by rw [List.length_append, List.length_cons, List.length_nil]; omega, g8, by rw [List.map_append]; rfl, rfl⟩
    rcases List.mem_append.mp hp with h | h
    · exact hm p h
    · rw [List.mem_singleton.mp h]; exact hplc
  rintro ρ t ⟨ms, b8, hms, hml, g8, rfl, rfl⟩
  have hso := sortSet_eq ms (fun p hp => cells_okP hr (hms p hp)) (by omega)
  have hsl := sortP_len ms
  have hsm : ∀ p ∈ sortP ms, p ∈ cellsOf rows 12 := fun p hp => hms p (sortP_mem.mp hp)
  refine seq_sat (N' := fun ρ t => ρ = [some (.d (.scr ns)), some .box, some (.d (.lst (rows.map D.str))), x3, some (.d (islD rows)), some (.d (.lst ((cellsOf rows 12).map cellD))), some (.d (.lst (low.map cellD))), some (.d (ruleD r)), y8, z9, some (.d (cellD pl)), some (.d (.tup (ps.map cellD))), some (.d (.lst (((cellsOf rows 12).map (worstF r ps)).map D.int))), z13, some (.d (.tup ((sortP ms).map cellD))), some (.loc P3.length), x16, none, none, none, none] ∧ t = ⟨P3 ++ [.lst []], b8⟩) ?_ ?_
  · rw [w_sAsgT]
    simp only [w_sSet, w_sRet, w_sDrop, w_sPar, w_sIf, w_sFor, w_sNil, w_m2, w_m1, w_mL, w_mCons, w_mNil, w_mC, mVar_sat, w_mIf, w_mMeth, w_mNot, w_mAnd, w_mOr, w_asB, sat_ok, List.map_cons, List.map_nil, List.cons_append, List.nil_append, List.getElem?_cons_zero, List.getElem?_cons_succ, List.set_cons_zero, List.set_cons_succ, List.length_cons, List.length_nil, Nat.reduceAdd, Nat.reduceSub, List.replicate, Nat.zero_add, hso, htup]
    refine ⟨_, _, rfl, _, _, rfl, ?_⟩
    show (if True ∧ 2 ≤ lim then _ else False)
    rw [if_pos ⟨trivial, by decide⟩]
    exact ⟨rfl, rfl⟩
  rintro ρ t ⟨rfl, rfl⟩
  refine seq_sat (digs_loop (rows := rows) (cs := cellsOf rows 12) hcpos (by omega) P3 g8) ?_
  rintro ρ t ⟨w8, w9, b9, qs, rfl, rfl, g9, hqs, hql⟩
  have hfz3 : fFreeze (.loc P3.length) ⟨P3 ++ [.lst ((qs.map fun q => digD (q, told r q pl)).map Val.d)], b9⟩ = .ok (.d (.lst (qs.map fun q => digD (q, told r q pl)))) ⟨P3 ++ [.dead], b9⟩ := by
    have := dead_at (pre := P3) (vs := (qs.map fun q => digD (q, told r q pl)).map Val.d) (b := b9)
    rw [datas_map] at this
    exact this
  rw [w_sFz rfl hfz3]
  generalize P3 ++ [Cell.dead] = P4
  have hde : (qs.map fun q => digD (q, told r q pl)) = (qs.map fun q => ((q, told r q pl) : Pt × Str)).map digD := by rw [List.map_map]; rfl
  rw [hde]
  have hdw : ∀ d ∈ (qs.map fun q => ((q, told r q pl) : Pt × Str)), Land rows d.1 ∧ d.2 ∈ words r := fun d hd => by
    obtain ⟨q, hq, rfl⟩ := List.mem_map.mp hd
    exact ⟨hcland q (hqs q hq), told_words r q pl⟩
  have hdl : (qs.map fun q => ((q, told r q pl) : Pt × Str)).length ≤ 5 := by rw [List.length_map]; omega
  generalize (qs.map fun q => ((q, told r q pl) : Pt × Str)) = ds at hdw hdl ⊢
  refine seq_sat (N' := fun ρ t => ρ = [some (.d (.scr ns)), some .box, some (.d (.lst (rows.map D.str))), x3, some (.d (islD rows)), some (.d (.lst ((cellsOf rows 12).map cellD))), some (.d (.lst (low.map cellD))), some (.d (ruleD r)), w8, w9, some (.d (cellD pl)), some (.d (.tup (ps.map cellD))), some (.d (.lst (((cellsOf rows 12).map (worstF r ps)).map D.int))), z13, some (.d (.tup ((sortP ms).map cellD))), some (.d (.lst (ds.map digD))), some (.d (.lst ((leftF r (sortP ms) ds).map cellD))), none, none, none, none] ∧ t = ⟨P4, b9⟩) ?_ ?_
  · rw [w_sSet, w_mL]
    refine ⟨_, _, due_eq (rows := rows) (cs := cellsOf rows 12) (r := r) (ps := sortP ms) (by omega) (fun d hd => (hdw d hd).2) hdl ⟨P4, b9⟩, ?_⟩
    refine ⟨_, _, ?_, rfl, rfl⟩
    show fFz _ _ = _
    unfold fFz
    rw [datas_map]
  rintro ρ t ⟨rfl, rfl⟩
  have hleft : ∀ t : T, fCall f_left_after [.d (islD rows), .d (.tup ((sortP ms).map cellD)), .d (ruleD r), .d (.lst (ds.map digD))] t = .ok (.d (.lst ((leftF r (sortP ms) ds).map cellD))) t := fun t => call_eq rfl (left_after_eq hr hru (sortP ms) (by show _ ≤ 100000; omega) (fun p hp => hcland p (hsm p hp)) ds hdw t.b)
  have hall : ∀ t : T, fCall (f__law_alike 6) [.d (.lst ((leftF r (sortP ms) ds).map cellD)), .d (.lst ((leftF r (sortP ms) ds).map cellD))] t = .ok (.d (.bl true)) t := fun t => call_eq rfl (alike_cells _ (by have := left_len r ds (sortP ms); show _ ≤ 100000; omega) t.b)
  simp only [w_sSet, w_sRet, w_sDrop, w_sPar, w_sIf, w_sFor, w_sNil, w_m2, w_m1, w_mL, w_mCons, w_mNil, w_mC, mVar_sat, w_mIf, w_mMeth, w_mNot, w_mAnd, w_mOr, w_asB, sat_ok, List.map_cons, List.map_nil, List.cons_append, List.nil_append, List.getElem?_cons_zero, List.getElem?_cons_succ, List.set_cons_zero, List.set_cons_succ, List.length_cons, List.length_nil, Nat.reduceAdd, Nat.reduceSub, List.replicate, Nat.zero_add, hleft, hall, Bool.not_true, Bool.false_eq_true, if_false]
  exact ⟨hrest', ⟨_, _, _, _, _, _, _, _, _, _, rfl⟩, g9⟩
theorem law_true : ∀ ns : List Int, ns.length ≤ 63 → ∃ t, f_law [.d (.scr ns)] box0 = .ok (.d (.bl true)) t := by
  intro ns hn
  obtain ⟨v, t, e, h⟩ := law_sat ns hn
  subst h
  exact ⟨t, e⟩
end K90
set_option Elab.async false
set_option linter.all false
set_option maxRecDepth 100000
set_option maxHeartbeats 0
open PySem PySem.W PySem.Calls PyProof.Rows
theorem PySem.Challenge.cw_oldmap_k90_whole_digs_on_great_islands_holds : PySem.Challenge.rw_oldmap_k90_whole_digs_on_great_islands.Holds := by
  w_on; o_law; o_head K90.hk
  case hw => w_witness2
  case hc =>
    refine En.walk_ofW (l := PySem.Challenge.rw_oldmap_k90_whole_digs_on_great_islands) (n := 63) (k := 15) (x := "_law_script") (mf := K90.f_law) rfl (by decide) (by kernel_rfl) ⟨rfl, by decide, by decide⟩ ?F K90.law_true
    intro w mg fa h Y G hmg0
    obtain ⟨K, KX, c⟩ := Y
    have hmg : mg ("law" : PySem.Str) = some (.ref fa) := hmg0
    obtain ⟨fd, hb, hF⟩ := K90.facts KX G hmg c
    exact ⟨K, fd, KX, hb, fun base _ _ => hF base⟩
