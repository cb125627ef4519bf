import PyProof.Rows.All
import Wide.All
import OpenK.AllK
import Wide.FinOn
import HandS.ForMost
import HandS.Wide
import HandS.TupAny
import HandS.TupMul
import HandS.TupLe
import HandS.Deep
import HandS.Walk
import HandS.Zip
import PyProof.EnumMake
import KE.GoesMore
import HandS.IsInst
import HandS.RaiseMore
import HandS.Dict
import HandS.Style
import PyProof.FitsInt
import HandS.WordsDict
import HandS.SetKeys
import HandS.TupLen
import HandS.Star
import KE.DataMinMax
import HandS.DictComp
import KE.SortData
import KE.KDictSum
import KE.KSortTup
import HandS.Conv
import KE.DataFind
import HandS.Gcd
import HandS.SortKw
import PySem.Challenge.RW_lotvalues_k10_whole_copies_of_partings
set_option Elab.async false
set_option linter.all false
set_option maxRecDepth 100000
/-! QA: the pure layer: values as data, the state of a def, what is frozen, what is owned. -/
namespace Q
open PySem PySem.Spec PyProof.Rows L2

abbrev D := PyData
/-- the draws' state -/
structure G where
  cells : List Int
  left : Int
  mixed : Int
  turn : Int
abbrev M (α : Type) : Type := G → Option (α × G)
def mret {α : Type} (a : α) : M α := fun g => some (a, g)
def mbnd {α β : Type} (m : M α) (f : α → M β) : M β := fun g => match m g with
  | some (a, g') => f a g'
  | none => none
def mlift {α : Type} (o : Option α) : M α := fun g => match o with
  | some a => some (a, g)
  | none => none
abbrev Ev := List (Option D)
abbrev SE := Ev → M D
abbrev ST := Ev → M Bool
abbrev SL := Ev → M (List D)

/-! ### what a value stands for -/
def keyD : Key → D
  | .inl i => .int i
  | .inr s => .str s
def keyT (k : List Key) : D := .tuple (k.map keyD)
abbrev Fz := Addr → Prop
/-- a tuple that is tracked -/
def TqT (_ : PySem.W.Frag) (H : Hp) (a : Addr) (xs : List V) : Prop := H a = some (.tup xs)
theorem TqT.of {K : PySem.W.Frag} {H : Hp} {a : Addr} {xs : List V} (h : H a = some (.tup xs)) : TqT K H a xs := h
theorem TqT.sq {K : PySem.W.Frag} {H : Hp} {a : Addr} {xs : List V} (h : TqT K H a xs) : SqT K H a xs := .inl (.inl h)
mutual
inductive Rep (K : PySem.W.Frag) (F : Fz) (H : Hp) : V → D → Prop
  | non : Rep K F H .non .none
  | bl (b : Bool) : Rep K F H (.bl b) (.bool b)
  | int (i : Int) : Rep K F H (.int i) (.int i)
  | str (x : Str) : Rep K F H (.str x) (.str x)
  | tup {a : Addr} {xs : List V} {ds : List D} : TqT K H a xs → RepAll K F H xs ds → Rep K F H (.ref a) (.tuple ds)
  | lst {a : Addr} {xs : List V} {ds : List D} : F a → H a = some (.lst xs) → RepAll K F H xs ds → Rep K F H (.ref a) (.list ds)
  | dK {a : Addr} {kvs : List (Key × V)} {ds : List (D × D)} : F a → H a = some (.dK kvs) → kvs.map (fun p => keyD p.1) = ds.map (·.1) → RepAll K F H (kvs.map (·.2)) (ds.map (·.2)) → Rep K F H (.ref a) (.dict ds)
  | dT {a : Addr} {kvs : List (List Key × V)} {ds : List (D × D)} : F a → H a = some (.dT kvs) → kvs.map (fun p => keyT p.1) = ds.map (·.1) → RepAll K F H (kvs.map (·.2)) (ds.map (·.2)) → Rep K F H (.ref a) (.dict ds)
inductive RepAll (K : PySem.W.Frag) (F : Fz) (H : Hp) : List V → List D → Prop
  | nil : RepAll K F H [] []
  | cons {v : V} {vs : List V} {d : D} {ds : List D} : Rep K F H v d → RepAll K F H vs ds → RepAll K F H (v :: vs) (d :: ds)
end
/-- what stands at an address, as data -/
def Cont (K : PySem.W.Frag) (F : Fz) (H : Hp) : HO → D → Prop
  | .lst xs, .list ds => RepAll K F H xs ds
  | .dK kvs, .dict ds => kvs.map (fun p => keyD p.1) = ds.map (·.1) ∧ RepAll K F H (kvs.map (·.2)) (ds.map (·.2))
  | .dT kvs, .dict ds => kvs.map (fun p => keyT p.1) = ds.map (·.1) ∧ RepAll K F H (kvs.map (·.2)) (ds.map (·.2))
  | _, _ => False

/-- lists and dicts: what can be changed -/
def isCont : D → Bool
  | .list _ => true
  | .dict _ => true
  | _ => false
theorem Cont.is {K : PySem.W.Frag} {F : Fz} {H : Hp} {o : HO} {d : D} (h : Cont K F H o d) : isCont d = true := by
  unfold Cont at h
  split at h <;> first | rfl | exact h.elim
structure Stay (F : Fz) (H : Hp) (F' : Fz) (H' : Hp) : Prop where
  sub : ∀ a, F a → F' a
  obj : ∀ a o, F a → H a = some o → H' a = some o
  tup : ∀ a xs, H a = some (.tup xs) → H' a = some (.tup xs)
theorem Stay.refl {F : Fz} {H : Hp} : Stay F H F H := ⟨fun _ h => h, fun _ _ _ h => h, fun _ _ h => h⟩
theorem Stay.trans {F F' F2 : Fz} {H H' H2 : Hp} (x : Stay F H F' H') (y : Stay F' H' F2 H2) : Stay F H F2 H2 :=
  ⟨fun a h => y.sub a (x.sub a h), fun a o f h => y.obj a o (x.sub a f) (x.obj a o f h), fun a xs h => y.tup a xs (x.tup a xs h)⟩
section
variable {K : PySem.W.Frag} {F F' : Fz} {H H' : Hp}
theorem Stay.sqT (x : Stay F H F' H') {a : Addr} {xs : List V} (h : TqT K H a xs) : TqT K H' a xs := x.tup a xs h
mutual
theorem Rep.mono (x : Stay F H F' H') : ∀ {v : V} {d : D}, Rep K F H v d → Rep K F' H' v d
  | _, _, .non => .non
  | _, _, .bl b => .bl b
  | _, _, .int i => .int i
  | _, _, .str s => .str s
  | _, _, .tup h r => .tup (x.sqT h) (RepAll.mono x r)
  | _, _, .lst f h r => .lst (x.sub _ f) (x.obj _ _ f h) (RepAll.mono x r)
  | _, _, .dK f h e r => .dK (x.sub _ f) (x.obj _ _ f h) e (RepAll.mono x r)
  | _, _, .dT f h e r => .dT (x.sub _ f) (x.obj _ _ f h) e (RepAll.mono x r)
theorem RepAll.mono (x : Stay F H F' H') : ∀ {v : List V} {d : List D}, RepAll K F H v d → RepAll K F' H' v d
  | _, _, .nil => .nil
  | _, _, .cons h r => .cons (Rep.mono x h) (RepAll.mono x r)
end
theorem Cont.mono (x : Stay F H F' H') {o : HO} {d : D} (h : Cont K F H o d) : Cont K F' H' o d := by
  unfold Cont at h ⊢
  split at h
  · exact RepAll.mono x h
  · exact ⟨h.1, RepAll.mono x h.2⟩
  · exact ⟨h.1, RepAll.mono x h.2⟩
  · exact h.elim
theorem Cont.rep {a : Addr} {o : HO} {d : D} (f : F a) (e : H a = some o) (h : Cont K F H o d) : Rep K F H (.ref a) d := by
  unfold Cont at h
  split at h
  · exact .lst f e h
  · exact .dK f e h.1 h.2
  · exact .dT f e h.1 h.2
  · exact h.elim
theorem RepAll.length : ∀ {v : List V} {d : List D}, RepAll K F H v d → v.length = d.length
  | _, _, .nil => rfl
  | _, _, .cons _ r => congrArg (· + 1) r.length
theorem RepAll.get : ∀ {v : List V} {d : List D} {i : Nat} {x : D}, RepAll K F H v d → d[i]? = some x → ∃ y, v[i]? = some y ∧ Rep K F H y x
  | _, _, _, _, .nil, e => by simp at e
  | _, _, 0, _, .cons h _, e => ⟨_, rfl, by simp at e; subst e; exact h⟩
  | _, _, i + 1, _, .cons _ r, e => by
    obtain ⟨y, h1, h2⟩ := RepAll.get (i := i) r (by simpa using e)
    exact ⟨y, by simpa using h1, h2⟩
theorem RepAll.append : ∀ {v v' : List V} {d d' : List D}, RepAll K F H v d → RepAll K F H v' d' → RepAll K F H (v ++ v') (d ++ d')
  | _, _, _, _, .nil, s => s
  | _, _, _, _, .cons h r, s => .cons h (r.append s)
theorem RepAll.take : ∀ {v : List V} {d : List D} (n : Nat), RepAll K F H v d → RepAll K F H (v.take n) (d.take n)
  | _, _, 0, _ => .nil
  | _, _, _ + 1, .nil => .nil
  | _, _, n + 1, .cons h r => .cons h (r.take n)
theorem RepAll.drop : ∀ {v : List V} {d : List D} (n : Nat), RepAll K F H v d → RepAll K F H (v.drop n) (d.drop n)
  | _, _, 0, r => r
  | _, _, _ + 1, .nil => .nil
  | _, _, n + 1, .cons _ r => r.drop n
theorem RepAll.set {x : V} {y : D} (q : Rep K F H x y) : ∀ {v : List V} {d : List D} (n : Nat), RepAll K F H v d → RepAll K F H (v.set n x) (d.set n y)
  | _, _, _, .nil => .nil
  | _, _, 0, .cons _ r => .cons q r
  | _, _, n + 1, .cons h r => .cons h (r.set q n)
theorem RepAll.eraseIdx : ∀ {v : List V} {d : List D} (n : Nat), RepAll K F H v d → RepAll K F H (v.eraseIdx n) (d.eraseIdx n)
  | _, _, _, .nil => .nil
  | _, _, 0, .cons _ r => r
  | _, _, n + 1, .cons h r => .cons h (r.eraseIdx n)
theorem RepAll.of_map {α : Type} {f : α → V} {g : α → D} (h : ∀ x, Rep K F H (f x) (g x)) : ∀ xs : List α, RepAll K F H (xs.map f) (xs.map g)
  | [] => .nil
  | x :: r => .cons (h x) (RepAll.of_map h r)
end

/-! ### the state -/
/-- a def's entry: the source of the draws (its dict, its cells), what was frozen, the heap; P: what must not be frozen yet -/
structure Bs where
  src : Option (Addr × Addr)
  F : Fz
  H : Hp
  P : Addr → Prop
def isS (src : Option (Addr × Addr)) (a : Addr) : Prop := ∃ p, src = some p ∧ (a = p.1 ∨ a = p.2)
def srcD (c : Addr) (g : G) : HO := .dK [(.inr "cells", .ref c), (.inr "left", .int g.left), (.inr "mixed", .int g.mixed), (.inr "turn", .int g.turn)]
def Draw (src : Option (Addr × Addr)) (H : Hp) (g : G) : Prop := ∀ p, src = some p → p.1 ≠ p.2 ∧ H p.1 = some (srcD p.2 g) ∧ H p.2 = some (.lst (g.cells.map V.int))
structure Ext (src : Option (Addr × Addr)) (F : Fz) (H : Hp) (F' : Fz) (H' : Hp) : Prop where
  stay : Stay F H F' H'
  keep : ∀ a o, ¬ isS src a → H a = some o → H' a = some o
theorem Ext.refl {src : Option (Addr × Addr)} {F : Fz} {H : Hp} : Ext src F H F H := ⟨.refl, fun _ _ _ h => h⟩
theorem Ext.trans {src : Option (Addr × Addr)} {F F' F2 : Fz} {H H' H2 : Hp} (x : Ext src F H F' H') (y : Ext src F' H' F2 H2) : Ext src F H F2 H2 :=
  ⟨x.stay.trans y.stay, fun a o n h => y.keep a o n (x.keep a o n h)⟩

/-- nobody else holds it -/
def OwnV (K : PySem.W.Frag) (B : Bs) (F : Fz) (H : Hp) (v : V) (d : D) : Prop := (isCont d = false ∧ Rep K F H v d) ∨ ∃ a o, v = .ref a ∧ ¬ F a ∧ ¬ B.P a ∧ B.H a = none ∧ H a = some o ∧ Cont K F H o d
structure SInv (K : PySem.W.Frag) (B : Bs) (ss : Option Nat) (O : List Nat) (F : Fz) (H : Hp) (σ : L2.St) (ρ : Ev) (g : G) : Prop where
  keep : ∀ a o, ¬ isS B.src a → B.H a = some o → H a = some o
  sub : ∀ a, B.F a → F a
  new : ∀ a, F a → B.F a ∨ B.H a = none
  dom : ∀ a, F a → H a ≠ none
  nsrc : ∀ a, isS B.src a → ¬ F a ∧ B.H a ≠ none
  draw : Draw B.src H g
  var : ∀ i d, ρ[i]? = some (some d) → ∃ v, σ[i]? = some (some v) ∧ (i ∉ O → Rep K F H v d) ∧ (i ∈ O → OwnV K B F H v d)
  apart : ∀ i j a d e, i ∈ O → j ∈ O → ρ[i]? = some (some d) → isCont d = true → ρ[j]? = some (some e) → isCont e = true → σ[i]? = some (some (.ref a)) → σ[j]? = some (some (.ref a)) → i = j
  prot : ∀ a, B.P a → ¬ F a ∧ H a ≠ none
  slot : ∀ i, ss = some i → ∃ p, B.src = some p ∧ σ[i]? = some (some (.ref p.1))
  len : ρ.length ≤ σ.length
inductive Kd | fz | bw | fr
def KRep (K : PySem.W.Frag) (B : Bs) (O : List Nat) (F : Fz) (H : Hp) (σ : L2.St) (ρ : Ev) : Kd → V → D → Prop
  | .fz, x, d => Rep K F H x d
  | .bw, x, d => Rep K F H x d ∨ ∃ a o, x = .ref a ∧ ¬ isS B.src a ∧ H a = some o ∧ Cont K F H o d
  | .fr, x, d => (isCont d = false ∧ Rep K F H x d) ∨ ∃ a o, x = .ref a ∧ ¬ F a ∧ ¬ B.P a ∧ B.H a = none ∧ H a = some o ∧ Cont K F H o d ∧ ∀ i e, i ∈ O → ρ[i]? = some (some e) → isCont e = true → σ[i]? ≠ some (some (.ref a))
abbrev BR (K : PySem.W.Frag) (B : Bs) (F : Fz) (H : Hp) (x : V) (d : D) : Prop := Rep K F H x d ∨ ∃ a o, x = .ref a ∧ ¬ isS B.src a ∧ H a = some o ∧ Cont K F H o d
section
variable {K : PySem.W.Frag} {B : Bs} {ss : Option Nat} {O : List Nat} {F F' : Fz} {H H' : Hp} {σ : L2.St} {ρ : Ev} {g : G}
theorem SInv.nsT (I : SInv K B ss O F H σ ρ g) {a : Addr} (h : isS B.src a) : ∀ xs, ¬ Rd H a (.tup xs) := by
  obtain ⟨p, e, h⟩ := h
  obtain ⟨_, h1, h2⟩ := I.draw p e
  intro xs q
  rcases h with h | h
  · rw [h] at q
    rcases q with q | ⟨o, q⟩ <;> rw [h1] at q <;> cases q
  · rw [h] at q
    rcases q with q | ⟨o, q⟩ <;> rw [h2] at q <;> cases q
/-- what changes the source alone -/
theorem SInv.ext (I : SInv K B ss O F H σ ρ g) (sub : ∀ a, F a → F' a) (keep : ∀ a o, ¬ isS B.src a → H a = some o → H' a = some o) : Ext B.src F H F' H' := by
  refine ⟨⟨sub, fun a o f h => keep a o (fun s => (I.nsrc a s).1 f) h, fun a xs h => ?_⟩, keep⟩
  have ns : ¬ isS B.src a := fun s => I.nsT s xs (.inl h)
  exact keep a _ ns h
theorem SInv.nsOwn (I : SInv K B ss O F H σ ρ g) {a : Addr} (h : B.H a = none) : ¬ isS B.src a := fun s => (I.nsrc a s).2 h
/-- a step that stays: the state behind it -/
theorem SInv.step {g' : G} (I : SInv K B ss O F H σ ρ g) (E : Ext B.src F H F' H') (new : ∀ a, F' a → F a ∨ H a = none) (dom : ∀ a, F' a → H' a ≠ none) (draw : Draw B.src H' g') : SInv K B ss O F' H' σ ρ g' where
  keep := fun a o n h => E.keep a o n (I.keep a o n h)
  sub := fun a h => E.stay.sub a (I.sub a h)
  new := fun a h => by
    rcases new a h with h | h
    · exact I.new a h
    · refine .inr ?_
      cases q : B.H a with
      | none => rfl
      | some o =>
        by_cases s : isS B.src a
        · obtain ⟨p, e, s⟩ := s
          obtain ⟨_, h1, h2⟩ := I.draw p e
          rcases s with s | s
          · rw [s, h1] at h; cases h
          · rw [s, h2] at h; cases h
        · rw [I.keep a o s q] at h; cases h
  dom := dom
  nsrc := fun a s => ⟨(fun f => by
    rcases new a f with h | h
    · exact (I.nsrc a s).1 h
    · obtain ⟨p, e, s⟩ := s
      obtain ⟨_, h1, h2⟩ := I.draw p e
      rcases s with s | s
      · rw [s, h1] at h; cases h
      · rw [s, h2] at h; cases h), (I.nsrc a s).2⟩
  draw := draw
  var := fun i d e => by
    obtain ⟨v, h1, h2, h3⟩ := I.var i d e
    refine ⟨v, h1, fun n => (h2 n).mono E.stay, fun m => ?_⟩
    rcases h3 m with ⟨z, r⟩ | ⟨a, o, e1, nf, np, hb, ho, c⟩
    · exact .inl ⟨z, r.mono E.stay⟩
    · refine .inr ⟨a, o, e1, fun f => ?_, np, hb, E.keep a o (I.nsOwn hb) ho, c.mono E.stay⟩
      rcases new a f with q | q
      · exact nf q
      · rw [ho] at q; cases q
  prot := fun a h => by
    obtain ⟨h1, h2⟩ := I.prot a h
    refine ⟨fun f => (new a f).elim h1 h2, ?_⟩
    by_cases s : isS B.src a
    · obtain ⟨p, e, s⟩ := s
      obtain ⟨_, w1, w2⟩ := draw p e
      rcases s with s | s
      · rw [s, w1]; exact fun z => nomatch z
      · rw [s, w2]; exact fun z => nomatch z
    · cases q : H a with
      | none => exact absurd q h2
      | some o => rw [E.keep a o s q]; exact fun z => nomatch z
  apart := I.apart
  slot := I.slot
  len := I.len
theorem Draw.upd {src : Option (Addr × Addr)} (d : Draw src H g) {p : Addr} {o : HO} (h : H p = none) : Draw src (upd H p o) g := fun q e => by
  obtain ⟨n, h1, h2⟩ := d q e
  exact ⟨n, by rw [upd_ne (ne_of_none h1 h)]; exact h1, by rw [upd_ne (ne_of_none h2 h)]; exact h2⟩
theorem SInv.ext_new (I : SInv K B ss O F H σ ρ g) {p : Addr} {o : HO} (h : H p = none) : Ext B.src F H F (upd H p o) :=
  I.ext (fun _ f => f) fun a u _ e => by rw [upd_ne (ne_of_none e h)]; exact e
/-- a new object -/
theorem SInv.laid (I : SInv K B ss O F H σ ρ g) {p : Addr} {o : HO} (h : H p = none) : SInv K B ss O F (upd H p o) σ ρ g :=
  I.step (I.ext_new h) (fun _ f => .inl f) (fun a f e => by
    by_cases q : a = p
    · subst q; rw [upd_same] at e; cases e
    · rw [upd_ne q] at e; exact I.dom a f e) (I.draw.upd h)
/-- a new object, frozen -/
theorem SInv.laidF (I : SInv K B ss O F H σ ρ g) {p : Addr} {o : HO} (h : H p = none) : SInv K B ss O (fun a => F a ∨ a = p) (upd H p o) σ ρ g :=
  I.step (I.ext (fun _ f => .inl f) fun a u _ e => by rw [upd_ne (ne_of_none e h)]; exact e) (fun a f => f.imp id fun e => by rw [e]; exact h) (fun a f e => by
    by_cases q : a = p
    · subst q; rw [upd_same] at e; cases e
    · rw [upd_ne q] at e
      rcases f with f | f
      · exact I.dom a f e
      · exact q f) (I.draw.upd h)
/-- a free object of ours is frozen -/
theorem SInv.freeze (I : SInv K B ss O F H σ ρ g) {p : Addr} {o : HO} (hb : B.H p = none) (hp : ¬ B.P p) (ho : H p = some o) (hn : ∀ i e, i ∈ O → ρ[i]? = some (some e) → isCont e = true → σ[i]? ≠ some (some (.ref p))) : SInv K B ss O (fun a => F a ∨ a = p) H σ ρ g := by
  have st : Stay F H (fun a => F a ∨ a = p) H := ⟨fun _ f => .inl f, fun _ _ _ e => e, fun _ _ e => e⟩
  refine ⟨I.keep, fun a f => .inl (I.sub a f), fun a f => f.elim (I.new a) (fun e => .inr (e ▸ hb)), fun a f => f.elim (I.dom a) (fun e z => by rw [e, ho] at z; cases z), fun a s => ⟨fun f => f.elim (I.nsrc a s).1 fun e => (I.nsrc a s).2 (e ▸ hb), (I.nsrc a s).2⟩, I.draw, fun i d e => ?_, I.apart, fun a h => ⟨fun f => f.elim (I.prot a h).1 fun e => hp (e ▸ h), (I.prot a h).2⟩, I.slot, I.len⟩
  obtain ⟨v, h1, h2, h3⟩ := I.var i d e
  refine ⟨v, h1, fun n => (h2 n).mono st, fun m => ?_⟩
  rcases h3 m with ⟨z, r⟩ | ⟨a, u, e1, nf, np, hb', hu, c⟩
  · exact .inl ⟨z, r.mono st⟩
  · exact .inr ⟨a, u, e1, fun f => f.elim nf fun q => hn i d m e c.is (by rw [h1, e1, q]), np, hb', hu, c.mono st⟩
/-- an owned slot is frozen -/
theorem SInv.thaw (I : SInv K B ss O F H σ ρ g) (j : Nat) : ∃ F', SInv K B ss (O.filter (· ≠ j)) F' H σ ρ g ∧ Ext B.src F H F' H := by
  have mem : ∀ i, i ∈ O.filter (· ≠ j) ↔ i ∈ O ∧ i ≠ j := fun i => by simp [List.mem_filter]
  have easy : (∀ d v, ρ[j]? = some (some d) → j ∈ O → σ[j]? = some (some v) → Rep K F H v d) → SInv K B ss (O.filter (· ≠ j)) F H σ ρ g := fun hr =>
    ⟨I.keep, I.sub, I.new, I.dom, I.nsrc, I.draw, fun i d e => by
      obtain ⟨v, h1, h2, h3⟩ := I.var i d e
      refine ⟨v, h1, fun n => ?_, fun m => h3 ((mem i).mp m).1⟩
      by_cases q : i = j
      · subst q
        by_cases m : i ∈ O
        · exact hr d v e m h1
        · exact h2 m
      · exact h2 fun m => n ((mem i).mpr ⟨m, q⟩), fun i k a d e h1 h2 => I.apart i k a d e ((mem i).mp h1).1 ((mem k).mp h2).1, I.prot, I.slot, I.len⟩
  cases hd : ρ[j]? with
  | none => exact ⟨F, easy (fun d v e => by rw [hd] at e; cases e), .refl⟩
  | some od =>
    cases od with
    | none => exact ⟨F, easy (fun d v e => by rw [hd] at e; cases e), .refl⟩
    | some dj =>
      by_cases hj : j ∈ O
      · obtain ⟨vj, s1, s2, s3⟩ := I.var j dj hd
        rcases s3 hj with ⟨z, r⟩ | ⟨p, o, ep, nfp, npp, hbp, hop, cp⟩
        · refine ⟨F, easy (fun d v e _ e2 => ?_), .refl⟩
          rw [hd] at e; cases e
          rw [s1] at e2; cases e2
          exact r
        · subst ep
          have st : Stay F H (fun a => F a ∨ a = p) H := ⟨fun _ f => .inl f, fun _ _ _ e => e, fun _ _ e => e⟩
          refine ⟨fun a => F a ∨ a = p, ⟨I.keep, fun a f => .inl (I.sub a f), fun a f => f.elim (I.new a) (fun e => .inr (e ▸ hbp)), fun a f => f.elim (I.dom a) (fun e z => by rw [e, hop] at z; cases z),
            fun a s => ⟨fun f => f.elim (I.nsrc a s).1 fun e => (I.nsrc a s).2 (e ▸ hbp), (I.nsrc a s).2⟩, I.draw, fun i d e => ?_, fun i k a d e h1 h2 => I.apart i k a d e ((mem i).mp h1).1 ((mem k).mp h2).1, fun a h => ⟨fun f => f.elim (I.prot a h).1 fun e => npp (e ▸ h), (I.prot a h).2⟩, I.slot, I.len⟩, ⟨st, fun _ _ _ e => e⟩⟩
          obtain ⟨v, h1, h2, h3⟩ := I.var i d e
          refine ⟨v, h1, fun n => ?_, fun m => ?_⟩
          · by_cases q : i = j
            · subst q
              rw [hd] at e; cases e
              rw [s1] at h1; cases h1
              exact (cp.mono st).rep (.inr rfl) hop
            · exact (h2 fun m => n ((mem i).mpr ⟨m, q⟩)).mono st
          · obtain ⟨m1, m2⟩ := (mem i).mp m
            rcases h3 m1 with ⟨z, r⟩ | ⟨a, u, e1, nf, np, hb', hu, c⟩
            · exact .inl ⟨z, r.mono st⟩
            · refine .inr ⟨a, u, e1, fun f => f.elim nf fun q => m2 ?_, np, hb', hu, c.mono st⟩
              exact I.apart i j p d dj m1 hj e c.is hd cp.is (by rw [h1, e1, q]) s1
      · exact ⟨F, easy (fun _ _ _ h => absurd h hj), .refl⟩
theorem BR.mono (E : Ext B.src F H F' H') {x : V} {d : D} (h : BR K B F H x d) : BR K B F' H' x d := by
  rcases h with h | ⟨a, o, e, n, ho, c⟩
  · exact .inl (h.mono E.stay)
  · exact .inr ⟨a, o, e, n, E.keep a o n ho, c.mono E.stay⟩
theorem BR.int {x : V} {i : Int} (h : BR K B F H x (.int i)) : x = .int i := by
  rcases h with h | ⟨a, o, _, _, _, c⟩
  · cases h; rfl
  · cases o <;> exact c.elim
theorem BR.bl {x : V} {i : Bool} (h : BR K B F H x (.bool i)) : x = .bl i := by
  rcases h with h | ⟨a, o, _, _, _, c⟩
  · cases h; rfl
  · cases o <;> exact c.elim
theorem BR.str {x : V} {i : Str} (h : BR K B F H x (.str i)) : x = .str i := by
  rcases h with h | ⟨a, o, _, _, _, c⟩
  · cases h; rfl
  · cases o <;> exact c.elim
theorem BR.non {x : V} (h : BR K B F H x .none) : x = .non := by
  rcases h with h | ⟨a, o, _, _, _, c⟩
  · cases h; rfl
  · cases o <;> exact c.elim
theorem BR.list {x : V} {ds : List D} (h : BR K B F H x (.list ds)) : ∃ a xs, x = .ref a ∧ H a = some (.lst xs) ∧ RepAll K F H xs ds := by
  rcases h with h | ⟨a, o, e, _, ho, c⟩
  · cases h with
    | lst f h r => exact ⟨_, _, rfl, h, r⟩
  · cases o with
    | lst xs => exact ⟨a, xs, e, ho, c⟩
    | _ => exact c.elim
theorem BR.tup {x : V} {ds : List D} (h : BR K B F H x (.tuple ds)) : ∃ a xs, x = .ref a ∧ TqT K H a xs ∧ RepAll K F H xs ds := by
  rcases h with h | ⟨a, o, e, _, ho, c⟩
  · cases h with
    | tup h r => exact ⟨_, _, rfl, h, r⟩
  · cases o <;> exact c.elim
theorem OwnV.br (I : SInv K B ss O F H σ ρ g) {x : V} {d : D} (h : OwnV K B F H x d) : BR K B F H x d := by
  rcases h with ⟨_, r⟩ | ⟨a, o, e, _, _, hb, ho, c⟩
  · exact .inl r
  · exact .inr ⟨a, o, e, I.nsOwn hb, ho, c⟩
/-- what a slot holds -/
theorem SInv.get (I : SInv K B ss O F H σ ρ g) {i : Nat} {d : D} (e : ρ[i]? = some (some d)) : ∃ v, σ[i]? = some (some v) ∧ BR K B F H v d := by
  obtain ⟨v, h1, h2, h3⟩ := I.var i d e
  by_cases m : i ∈ O
  · exact ⟨v, h1, (h3 m).br I⟩
  · exact ⟨v, h1, .inl (h2 m)⟩
theorem SInv.freeB (I : SInv K B ss O F H σ ρ g) {p : Addr} (h : H p = none) : B.H p = none := by
  cases q : B.H p with
  | none => rfl
  | some o =>
    by_cases s : isS B.src p
    · obtain ⟨x, e, s⟩ := s
      obtain ⟨_, h1, h2⟩ := I.draw x e
      rcases s with s | s
      · rw [s, h1] at h; cases h
      · rw [s, h2] at h; cases h
    · rw [I.keep p o s q] at h; cases h
theorem SInv.own_ne (I : SInv K B ss O F H σ ρ g) {p : Addr} (h : H p = none) {i : Nat} {e : D} (hi : i ∈ O) (he : ρ[i]? = some (some e)) (hc : isCont e = true) : σ[i]? ≠ some (some (.ref p)) := fun z => by
  obtain ⟨v, h1, _, h3⟩ := I.var i e he
  rw [h1] at z; cases z
  rcases h3 hi with ⟨q, _⟩ | ⟨a, o, e1, _, _, _, ho, _⟩
  · rw [hc] at q; cases q
  · cases e1; rw [ho] at h; cases h
/-- how a rule's reading ends: a value that is no container, at the heap as it is -/
theorem SInv.fin (I : SInv K B ss O F H σ ρ g) {R : VK} {d : D} (h : ∀ x' H' F', SInv K B ss O F' H' σ ρ g → Ext B.src F H F' H' → KRep K B O F' H' σ ρ .fr x' d → R x' H') {x : V} (hs : isCont d = false) (r : Rep K F H x d) : R x H :=
  h x H F I .refl (.inl ⟨hs, r⟩)
/-- .. a new tuple -/
theorem SInv.finT (I : SInv K B ss O F H σ ρ g) {R : VK} {ds : List D} (h : ∀ x' H' F', SInv K B ss O F' H' σ ρ g → Ext B.src F H F' H' → KRep K B O F' H' σ ρ .fr x' (.tuple ds) → R x' H') {xs : List V} (r : RepAll K F H xs ds) {p : Addr} (hp : H p = none) : R (.ref p) (upd H p (.tup xs)) :=
  h _ _ F (I.laid hp) (I.ext_new hp) (.inl ⟨rfl, .tup (.of upd_same) (r.mono (I.ext_new hp).stay)⟩)
/-- .. a new list, a new dict -/
theorem SInv.finO (I : SInv K B ss O F H σ ρ g) {R : VK} {d : D} (h : ∀ x' H' F', SInv K B ss O F' H' σ ρ g → Ext B.src F H F' H' → KRep K B O F' H' σ ρ .fr x' d → R x' H') {o : HO} (r : Cont K F H o d) {p : Addr} (hp : H p = none) : R (.ref p) (upd H p o) :=
  h _ _ F (I.laid hp) (I.ext_new hp) (.inr ⟨p, o, rfl, fun f => I.dom p f hp, fun z => (I.prot p z).2 hp, I.freeB hp, upd_same, r.mono (I.ext_new hp).stay, fun _ _ m e c => I.own_ne hp m e c⟩)
theorem SInv.finL (I : SInv K B ss O F H σ ρ g) {R : VK} {ds : List D} (h : ∀ x' H' F', SInv K B ss O F' H' σ ρ g → Ext B.src F H F' H' → KRep K B O F' H' σ ρ .fr x' (.list ds) → R x' H') {xs : List V} (r : RepAll K F H xs ds) {p : Addr} (hp : H p = none) : R (.ref p) (upd H p (.lst xs)) :=
  I.finO h (o := .lst xs) r hp
end
end Q

set_option Elab.async false
set_option linter.all false
set_option maxRecDepth 100000
/-! QB: the pure layer: expressions. -/
namespace Q
open PySem PySem.Spec PyProof.Rows L2

theorem pe_imp {X : Cx} {e : Expr} {t t' : TE} (h : PE X e t) (i : ∀ σ H R, t' σ H R → t σ H R) : PE X e t' := ⟨fun pins s σ H R I q => h.run pins s σ H R I (i σ H R q)⟩
theorem pt_imp {X : Cx} {e : Expr} {t t' : TT} (h : PT X e t) (i : ∀ σ H R, t' σ H R → t σ H R) : PT X e t' := ⟨fun pins s σ H R I q => h.run pins s σ H R I (i σ H R q)⟩
theorem pw_imp {X : Cx} {e : Expr} {t t' : TT} (h : PW X e t) (i : ∀ σ H R, t' σ H R → t σ H R) : PW X e t' := ⟨fun wh pins s σ H R I q => h.run wh pins s σ H R I (i σ H R q)⟩
theorem pa_imp {X : Cx} {e : List Expr} {t t' : TA} (h : PA X e t) (i : ∀ σ H R, t' σ H R → t σ H R) : PA X e t' := ⟨fun pos pins s σ H R I q => h.run pos pins s σ H R I (i σ H R q)⟩

section
variable (K : PySem.W.Frag) (B : Bs) (ss : Option Nat) (O O' : List Nat)
/-- an expression: worth f -/
def tE (k : Kd) (f : SE) : TE := fun σ H R => ∃ F ρ g d g', SInv K B ss O F H σ ρ g ∧ f ρ g = some (d, g') ∧ ∀ x H' F', SInv K B ss O' F' H' σ ρ g' → Ext B.src F H F' H' → KRep K B O' F' H' σ ρ k x d → R x H'
/-- a test -/
def tB (f : ST) : TT := fun σ H R => ∃ F ρ g d g', SInv K B ss O F H σ ρ g ∧ f ρ g = some (d, g') ∧ ∀ H' F', SInv K B ss O' F' H' σ ρ g' → Ext B.src F H F' H' → R d H'
/-- n arguments, frozen -/
def tF (n : Nat) (f : SL) : TA := fun σ H R => ∃ F ρ g ds g', SInv K B ss O F H σ ρ g ∧ f ρ g = some (ds, g') ∧ ∀ xs H' F', SInv K B ss O' F' H' σ ρ g' → Ext B.src F H F' H' → RepAll K F' H' xs ds → xs.length = n → R xs H'
end
section
variable {X : Cx} {B : Bs} {ss : Option Nat} {O O1 O2 O3 : List Nat} {a b c e : Expr} {es : List Expr} {f h : SE} {u v : ST} {fs : SL} {pos p : Pos} {n : Nat}

/-! ### kinds -/
theorem q_bw (ha : PE X e (tE X.K B ss O O1 .fz f)) : PE X e (tE X.K B ss O O1 .bw f) := pe_imp ha fun σ H R ⟨F, ρ, g, d, g', I, ef, q⟩ => ⟨F, ρ, g, d, g', I, ef, fun x H' F' I' E r => q x H' F' I' E (.inl r)⟩
theorem q_frbw (ha : PE X e (tE X.K B ss O O1 .fr f)) : PE X e (tE X.K B ss O O1 .bw f) := pe_imp ha fun σ H R ⟨F, ρ, g, d, g', I, ef, q⟩ => ⟨F, ρ, g, d, g', I, ef, fun x H' F' I' E r => q x H' F' I' E (by
  rcases r with ⟨_, r⟩ | ⟨a, o, e1, _, _, hb, ho, c, _⟩
  · exact .inl r
  · exact .inr ⟨a, o, e1, I'.nsOwn hb, ho, c⟩)⟩
theorem q_fz (ha : PE X e (tE X.K B ss O O1 .fr f)) : PE X e (tE X.K B ss O O1 .fz f) := pe_imp ha fun σ H R ⟨F, ρ, g, d, g', I, ef, q⟩ => ⟨F, ρ, g, d, g', I, ef, fun x H' F' I' E r => by
  rcases r with ⟨_, r⟩ | ⟨a, o, e1, nf, np, hb, ho, c, ap⟩
  · exact q x H' F' I' E r
  · subst e1
    have st : Stay F' H' (fun b => F' b ∨ b = a) H' := ⟨fun _ f => .inl f, fun _ _ _ e => e, fun _ _ e => e⟩
    exact q _ H' (fun b => F' b ∨ b = a) (I'.freeze hb np ho ap) (E.trans ⟨st, fun _ _ _ e => e⟩) ((c.mono st).rep (.inr rfl) ho)⟩

/-! ### names, constants -/
def eV (i : Nat) : SE := fun ρ => mlift (ρ.getD i none)
def eC (d : D) : SE := fun _ => mret d
theorem getV {ρ : Ev} {i : Nat} {g g' : G} {d : D} (h : eV i ρ g = some (d, g')) : ρ[i]? = some (some d) ∧ g' = g := by
  unfold eV mlift at h
  rw [List.getD_eq_getElem?_getD] at h
  cases q : ρ[i]? with
  | none => rw [q] at h; cases h
  | some o =>
    rw [q] at h
    cases o with
    | none => cases h
    | some z => cases h; exact ⟨rfl, rfl⟩
theorem q_var (i : Nat) {x : Str} (hN : X.N[i]? = some x := by rfl) (hv : Vis X.env.scope x := by first | exact Or.inl rfl | exact Or.inr (Or.inl rfl) | exact Or.inr (Or.inr rfl)) (hd : (x == ("__debug__" : Str)) = false := by decide)
    (hcd : (x == ("__classdict__" : Str)) = false := by decide) : PE X (.Name x p) (tE X.K B ss O O .bw (eV i)) := pe_imp (pe_var hN hv hd hcd) fun σ H R ⟨F, ρ, g, d, g', I, ef, q⟩ => by
  obtain ⟨e1, rfl⟩ := getV ef
  obtain ⟨v, h1, h2⟩ := I.get e1
  exact ⟨v, h1, q v H F I .refl h2⟩
theorem q_varF (i : Nat) {x : Str} (hO : O.contains i = false := by rfl) (hN : X.N[i]? = some x := by rfl) (hv : Vis X.env.scope x := by first | exact Or.inl rfl | exact Or.inr (Or.inl rfl) | exact Or.inr (Or.inr rfl)) (hd : (x == ("__debug__" : Str)) = false := by decide)
    (hcd : (x == ("__classdict__" : Str)) = false := by decide) : PE X (.Name x p) (tE X.K B ss O O .fz (eV i)) := pe_imp (pe_var hN hv hd hcd) fun σ H R ⟨F, ρ, g, d, g', I, ef, q⟩ => by
  obtain ⟨e1, rfl⟩ := getV ef
  obtain ⟨v, h1, h2, _⟩ := I.var i d e1
  have hO' : i ∉ O := fun m => by rw [List.contains_iff_mem.mpr m] at hO; cases hO
  exact ⟨v, h1, q v H F I .refl (h2 hO')⟩
/-- an owned name, given away -/
theorem q_thaw (i : Nat) {x : Str} (hO : O.filter (· ≠ i) = O1 := by rfl) (hN : X.N[i]? = some x := by rfl) (hv : Vis X.env.scope x := by first | exact Or.inl rfl | exact Or.inr (Or.inl rfl) | exact Or.inr (Or.inr rfl)) (hd : (x == ("__debug__" : Str)) = false := by decide)
    (hcd : (x == ("__classdict__" : Str)) = false := by decide) : PE X (.Name x p) (tE X.K B ss O O1 .fz (eV i)) := pe_imp (pe_var hN hv hd hcd) fun σ H R ⟨F, ρ, g, d, g', I, ef, q⟩ => by
  subst hO
  obtain ⟨e1, rfl⟩ := getV ef
  obtain ⟨F', I', E⟩ := I.thaw i
  obtain ⟨v, h1, h2, _⟩ := I'.var i d e1
  exact ⟨v, h1, q v H F' I' E (h2 fun m => by simp [List.mem_filter] at m)⟩
theorem q_int {i : Int} {j} : PE X (.Constant (.int i) j p) (tE X.K B ss O O .fr (eC (.int i))) := pe_imp pe_int fun σ H R ⟨F, ρ, g, d, g', I, ef, q⟩ => by
  cases ef; exact I.fin q rfl (.int i)
theorem q_bl {i : Bool} {j} : PE X (.Constant (.bool i) j p) (tE X.K B ss O O .fr (eC (.bool i))) := pe_imp pe_bl fun σ H R ⟨F, ρ, g, d, g', I, ef, q⟩ => by
  cases ef; exact I.fin q rfl (.bl i)
theorem q_non {j} : PE X (.Constant .none j p) (tE X.K B ss O O .fr (eC .none)) := pe_imp pe_non fun σ H R ⟨F, ρ, g, d, g', I, ef, q⟩ => by
  cases ef; exact I.fin q rfl .non
theorem q_str {i : Str} {j} : PE X (.Constant (.str i) j p) (tE X.K B ss O O .fr (eC (.str i))) := pe_imp pe_str fun σ H R ⟨F, ρ, g, d, g', I, ef, q⟩ => by
  cases ef; exact I.fin q rfl (.str i)
/-- a module's int -/
theorem q_globI {x : Str} {i : Int} {w : Value} (hg : Gl X x) (hm : X.mg x = some w) (r : RelV (.int i) w) (hd : (x == ("__debug__" : Str)) = false := by decide) : PE X (.Name x p) (tE X.K B ss O O .fr (eC (.int i))) :=
  pe_imp (pe_glob hg hm r hd) fun σ H R ⟨F, ρ, g, d, g', I, ef, q⟩ => by cases ef; exact I.fin q rfl (.int i)

/-! ### operators by values -/
/-- an operation on two values, worth sem -/
def OpS (X : Cx) (B : Bs) (op : Value → Value → Sem Value) (sem : D → D → Option D) : Prop :=
  ∃ r, OpR X op r ∧ ∀ (ss : Option Nat) (O : List Nat) (F : Fz) (H : Hp) (σ : L2.St) (ρ : Ev) (g : G) (x y : V) (d e c : D) (R : VK), SInv X.K B ss O F H σ ρ g → BR X.K B F H x d → BR X.K B F H y e → sem d e = some c →
    (∀ x' H' F', SInv X.K B ss O F' H' σ ρ g → Ext B.src F H F' H' → KRep X.K B O F' H' σ ρ .fr x' c → R x' H') → r x y H R
def mguard {α : Type} (c : Bool) (m : M α) : M α := fun g => match c with
  | true => m g
  | false => none
theorem mguard_some {α : Type} {c : Bool} {m : M α} {g g2 : G} {z : α} (h : mguard c m g = some (z, g2)) : c = true ∧ m g = some (z, g2) := by
  cases c with
  | true => exact ⟨rfl, h⟩
  | false => cases h
def eOp (sem : D → D → Option D) (f h : SE) : SE := fun ρ => mbnd (f ρ) fun d => mbnd (h ρ) fun e => mlift (sem d e)
theorem mbnd_some {α β : Type} {m : M α} {k : α → M β} {g g2 : G} {z : β} (h : mbnd m k g = some (z, g2)) : ∃ y g1, m g = some (y, g1) ∧ k y g1 = some (z, g2) := by
  unfold mbnd at h
  split at h
  · exact ⟨_, _, by assumption, h⟩
  · cases h
theorem mlift_some {α : Type} {o : Option α} {g g2 : G} {z : α} (h : mlift o g = some (z, g2)) : o = some z ∧ g2 = g := by
  unfold mlift at h
  split at h
  · cases h; exact ⟨rfl, rfl⟩
  · cases h
theorem t_op {sem : D → D → Option D} {op : Value → Value → Sem Value} (ho : OpS X B op sem) : ∃ r, OpR X op r ∧ ∀ (f h : SE) (O O1 O2 : List Nat) σ H R, tE X.K B ss O O2 .fr (eOp sem f h) σ H R → tOp r (tE X.K B ss O O1 .bw f) (tE X.K B ss O1 O2 .bw h) σ H R := by
  obtain ⟨r, h1, h2⟩ := ho
  refine ⟨r, h1, fun f h O O1 O2 σ H R ⟨F, ρ, g, d, g', I, ef, q⟩ => ?_⟩
  obtain ⟨x, g1, e1, ef⟩ := mbnd_some ef
  obtain ⟨y, g2, e2, ef⟩ := mbnd_some ef
  obtain ⟨e3, rfl⟩ := mlift_some ef
  refine ⟨F, ρ, g, x, g1, I, e1, fun xv H1 F1 I1 E1 r1 => ⟨F1, ρ, g1, y, g', I1, e2, fun yv H2 F2 I2 E2 r2 => ?_⟩⟩
  exact h2 ss O2 F2 H2 σ ρ g' xv yv x y d R I2 (BR.mono E2 r1) r2 e3 fun x' H' F' I' E' r' => q x' H' F' I' (E1.trans (E2.trans E')) r'
theorem q_op {op : Operator} {sem : D → D → Option D} (ho : OpS X B (binaryOp op) sem) (ha : PE X a (tE X.K B ss O O1 .bw f)) (hb : PE X b (tE X.K B ss O1 O2 .bw h)) : PE X (.BinOp a op b pos) (tE X.K B ss O O2 .fr (eOp sem f h)) := by
  obtain ⟨r, h1, h2⟩ := t_op (ss := ss) ho
  exact pe_imp (pe_op h1 ha hb) fun σ H R q => h2 f h O O1 O2 σ H R q
theorem q_cmp {op : CmpOp} {sem : D → D → Option D} (ho : OpS X B (compareOp op) sem) (ha : PE X a (tE X.K B ss O O1 .bw f)) (hb : PE X b (tE X.K B ss O1 O2 .bw h)) (hm : behindInMarks op b = false := by rfl) : PE X (.Compare a [op] [b] pos) (tE X.K B ss O O2 .fr (eOp sem f h)) := by
  obtain ⟨r, h1, h2⟩ := t_op (ss := ss) ho
  exact pe_imp (pe_cmpR h1 ha hb hm) fun σ H R q => h2 f h O O1 O2 σ H R q
def bOf (f : SE) : ST := fun ρ => mbnd (f ρ) fun d => match d with
  | .bool k => mret k
  | _ => fun _ => none
theorem bOf_some {ρ : Ev} {g g' : G} {k : Bool} (h : bOf f ρ g = some (k, g')) : f ρ g = some (.bool k, g') := by
  obtain ⟨d, g1, e1, e2⟩ := mbnd_some h
  cases d <;> first | (cases e2; exact e1) | cases e2
theorem q_tcmp {op : CmpOp} {sem : D → D → Option D} (ho : OpS X B (compareOp op) sem) (ha : PE X a (tE X.K B ss O O1 .bw f)) (hb : PE X b (tE X.K B ss O1 O2 .bw h)) (hm : behindInMarks op b = false := by rfl) : PT X (.Compare a [op] [b] pos) (tB X.K B ss O O2 (bOf (eOp sem f h))) := by
  obtain ⟨r, h1, h2⟩ := t_op (ss := ss) ho
  refine pt_imp (pt_cmpR h1 ha hb hm) fun σ H R ⟨F, ρ, g, k, g', I, ef, q⟩ => ?_
  refine h2 f h O O1 O2 σ H _ ⟨F, ρ, g, .bool k, g', I, bOf_some ef, fun x H' F' I' E r => ⟨k, ?_, q H' F' I' E⟩⟩
  rcases r with ⟨_, r⟩ | ⟨a, o, _, _, _, _, _, c, _⟩
  · cases r; rfl
  · cases o <;> exact c.elim
/-- a < b < c -/
def eChain (s1 s2 : D → D → Option D) (f h k : SE) : SE := fun ρ => mbnd (f ρ) fun d => mbnd (h ρ) fun e => mbnd (mlift (s1 d e)) fun t => match t with
  | .bool true => mbnd (k ρ) fun z => mlift (s2 e z)
  | .bool false => mret (.bool false)
  | _ => fun _ => none
theorem KRep.bool {K : PySem.W.Frag} {F : Fz} {H : Hp} {σ : L2.St} {ρ : Ev} {kd : Kd} {x : V} {k : Bool} (r : KRep K B O F H σ ρ kd x (.bool k)) : x = .bl k := by
  cases kd with
  | fz => exact BR.bl (B := B) (.inl r)
  | bw => exact BR.bl r
  | fr =>
    rcases r with ⟨_, r⟩ | ⟨a, o, _, _, _, _, _, c, _⟩
    · exact BR.bl (B := B) (.inl r)
    · cases o <;> exact c.elim
theorem t_chain {s1 s2 : D → D → Option D} {o1 o2 : Value → Value → Sem Value} (h1 : OpS X B o1 s1) (h2 : OpS X B o2 s2) : ∃ r r', OpR X o1 r ∧ OpR X o2 r' ∧ ∀ (f h k : SE) (O : List Nat) σ H R, tE X.K B ss O O .fr (eChain s1 s2 f h k) σ H R →
    tChain r r' (tE X.K B ss O O .bw f) (tE X.K B ss O O .bw h) (tE X.K B ss O O .bw k) σ H R := by
  obtain ⟨r, a1, a2⟩ := h1
  obtain ⟨r', b1, b2⟩ := h2
  refine ⟨r, r', a1, b1, fun f h k O σ H R ⟨F, ρ, g, d, g', I, ef, q⟩ => ?_⟩
  obtain ⟨x, g1, e1, ef⟩ := mbnd_some ef
  obtain ⟨y, g2, e2, ef⟩ := mbnd_some ef
  obtain ⟨z, g3, e3, ef⟩ := mbnd_some ef
  obtain ⟨e4, rfl⟩ := mlift_some e3
  refine ⟨F, ρ, g, x, g1, I, e1, fun xv H1 F1 I1 E1 r1 => ⟨F1, ρ, g1, y, g3, I1, e2, fun yv H2 F2 I2 E2 r2 => ?_⟩⟩
  refine a2 ss O F2 H2 σ ρ g3 xv yv x y z _ I2 (BR.mono E2 r1) r2 e4 fun zv H3 F3 I3 E3 r3 => ?_
  cases z with
  | bool t =>
    refine ⟨t, r3.bool, ?_⟩
    cases t with
    | false =>
      cases ef
      rw [if_neg Bool.false_ne_true]
      exact q _ H3 F3 I3 (E1.trans (E2.trans E3)) (.inl ⟨rfl, .bl _⟩)
    | true =>
      rw [if_pos rfl]
      obtain ⟨w, g4, e5, e6⟩ := mbnd_some ef
      obtain ⟨e7, rfl⟩ := mlift_some e6
      refine ⟨F3, ρ, g3, w, g', I3, e5, fun wv H4 F4 I4 E4 r4 => ?_⟩
      exact b2 ss O F4 H4 σ ρ g' yv wv y w d R I4 (BR.mono (E3.trans E4) r2) r4 e7 fun x' H' F' I' E' r' => q x' H' F' I' (E1.trans (E2.trans (E3.trans (E4.trans E')))) r'
  | _ => cases ef
theorem q_chain {op op' : CmpOp} {s1 s2 : D → D → Option D} {k : SE} (h1 : OpS X B (compareOp op) s1) (h2 : OpS X B (compareOp op') s2) (ha : PE X a (tE X.K B ss O O .bw f)) (hb : PE X b (tE X.K B ss O O .bw h)) (hc : PE X c (tE X.K B ss O O .bw k))
    (hm : lastMarks [op, op'] [b, c] = false := by with_unfolding_all rfl) : PE X (.Compare a [op, op'] [b, c] pos) (tE X.K B ss O O .fr (eChain s1 s2 f h k)) := by
  obtain ⟨r, r', a1, b1, t⟩ := t_chain (ss := ss) h1 h2
  exact pe_imp (pe_chain a1 b1 ha hb hc hm) fun σ H R q => t f h k O σ H R q
theorem q_tchain {op op' : CmpOp} {s1 s2 : D → D → Option D} {k : SE} (h1 : OpS X B (compareOp op) s1) (h2 : OpS X B (compareOp op') s2) (ha : PE X a (tE X.K B ss O O .bw f)) (hb : PE X b (tE X.K B ss O O .bw h)) (hc : PE X c (tE X.K B ss O O .bw k))
    (hm : lastMarks [op, op'] [b, c] = false := by with_unfolding_all rfl) : PT X (.Compare a [op, op'] [b, c] pos) (tB X.K B ss O O (bOf (eChain s1 s2 f h k))) := by
  obtain ⟨r, r', a1, b1, t⟩ := t_chain (ss := ss) h1 h2
  exact pt_imp (pt_chain a1 b1 ha hb hc hm) fun σ H R ⟨F, ρ, g, z, g', I, ef, q⟩ => t f h k O σ H _ ⟨F, ρ, g, .bool z, g', I, bOf_some ef, fun x H' F' I' E r => ⟨z, r.bool, q H' F' I' E⟩⟩

/-! ### truth, and, or, not -/
def truD : D → Option Bool
  | .none => some false
  | .bool b => some b
  | .int i => some (i != 0)
  | .str y => if y.length ≤ sizeLine then some ((y.length : Int) != 0) else none
  | .list xs => some (!xs.isEmpty)
  | .tuple xs => some (!xs.isEmpty)
  | .dict _ => none
theorem truD_str {y : Str} {k : Bool} (h : truD (.str y) = some k) : y.length ≤ sizeLine ∧ k = ((y.length : Int) != 0) := by
  have h' : (if y.length ≤ sizeLine then some ((y.length : Int) != 0) else none) = some k := h
  by_cases q : y.length ≤ sizeLine
  · rw [if_pos q] at h'; exact ⟨q, (Option.some.inj h').symm⟩
  · rw [if_neg q] at h'; cases h'
def bTru (f : SE) : ST := fun ρ => mbnd (f ρ) fun d => mlift (truD d)
theorem RepAll.isEmpty {K : PySem.W.Frag} {F : Fz} {H : Hp} {xs : List V} {ds : List D} (r : RepAll K F H xs ds) : xs.isEmpty = ds.isEmpty := by cases r <;> rfl
theorem q_truth (ha : PE X a (tE X.K B ss O O1 .bw f)) (he : ∀ whole, isTrue a X.env whole = (do let v ← whole; standAt a.pos; holding [v] (truthy v)) := by intro _; rfl) : PT X a (tB X.K B ss O O1 (bTru f)) :=
  pt_imp (pt_truth ha he) fun σ H R ⟨F, ρ, g, k, g', I, ef, q⟩ => by
  obtain ⟨d, g1, e1, e2⟩ := mbnd_some ef
  obtain ⟨e3, rfl⟩ := mlift_some e2
  refine ⟨F, ρ, g, d, g', I, e1, fun x H' F' I' E r => ⟨k, ?_, q H' F' I' E⟩⟩
  cases d with
  | none => cases BR.non r; cases e3; rfl
  | bool t => cases BR.bl r; cases e3; rfl
  | int t => cases BR.int r; cases e3; rfl
  | str t =>
    cases BR.str r
    exact truD_str e3
  | list t =>
    obtain ⟨a, xs, e, h1, h2⟩ := BR.list r
    subst e
    cases e3
    exact .inl ⟨xs, .of h1, by rw [h2.isEmpty]⟩
  | tuple t =>
    obtain ⟨a, xs, e, h1, h2⟩ := BR.tup r
    subst e
    cases e3
    exact .inr (.inl ⟨xs, h1.sq, by rw [h2.isEmpty]⟩)
  | dict t => cases e3
/-- a value that is a bool, as a test -/
theorem q_tval (ha : PE X a (tE X.K B ss O O1 .bw f)) (he : ∀ whole, isTrue a X.env whole = (do let v ← whole; standAt a.pos; holding [v] (truthy v)) := by intro _; rfl) : PT X a (tB X.K B ss O O1 (bOf f)) :=
  pt_imp (pt_truth ha he) fun σ H R ⟨F, ρ, g, k, g', I, ef, q⟩ => ⟨F, ρ, g, .bool k, g', I, bOf_some ef, fun x H' F' I' E r => ⟨k, by cases BR.bl r; rfl, q H' F' I' E⟩⟩
def bAnd (u v : ST) : ST := fun ρ => mbnd (u ρ) fun k => if k then v ρ else mret false
def bOr (u v : ST) : ST := fun ρ => mbnd (u ρ) fun k => if k then mret true else v ρ
def bNot (u : ST) : ST := fun ρ => mbnd (u ρ) fun k => mret (!k)
theorem q_tnot (ha : PT X a (tB X.K B ss O O1 u)) : PT X (.UnaryOp .Not a pos) (tB X.K B ss O O1 (bNot u)) := pt_imp (pt_not ha) fun σ H R ⟨F, ρ, g, k, g', I, ef, q⟩ => by
  obtain ⟨d, g1, e1, e2⟩ := mbnd_some ef
  cases e2
  exact ⟨F, ρ, g, d, g', I, e1, q⟩
theorem q_and1 (ha : PT X a (tB X.K B ss O O u)) : PW X (.BoolOp .And [a] pos) (tB X.K B ss O O u) := pw_and1 ha
theorem q_or1 (ha : PT X a (tB X.K B ss O O u)) : PW X (.BoolOp .Or [a] pos) (tB X.K B ss O O u) := pw_or1 ha
theorem q_and (ha : PT X a (tB X.K B ss O O u)) (hb : PW X (.BoolOp .And (b :: es) pos) (tB X.K B ss O O v)) : PW X (.BoolOp .And (a :: b :: es) pos) (tB X.K B ss O O (bAnd u v)) := pw_imp (pw_and ha hb) fun σ H R ⟨F, ρ, g, k, g', I, ef, q⟩ => by
  obtain ⟨d, g1, e1, e2⟩ := mbnd_some ef
  refine ⟨F, ρ, g, d, g1, I, e1, fun H' F' I' E => ?_⟩
  cases d with
  | true => rw [if_pos rfl] at e2 ⊢; exact ⟨F', ρ, g1, k, g', I', e2, fun H2 F2 I2 E2 => q H2 F2 I2 (E.trans E2)⟩
  | false => rw [if_neg Bool.false_ne_true] at e2 ⊢; cases e2; exact q H' F' I' E
theorem q_or (ha : PT X a (tB X.K B ss O O u)) (hb : PW X (.BoolOp .Or (b :: es) pos) (tB X.K B ss O O v)) : PW X (.BoolOp .Or (a :: b :: es) pos) (tB X.K B ss O O (bOr u v)) := pw_imp (pw_or ha hb) fun σ H R ⟨F, ρ, g, k, g', I, ef, q⟩ => by
  obtain ⟨d, g1, e1, e2⟩ := mbnd_some ef
  refine ⟨F, ρ, g, d, g1, I, e1, fun H' F' I' E => ?_⟩
  cases d with
  | true => rw [if_pos rfl] at e2 ⊢; cases e2; exact q H' F' I' E
  | false => rw [if_neg Bool.false_ne_true] at e2 ⊢; exact ⟨F', ρ, g1, k, g', I', e2, fun H2 F2 I2 E2 => q H2 F2 I2 (E.trans E2)⟩
/-- .. as values -/
def eAnd (f h : SE) : SE := fun ρ => mbnd (f ρ) fun d => match d with
  | .bool true => h ρ
  | .bool false => mret (.bool false)
  | _ => fun _ => none
def eOr (f h : SE) : SE := fun ρ => mbnd (f ρ) fun d => match d with
  | .bool false => h ρ
  | .bool true => mret (.bool true)
  | _ => fun _ => none
def eNot (u : ST) : SE := fun ρ => mbnd (u ρ) fun k => mret (.bool (!k))
def eBool (f : SE) : SE := fun ρ => mbnd (f ρ) fun d => match d with
  | .bool k => mret (.bool k)
  | _ => fun _ => none
theorem q_vand1 (ha : PE X a (tE X.K B ss O O .bw f)) : PE X (.BoolOp .And [a] pos) (tE X.K B ss O O .bw f) := pe_one ha
theorem q_vor1 (ha : PE X a (tE X.K B ss O O .bw f)) : PE X (.BoolOp .Or [a] pos) (tE X.K B ss O O .bw f) := pe_one ha
theorem q_vand (ha : PE X a (tE X.K B ss O O .bw f)) (hb : PE X (.BoolOp .And (b :: es) pos) (tE X.K B ss O O .bw h)) : PE X (.BoolOp .And (a :: b :: es) pos) (tE X.K B ss O O .bw (eAnd f h)) := pe_imp (pe_and ha hb) fun σ H R ⟨F, ρ, g, k, g', I, ef, q⟩ => by
  obtain ⟨d, g1, e1, e2⟩ := mbnd_some ef
  refine ⟨F, ρ, g, d, g1, I, e1, fun x H' F' I' E r => ?_⟩
  cases d with
  | bool t =>
    refine ⟨t, BR.bl r, ?_⟩
    cases t with
    | true => rw [if_pos rfl]; exact ⟨F', ρ, g1, k, g', I', e2, fun x2 H2 F2 I2 E2 r2 => q x2 H2 F2 I2 (E.trans E2) r2⟩
    | false => rw [if_neg Bool.false_ne_true]; cases e2; exact q _ H' F' I' E (.inl (.bl _))
  | _ => cases e2
theorem q_vor (ha : PE X a (tE X.K B ss O O .bw f)) (hb : PE X (.BoolOp .Or (b :: es) pos) (tE X.K B ss O O .bw h)) : PE X (.BoolOp .Or (a :: b :: es) pos) (tE X.K B ss O O .bw (eOr f h)) := pe_imp (pe_or ha hb) fun σ H R ⟨F, ρ, g, k, g', I, ef, q⟩ => by
  obtain ⟨d, g1, e1, e2⟩ := mbnd_some ef
  refine ⟨F, ρ, g, d, g1, I, e1, fun x H' F' I' E r => ?_⟩
  cases d with
  | bool t =>
    refine ⟨t, BR.bl r, ?_⟩
    cases t with
    | true => rw [if_pos rfl]; cases e2; exact q _ H' F' I' E (.inl (.bl _))
    | false => rw [if_neg Bool.false_ne_true]; exact ⟨F', ρ, g1, k, g', I', e2, fun x2 H2 F2 I2 E2 r2 => q x2 H2 F2 I2 (E.trans E2) r2⟩
  | _ => cases e2
/-- what is known to be a bool is no container -/
theorem q_bool (ha : PE X a (tE X.K B ss O O1 .bw f)) : PE X a (tE X.K B ss O O1 .fr (eBool f)) := pe_imp ha fun σ H R ⟨F, ρ, g, k, g', I, ef, q⟩ => by
  obtain ⟨d, g1, e1, e2⟩ := mbnd_some ef
  cases d with
  | bool t => cases e2; exact ⟨F, ρ, g, _, _, I, e1, fun x H' F' I' E r => q x H' F' I' E (.inl ⟨rfl, by cases BR.bl r; exact .bl t⟩)⟩
  | _ => cases e2
/-- a if t else b -/
def eIf (u : ST) (f h : SE) : SE := fun ρ => mbnd (u ρ) fun k => if k then f ρ else h ρ
theorem q_ifE {kd : Kd} (hc : PT X c (tB X.K B ss O O1 u)) (ha : PE X a (tE X.K B ss O1 O2 kd f)) (hb : PE X b (tE X.K B ss O1 O2 kd h)) : PE X (.IfExp c a b pos) (tE X.K B ss O O2 kd (eIf u f h)) := pe_imp (pe_ifExp hc ha hb) fun σ H R ⟨F, ρ, g, k, g', I, ef, q⟩ => by
  obtain ⟨d, g1, e1, e2⟩ := mbnd_some ef
  refine ⟨F, ρ, g, d, g1, I, e1, fun H' F' I' E => ?_⟩
  cases d with
  | true => rw [if_pos rfl] at e2 ⊢; exact ⟨F', ρ, g1, k, g', I', e2, fun x2 H2 F2 I2 E2 r2 => q x2 H2 F2 I2 (E.trans E2) r2⟩
  | false => rw [if_neg Bool.false_ne_true] at e2 ⊢; exact ⟨F', ρ, g1, k, g', I', e2, fun x2 H2 F2 I2 E2 r2 => q x2 H2 F2 I2 (E.trans E2) r2⟩

/-! ### argument lists, displays -/
def sNil : SL := fun _ => mret []
def sCons (f : SE) (fs : SL) : SL := fun ρ => mbnd (f ρ) fun d => mbnd (fs ρ) fun ds => mret (d :: ds)
theorem q_nil : PA X [] (tF X.K B ss O O 0 sNil) := pa_imp pa_nil fun σ H R ⟨F, ρ, g, ds, g', I, ef, q⟩ => by
  cases ef; exact q [] H F I .refl .nil rfl
theorem q_cons (ha : PE X e (tE X.K B ss O O1 .fz f)) (hr : PA X es (tF X.K B ss O1 O2 n fs)) (hs : starEach (e :: es) X.env = (false, eval e X.env) :: starEach es X.env := by rfl) : PA X (e :: es) (tF X.K B ss O O2 (n + 1) (sCons f fs)) :=
  pa_imp (pa_cons ha hr hs) fun σ H R ⟨F, ρ, g, ds, g', I, ef, q⟩ => by
  obtain ⟨d, g1, e1, e2⟩ := mbnd_some ef
  obtain ⟨dr, g2, e3, e4⟩ := mbnd_some e2
  cases e4
  exact ⟨F, ρ, g, d, g1, I, e1, fun x H1 F1 I1 E1 r1 => ⟨F1, ρ, g1, dr, _, I1, e3, fun xs H2 F2 I2 E2 r2 l2 => q (x :: xs) H2 F2 I2 (E1.trans E2) (.cons (Rep.mono E2.stay r1) r2) (congrArg (· + 1) l2)⟩⟩
def eTup (fs : SL) : SE := fun ρ => mbnd (fs ρ) fun ds => mret (.tuple ds)
def eLst (fs : SL) : SE := fun ρ => mbnd (fs ρ) fun ds => mret (.list ds)
theorem q_tup {k} (h : PA X es (tF X.K B ss O O1 n fs)) (hz : n ≤ sizeLine := by decide) : PE X (.Tuple es k pos) (tE X.K B ss O O1 .fr (eTup fs)) := pe_imp (pe_tup h) fun σ H R ⟨F, ρ, g, d, g', I, ef, q⟩ => by
  obtain ⟨ds, g1, e1, e2⟩ := mbnd_some ef
  cases e2
  exact ⟨F, ρ, g, ds, _, I, e1, fun xs H1 F1 I1 E1 r l => ⟨by omega, fun p hp => I1.finT (fun x' H' F' I' E' r' => q x' H' F' I' (E1.trans E') r') r hp⟩⟩
theorem q_lst (h : PA X es (tF X.K B ss O O1 n fs)) (hz : n ≤ sizeLine := by decide) : PE X (.List es pos) (tE X.K B ss O O1 .fr (eLst fs)) := pe_imp (pe_lst h) fun σ H R ⟨F, ρ, g, d, g', I, ef, q⟩ => by
  obtain ⟨ds, g1, e1, e2⟩ := mbnd_some ef
  cases e2
  exact ⟨F, ρ, g, ds, _, I, e1, fun xs H1 F1 I1 E1 r l => ⟨by omega, fun p hp => I1.finL (fun x' H' F' I' E' r' => q x' H' F' I' (E1.trans E') r') r hp⟩⟩
end
end Q

set_option Elab.async false
set_option linter.all false
set_option maxRecDepth 100000
/-! QC: the pure layer: operators, subscripts, built-in functions. -/
namespace Q
open PySem PySem.Spec PyProof.Rows L2
section
variable {X : Cx} {B : Bs} {ss : Option Nat} {O O1 O2 O3 : List Nat} {a b c e : Expr} {es : List Expr} {f h : SE} {u v : ST} {fs : SL} {pos p : Pos} {n : Nat} {op : Value → Value → Sem Value}

theorem OpR.or {r r' : R2} (h : OpR X op r) (h' : OpR X op r') : OpR X op (fun x y H R => r x y H R ∨ r' x y H R) := fun pins s σ H x y v u R I rx ry q => q.elim (h pins s σ H x y v u R I rx ry) (h' pins s σ H x y v u R I rx ry)
theorem OpS.join {s1 s2 sem : D → D → Option D} (h1 : OpS X B op s1) (h2 : OpS X B op s2) (hs : ∀ d e c, sem d e = some c → s1 d e = some c ∨ s2 d e = some c) : OpS X B op sem := by
  obtain ⟨r, a1, a2⟩ := h1
  obtain ⟨r', b1, b2⟩ := h2
  exact ⟨_, OpR.or a1 b1, fun ss O F H σ ρ g x y d e c R I rx ry hc q => (hs d e c hc).elim (fun z => .inl (a2 ss O F H σ ρ g x y d e c R I rx ry z q)) fun z => .inr (b2 ss O F H σ ρ g x y d e c R I rx ry z q)⟩
theorem opS_I {C : Int → Int → Prop} {w : Int → Int → V} {k : Int → Int → D} {sem : D → D → Option D} (ho : OpR X op (rI C w)) (hk : ∀ (K : PySem.W.Frag) (F : Fz) (H : Hp) i j, isCont (k i j) = false ∧ Rep K F H (w i j) (k i j))
    (hs : ∀ d e c, sem d e = some c → ∃ i j, d = .int i ∧ e = .int j ∧ C i j ∧ c = k i j) : OpS X B op sem :=
  ⟨_, ho, fun ss O F H σ ρ g x y d e c R I rx ry hc q => by
    obtain ⟨i, j, rfl, rfl, h1, rfl⟩ := hs d e c hc
    exact ⟨i, j, rx.int, ry.int, h1, I.fin q (hk X.K F H i j).1 (hk X.K F H i j).2⟩⟩
theorem rI0_I {w : Int → Int → V} (ho : OpR X op (rI0 w)) : OpR X op (rI (fun _ _ => True) w) := fun pins s σ H x y v u R I rx ry ⟨i, j, e1, e2, _, q⟩ => ho pins s σ H x y v u R I rx ry ⟨i, j, e1, e2, q⟩
def iD (g : Int → Int → Int) (C : Int → Int → Bool) : D → D → Option D
  | .int i, .int j => if C i j then some (.int (g i j)) else none
  | _, _ => none
def iB (g : Int → Int → Bool) : D → D → Option D
  | .int i, .int j => some (.bool (g i j))
  | _, _ => none
theorem iD_some {g : Int → Int → Int} {C : Int → Int → Bool} {d e c : D} (h : iD g C d e = some c) : ∃ i j, d = .int i ∧ e = .int j ∧ C i j = true ∧ c = .int (g i j) := by
  unfold iD at h
  split at h
  · split at h
    · cases h; exact ⟨_, _, rfl, rfl, by assumption, rfl⟩
    · cases h
  · cases h
theorem iB_some {g : Int → Int → Bool} {d e c : D} (h : iB g d e = some c) : ∃ i j, d = .int i ∧ e = .int j ∧ True ∧ c = .bool (g i j) := by
  unfold iB at h
  split at h
  · cases h; exact ⟨_, _, rfl, rfl, trivial, rfl⟩
  · cases h
def smallI (i : Int) : Bool := decide (i.natAbs < 2 ^ 64)
def cMul (i j : Int) : Bool := decide (i.natAbs.log2 + j.natAbs.log2 < 1000000) || smallI i || smallI j
theorem cMul_ok {i j : Int} (h : cMul i j = true) : IntMulOk i j := by
  unfold cMul smallI at h
  rw [Bool.or_eq_true, Bool.or_eq_true] at h
  rcases h with (h | h) | h
  · exact CMulW.ok (i := i) (j := j) (of_decide_eq_true h : i.natAbs.log2 + j.natAbs.log2 < 1000000)
  · have h := of_decide_eq_true h; exact CMul.ok (.inl ⟨by omega, by omega⟩)
  · have h := of_decide_eq_true h; exact CMul.ok (.inr ⟨by omega, by omega⟩)
def cDiv (_ j : Int) : Bool := decide (0 < j) && decide (j.natAbs.log2 < 9000)
def cMod (_ j : Int) : Bool := decide (0 < j)
def cPow (i j : Int) : Bool := decide (0 ≤ j) && decide (j ≤ 1000000) && decide (i.natAbs < 2 ^ 64)
def sSub : D → D → Option D := iD (fun i j => i - j) fun _ _ => true
def sDiv : D → D → Option D := iD (fun i j => i / j) cDiv
def sMod : D → D → Option D := iD (fun i j => i % j) cMod
def sPow : D → D → Option D := iD (fun i j => i ^ j.toNat) cPow
def sLt : D → D → Option D := iB fun i j => decide (i < j)
def sLe : D → D → Option D := iB fun i j => decide (i ≤ j)
def sGt : D → D → Option D := iB fun i j => decide (j < i)
def sGe : D → D → Option D := iB fun i j => decide (j ≤ i)
theorem o_sub : OpS X B (binaryOp .Sub) sSub := opS_I (rI0_I op_sub) (fun _ _ _ i j => ⟨rfl, .int (i - j)⟩) fun d e c h => by
  obtain ⟨i, j, h1, h2, _, h3⟩ := iD_some h; exact ⟨i, j, h1, h2, trivial, h3⟩
theorem o_div : OpS X B (binaryOp .FloorDiv) sDiv := opS_I op_fdivW (fun _ _ _ i j => ⟨rfl, .int (i / j)⟩) fun d e c h => by
  obtain ⟨i, j, h1, h2, h4, h3⟩ := iD_some h
  unfold cDiv at h4
  rw [Bool.and_eq_true] at h4
  exact ⟨i, j, h1, h2, ⟨of_decide_eq_true h4.1, of_decide_eq_true h4.2⟩, h3⟩
theorem o_mod : OpS X B (binaryOp .Mod) sMod := opS_I op_mod (fun _ _ _ i j => ⟨rfl, .int (i % j)⟩) fun d e c h => by
  obtain ⟨i, j, h1, h2, h4, h3⟩ := iD_some h; exact ⟨i, j, h1, h2, of_decide_eq_true h4, h3⟩
theorem o_pow : OpS X B (binaryOp .Pow) sPow := opS_I op_pow (fun _ _ _ i j => ⟨rfl, .int (i ^ j.toNat)⟩) fun d e c h => by
  obtain ⟨i, j, h1, h2, h4, h3⟩ := iD_some h
  unfold cPow at h4
  rw [Bool.and_eq_true, Bool.and_eq_true] at h4
  exact ⟨i, j, h1, h2, ⟨of_decide_eq_true h4.1.1, of_decide_eq_true h4.1.2, of_decide_eq_true h4.2⟩, h3⟩
theorem o_lt : OpS X B (compareOp .Lt) sLt := opS_I (rI0_I op_lt) (fun _ _ _ i j => ⟨rfl, .bl (decide (i < j))⟩) fun d e c h => iB_some h
theorem o_le : OpS X B (compareOp .LtE) sLe := opS_I (rI0_I op_le) (fun _ _ _ i j => ⟨rfl, .bl (decide (i ≤ j))⟩) fun d e c h => iB_some h
theorem o_gt : OpS X B (compareOp .Gt) sGt := opS_I (rI0_I op_gt) (fun _ _ _ i j => ⟨rfl, .bl (decide (j < i))⟩) fun d e c h => iB_some h
theorem o_ge : OpS X B (compareOp .GtE) sGe := opS_I (rI0_I op_ge) (fun _ _ _ i j => ⟨rfl, .bl (decide (j ≤ i))⟩) fun d e c h => iB_some h

/-! ### + and * of all sorts -/
def sAddI : D → D → Option D := iD (fun i j => i + j) fun _ _ => true
def sAddS : D → D → Option D
  | .str i, .str j => if i.length + j.length ≤ sizeLine then some (.str (i ++ j)) else none
  | _, _ => none
def sAddL : D → D → Option D
  | .list i, .list j => if i.length + j.length ≤ sizeLine then some (.list (i ++ j)) else none
  | _, _ => none
def sAddT : D → D → Option D
  | .tuple i, .tuple j => if i.length + j.length ≤ sizeLine then some (.tuple (i ++ j)) else none
  | _, _ => none
theorem o_addI : OpS X B (binaryOp .Add) sAddI := opS_I (rI0_I op_add) (fun _ _ _ i j => ⟨rfl, .int (i + j)⟩) fun d e c h => by
  obtain ⟨i, j, h1, h2, _, h3⟩ := iD_some h; exact ⟨i, j, h1, h2, trivial, h3⟩
theorem o_addS : OpS X B (binaryOp .Add) sAddS := ⟨_, op_add_str, fun ss O F H σ ρ g x y d e c R I rx ry hc q => by
  unfold sAddS at hc
  split at hc
  · split at hc
    · cases hc; exact ⟨_, _, rx.str, ry.str, by assumption, I.fin q rfl (.str _)⟩
    · cases hc
  · cases hc⟩
theorem o_addL : OpS X B (binaryOp .Add) sAddL := ⟨_, op_cat, fun ss O F H σ ρ g x y d e c R I rx ry hc q => by
  unfold sAddL at hc
  split at hc
  · split at hc
    · cases hc
      obtain ⟨l1, xs, e1, h1, r1⟩ := rx.list
      obtain ⟨l2, ys, e2, h2, r2⟩ := ry.list
      exact ⟨l1, l2, xs, ys, e1, e2, h1, h2, by rw [r1.length, r2.length]; assumption, fun p hp => I.finL q (r1.append r2) hp⟩
    · cases hc
  · cases hc⟩
theorem o_addT : OpS X B (binaryOp .Add) sAddT := ⟨_, op_catA, fun ss O F H σ ρ g x y d e c R I rx ry hc q => by
  unfold sAddT at hc
  split at hc
  · split at hc
    · cases hc
      obtain ⟨l1, xs, e1, h1, r1⟩ := rx.tup
      obtain ⟨l2, ys, e2, h2, r2⟩ := ry.tup
      refine ⟨l1, l2, xs, ys, e1, e2, h1.sq, h2.sq, by rw [r1.length, r2.length]; assumption, fun z => ?_, fun _ z => ?_, fun _ _ p hp => I.finT q (r1.append r2) hp⟩
      · subst z; cases r1; exact I.fin q rfl (.tup h2 r2)
      · subst z; cases r2; rw [List.append_nil] at q; exact I.fin q rfl (.tup h1 r1)
    · cases hc
  · cases hc⟩
def sAdd (d e : D) : Option D := match d, e with
  | .int i, .int j => some (.int (i + j))
  | .str i, .str j => if i.length + j.length ≤ sizeLine then some (.str (i ++ j)) else none
  | .list i, .list j => if i.length + j.length ≤ sizeLine then some (.list (i ++ j)) else none
  | .tuple i, .tuple j => if i.length + j.length ≤ sizeLine then some (.tuple (i ++ j)) else none
  | _, _ => none
theorem o_add : OpS X B (binaryOp .Add) sAdd :=
  OpS.join (OpS.join o_addI o_addS (sem := fun d e => match d, e with
    | .int i, .int j => some (.int (i + j))
    | d, e => sAddS d e) fun d e c h => by
      split at h
      · exact .inl h
      · exact .inr h) (OpS.join o_addL o_addT (sem := fun d e => match d, e with
    | .list i, .list j => sAddL (.list i) (.list j)
    | d, e => sAddT d e) fun d e c h => by
      split at h
      · exact .inl h
      · exact .inr h) fun d e c h => by
    unfold sAdd at h
    split at h
    · exact .inl h
    · exact .inl h
    · exact .inr h
    · exact .inr h
    · cases h
def sMulI : D → D → Option D := iD (fun i j => i * j) cMul
def sMulL : D → D → Option D
  | .list i, .int k => if k.natAbs < 2 ^ 63 ∧ i.length * k.toNat ≤ sizeLine then some (.list (List.replicate k.toNat i).flatten) else none
  | _, _ => none
theorem RepAll.rep {K : PySem.W.Frag} {F : Fz} {H : Hp} {xs : List V} {ds : List D} (r : RepAll K F H xs ds) : ∀ k, RepAll K F H (List.replicate k xs).flatten (List.replicate k ds).flatten
  | 0 => .nil
  | k + 1 => by rw [List.replicate_succ, List.replicate_succ, List.flatten_cons, List.flatten_cons]; exact r.append (r.rep k)
theorem op_mulA : OpR X (binaryOp .Mult) (rI IntMulOk fun i j => .int (i * j)) := opI fun _ _ _ _ _ _ _ hc q => mul_int q hc
theorem o_mulI : OpS X B (binaryOp .Mult) sMulI := opS_I op_mulA (fun _ _ _ i j => ⟨rfl, .int (i * j)⟩) fun d e c h => by
  obtain ⟨i, j, h1, h2, h4, h3⟩ := iD_some h
  exact ⟨i, j, h1, h2, cMul_ok h4, h3⟩
theorem o_mulL : OpS X B (binaryOp .Mult) sMulL := ⟨_, op_rep, fun ss O F H σ ρ g x y d e c R I rx ry hc q => by
  unfold sMulL at hc
  split at hc
  · split at hc
    · rename_i hz
      cases hc
      obtain ⟨l1, xs, e1, h1, r1⟩ := rx.list
      exact ⟨l1, _, xs, e1, ry.int, h1, by have := hz.1; omega, by have := hz.1; omega, by rw [r1.length]; exact hz.2, fun p hp => I.finL q (r1.rep _) hp⟩
    · cases hc
  · cases hc⟩
def sMul (d e : D) : Option D := match d, e with
  | .int i, .int j => if cMul i j then some (.int (i * j)) else none
  | .list i, .int k => if k.natAbs < 2 ^ 63 ∧ i.length * k.toNat ≤ sizeLine then some (.list (List.replicate k.toNat i).flatten) else none
  | _, _ => none
theorem o_mul : OpS X B (binaryOp .Mult) sMul := OpS.join o_mulI o_mulL fun d e c h => by
  unfold sMul at h
  split at h
  · exact .inl h
  · exact .inr h
  · cases h

/-! ### == -/
mutual
theorem Rep.dp {K : PySem.W.Frag} {F : Fz} {H : Hp} : ∀ {v : V} {d : D}, Rep K F H v d → d.canLay0 = true → Dp K H v d
  | _, _, .non, _ => .non
  | _, _, .bl b, _ => .bl b
  | _, _, .int i, _ => .int i
  | _, _, .str s, _ => .str s
  | _, _, .tup h r, q => .tup h.sq (RepAll.dp r (by simpa [PyData.canLay0] using q))
  | _, _, .lst _ h r, q => .lst (.of h) (RepAll.dp r (by simpa [PyData.canLay0] using q))
  | _, _, .dK _ _ _ _, q => by simp [PyData.canLay0] at q
  | _, _, .dT _ _ _ _, q => by simp [PyData.canLay0] at q
theorem RepAll.dp {K : PySem.W.Frag} {F : Fz} {H : Hp} : ∀ {v : List V} {d : List D}, RepAll K F H v d → PyData.canLayAll0 d = true → DpAll K H v d
  | _, _, .nil, _ => .nil
  | _, _, .cons h r, q => by
    have q' : _ ∧ _ := Bool.and_eq_true_iff.mp (by simpa [PyData.canLayAll0] using q)
    exact .cons (Rep.dp h q'.1) (RepAll.dp r q'.2)
end
theorem BR.dp {K : PySem.W.Frag} {F : Fz} {H : Hp} {x : V} {d : D} (h : BR K B F H x d) (q : d.canLay0 = true) : Dp K H x d := by
  rcases h with h | ⟨a, o, e, _, ho, c⟩
  · exact h.dp q
  · subst e
    unfold Cont at c
    split at c
    · exact .lst (.of ho) (RepAll.dp c (by simpa [PyData.canLay0] using q))
    · simp [PyData.canLay0] at q
    · simp [PyData.canLay0] at q
    · exact c.elim
def sEqD (d e : D) : Option D := if SeqAt.shaped d && SeqAt.shaped e then some (.bool (PyData.eqv d e)) else none
def sNeD (d e : D) : Option D := if SeqAt.shaped d && SeqAt.shaped e then some (.bool (!PyData.eqv d e)) else none
theorem o_eqD (hu : X.A.units + 64 < cLine) : OpS X B (compareOp .Eq) sEqD := ⟨_, op_eqD hu, fun ss O F H σ ρ g x y d e c R I rx ry hc q => by
  unfold sEqD at hc
  split at hc
  · rename_i hs
    cases hc
    rw [Bool.and_eq_true] at hs
    exact ⟨d, e, rx.dp (SeqAt.canLay_of_shaped hs.1), ry.dp (SeqAt.canLay_of_shaped hs.2), hs.1, hs.2, I.fin q rfl (.bl _)⟩
  · cases hc⟩
theorem o_neD (hu : X.A.units + 64 < cLine) : OpS X B (compareOp .NotEq) sNeD := ⟨_, op_neD hu, fun ss O F H σ ρ g x y d e c R I rx ry hc q => by
  unfold sNeD at hc
  split at hc
  · rename_i hs
    cases hc
    rw [Bool.and_eq_true] at hs
    exact ⟨d, e, rx.dp (SeqAt.canLay_of_shaped hs.1), ry.dp (SeqAt.canLay_of_shaped hs.2), hs.1, hs.2, I.fin q rfl (.bl _)⟩
  · cases hc⟩
def sEqT : D → D → Option D
  | .str a, .str b => some (.bool (decide (a = b)))
  | _, _ => none
def sNeT : D → D → Option D
  | .str a, .str b => some (.bool (!decide (a = b)))
  | _, _ => none
theorem str_iff {a b : Str} : decide (V.str a = V.str b) = decide (a = b) := by rw [Bool.eq_iff_iff]; simp
theorem o_eqT : OpS X B (compareOp .Eq) sEqT := ⟨_, op_eq, fun ss O F H σ ρ g x y d e c R I rx ry hc q => by
  unfold sEqT at hc
  split at hc
  · cases hc
    cases BR.str rx
    cases BR.str ry
    exact ⟨rfl, by rw [str_iff]; exact I.fin q rfl (.bl _)⟩
  · cases hc⟩
theorem o_neT : OpS X B (compareOp .NotEq) sNeT := ⟨_, op_ne, fun ss O F H σ ρ g x y d e c R I rx ry hc q => by
  unfold sNeT at hc
  split at hc
  · cases hc
    cases BR.str rx
    cases BR.str ry
    exact ⟨rfl, by rw [str_iff]; exact I.fin q rfl (.bl _)⟩
  · cases hc⟩
def sEq (d e : D) : Option D := match d, e with
  | .str a, .str b => some (.bool (decide (a = b)))
  | d, e => sEqD d e
def sNe (d e : D) : Option D := match d, e with
  | .str a, .str b => some (.bool (!decide (a = b)))
  | d, e => sNeD d e
theorem o_eq (hu : X.A.units + 64 < cLine) : OpS X B (compareOp .Eq) sEq := OpS.join o_eqT (o_eqD hu) fun d e c h => by
  unfold sEq at h
  split at h
  · exact .inl h
  · exact .inr h
theorem o_ne (hu : X.A.units + 64 < cLine) : OpS X B (compareOp .NotEq) sNe := OpS.join o_neT (o_neD hu) fun d e c h => by
  unfold sNe at h
  split at h
  · exact .inl h
  · exact .inr h
/-- x is True, x is not True, x is None -/
def sIsB : D → D → Option D
  | .bool i, .bool j => some (.bool (decide (i = j)))
  | _, _ => none
def sNotB : D → D → Option D
  | .bool i, .bool j => some (.bool (!decide (i = j)))
  | _, _ => none
theorem o_isB : OpS X B (compareOp .Is) sIsB := ⟨_, op_is_bl, fun ss O F H σ ρ g x y d e c R I rx ry hc q => by
  unfold sIsB at hc
  split at hc
  · cases hc; exact ⟨_, _, rx.bl, ry.bl, I.fin q rfl (.bl _)⟩
  · cases hc⟩
theorem o_notB : OpS X B (compareOp .IsNot) sNotB := ⟨_, op_isnot_bl, fun ss O F H σ ρ g x y d e c R I rx ry hc q => by
  unfold sNotB at hc
  split at hc
  · cases hc; exact ⟨_, _, rx.bl, ry.bl, I.fin q rfl (.bl _)⟩
  · cases hc⟩
def isNon : D → Bool
  | .none => true
  | _ => false
theorem BR.isNon {K : PySem.W.Frag} {F : Fz} {H : Hp} {x : V} {d : D} (h : BR K B F H x d) : decide (x = .non) = isNon d := by
  cases d with
  | none => rw [h.non]; rfl
  | bool k => rw [h.bl]; rfl
  | int k => rw [h.int]; rfl
  | str k => rw [h.str]; rfl
  | list k => obtain ⟨a, xs, e, _⟩ := h.list; rw [e]; rfl
  | tuple k => obtain ⟨a, xs, e, _⟩ := h.tup; rw [e]; rfl
  | dict k =>
    rcases h with h | ⟨a, o, e, _⟩
    · cases h <;> rfl
    · rw [e]; rfl
def sIsN : D → D → Option D
  | d, .none => some (.bool (isNon d))
  | _, _ => none
def sNotN : D → D → Option D
  | d, .none => some (.bool (!isNon d))
  | _, _ => none
theorem o_isN : OpS X B (compareOp .Is) sIsN := ⟨_, op_isN, fun ss O F H σ ρ g x y d e c R I rx ry hc q => by
  unfold sIsN at hc
  split at hc
  · cases hc; exact ⟨ry.non, by rw [rx.isNon]; exact I.fin q rfl (.bl _)⟩
  · cases hc⟩
theorem o_notN : OpS X B (compareOp .IsNot) sNotN := ⟨_, op_notN, fun ss O F H σ ρ g x y d e c R I rx ry hc q => by
  unfold sNotN at hc
  split at hc
  · cases hc; exact ⟨ry.non, by rw [rx.isNon]; exact I.fin q rfl (.bl _)⟩
  · cases hc⟩
/-- x in xs, x not in xs: lists -/
def sInL (d e : D) : Option D := match e with
  | .list ds => if SeqAt.shaped d && SeqAt.shaped (.list ds) then some (.bool (ds.any fun z => PyData.eqv z d)) else none
  | _ => none
def sNiL (d e : D) : Option D := match e with
  | .list ds => if SeqAt.shaped d && SeqAt.shaped (.list ds) then some (.bool (!ds.any fun z => PyData.eqv z d)) else none
  | _ => none
theorem o_inL (hu : X.A.units + 65 < cLine) : OpS X B (compareOp .In) sInL := ⟨_, op_inD hu, fun ss O F H σ ρ g x y d e c R I rx ry hc q => by
  unfold sInL at hc
  split at hc
  · split at hc
    · rename_i hs
      cases hc
      rw [Bool.and_eq_true] at hs
      exact ⟨d, _, rx.dp (SeqAt.canLay_of_shaped hs.1), ry.dp (SeqAt.canLay_of_shaped hs.2), hs.1, hs.2, I.fin q rfl (.bl _)⟩
    · cases hc
  · cases hc⟩
theorem o_niL (hu : X.A.units + 65 < cLine) : OpS X B (compareOp .NotIn) sNiL := ⟨_, op_notInD hu, fun ss O F H σ ρ g x y d e c R I rx ry hc q => by
  unfold sNiL at hc
  split at hc
  · split at hc
    · rename_i hs
      cases hc
      rw [Bool.and_eq_true] at hs
      exact ⟨d, _, rx.dp (SeqAt.canLay_of_shaped hs.1), ry.dp (SeqAt.canLay_of_shaped hs.2), hs.1, hs.2, I.fin q rfl (.bl _)⟩
    · cases hc
  · cases hc⟩
/-- -a -/
def eNeg (f : SE) : SE := fun ρ => mbnd (f ρ) fun d => match d with
  | .int i => mret (.int (-i))
  | _ => fun _ => none
theorem q_neg (ha : PE X a (tE X.K B ss O O1 .bw f)) : PE X (.UnaryOp .USub a pos) (tE X.K B ss O O1 .fr (eNeg f)) := pe_imp (pe_un un_neg ha) fun σ H R ⟨F, ρ, g, d, g', I, ef, q⟩ => by
  obtain ⟨x, g1, e1, e2⟩ := mbnd_some ef
  cases x with
  | int i => cases e2; exact ⟨F, ρ, g, _, _, I, e1, fun xv H1 F1 I1 E1 r1 => ⟨i, BR.int r1, q _ H1 F1 I1 E1 (.inl ⟨rfl, .int _⟩)⟩⟩
  | _ => cases e2
/-- not a, as a value -/
theorem q_not (ha : PE X a (tE X.K B ss O O1 .bw f)) : PE X (.UnaryOp .Not a pos) (tE X.K B ss O O1 .fr (eNot (bOf f))) := pe_imp (pe_not ha) fun σ H R ⟨F, ρ, g, d, g', I, ef, q⟩ => by
  obtain ⟨x, g1, e1, e2⟩ := mbnd_some ef
  cases e2
  exact ⟨F, ρ, g, .bool x, _, I, bOf_some e1, fun xv H1 F1 I1 E1 r1 => ⟨x, BR.bl r1, q _ H1 F1 I1 E1 (.inl ⟨rfl, .bl _⟩)⟩⟩

/-! ### subscripts -/
theorem RepAll.atI {K : PySem.W.Frag} {F : Fz} {H : Hp} {xs : List V} {ds : List D} (r : RepAll K F H xs ds) {i : Int} {d : D} (h : L2.atI ds i = some d) : ∃ x, L2.atI xs i = some x ∧ Rep K F H x d := by
  unfold L2.atI at h ⊢
  rw [r.length]
  cases q : ixN ds.length i with
  | none => rw [q] at h; cases h
  | some j => rw [q] at h; exact r.get (by simpa using h)
/-- an item of a list, a tuple, a text -/
def sIx : D → D → Option D
  | .list ds, .int i => L2.atI ds i
  | .tuple ds, .int i => L2.atI ds i
  | .str z, .int i => if z.length ≤ sizeLine then (L2.atI z.cps.toList i).map fun c => .str ⟨#[c]⟩ else none
  | _, _ => none
theorem q_ix (ha : PE X a (tE X.K B ss O O1 .bw f)) (hb : PE X b (tE X.K B ss O1 O2 .bw h)) (hs : PlainIx b := by exact fun _ _ => rfl) : PE X (.Subscript a b pos) (tE X.K B ss O O2 .fz (eOp sIx f h)) := pe_imp (pe_ix ix_seq ha hb hs) fun σ H R ⟨F, ρ, g, d, g', I, ef, q⟩ => by
  obtain ⟨x, g1, e1, e2⟩ := mbnd_some ef
  obtain ⟨y, g2, e3, e4⟩ := mbnd_some e2
  obtain ⟨e5, rfl⟩ := mlift_some e4
  refine ⟨F, ρ, g, x, g1, I, e1, fun xv H1 F1 I1 E1 r1 => ⟨F1, ρ, g1, y, g', I1, e3, fun yv H2 F2 I2 E2 r2 => ?_⟩⟩
  have r1' := BR.mono E2 r1
  unfold sIx at e5
  split at e5
  · obtain ⟨l, xs, e, hl, r⟩ := r1'.list
    obtain ⟨z, hz, rz⟩ := r.atI e5
    exact .inl ⟨l, xs, _, z, e, BR.int r2, .of hl, hz, q z H2 F2 I2 (E1.trans E2) rz⟩
  · obtain ⟨l, xs, e, hl, r⟩ := r1'.tup
    obtain ⟨z, hz, rz⟩ := r.atI e5
    exact .inr (.inl ⟨l, xs, _, z, e, BR.int r2, hl.sq, hz, q z H2 F2 I2 (E1.trans E2) rz⟩)
  · split at e5
    · rename_i z i hz
      cases w : L2.atI z.cps.toList i with
      | none => rw [w] at e5; cases e5
      | some c => rw [w] at e5; cases e5; exact .inr (.inr ⟨z, i, c, r1'.str, BR.int r2, hz, w, q _ H2 F2 I2 (E1.trans E2) (.str _)⟩)
    · cases e5
  · cases e5
/-- slices of lists, tuples, texts -/
def cutD {α : Type} (xs : List α) (lo hi : Option Int) : List α := (xs.drop (HT.sIx xs.length 0 lo)).take (HT.sIx xs.length xs.length hi - HT.sIx xs.length 0 lo)
theorem RepAll.cut {K : PySem.W.Frag} {F : Fz} {H : Hp} {xs : List V} {ds : List D} (r : RepAll K F H xs ds) (lo hi : Option Int) : RepAll K F H (cutV xs lo hi) (cutD ds lo hi) := by
  unfold cutV cutD
  rw [r.length]
  exact (r.drop _).take _
def sCut (lo hi : Option Int) : D → Option D
  | .list ds => some (.list (cutD ds lo hi))
  | .tuple ds => some (.tuple (cutD ds lo hi))
  | .str z => if z.length ≤ sizeLine then some (.str (cutS z lo hi)) else none
  | _ => none
abbrev SO := Ev → M (Option Int)
def oNone : SO := fun _ => mret none
def oInt (f : SE) : SO := fun ρ => mbnd (f ρ) fun d => match d with
  | .int i => mret (some i)
  | _ => fun _ => none
def tO (K : PySem.W.Frag) (B : Bs) (ss : Option Nat) (O O' : List Nat) (f : SO) : TO := fun σ H R => ∃ F ρ g d g', SInv K B ss O F H σ ρ g ∧ f ρ g = some (d, g') ∧ ∀ H' F', SInv K B ss O' F' H' σ ρ g' → Ext B.src F H F' H' → R d H'
theorem po_imp {e : Option Expr} {t t' : TO} (h : PO X e t) (i : ∀ σ H R, t' σ H R → t σ H R) : PO X e t' := ⟨fun pins s σ H R I q => h.run pins s σ H R I (i σ H R q)⟩
theorem q_onone : PO X none (tO X.K B ss O O oNone) := po_imp po_none fun σ H R ⟨F, ρ, g, d, g', I, ef, q⟩ => by cases ef; exact q H F I .refl
theorem q_oint (ha : PE X a (tE X.K B ss O O1 .bw f)) : PO X (some a) (tO X.K B ss O O1 (oInt f)) := po_imp (po_some ha) fun σ H R ⟨F, ρ, g, d, g', I, ef, q⟩ => by
  obtain ⟨x, g1, e1, e2⟩ := mbnd_some ef
  cases x with
  | int i => cases e2; exact ⟨F, ρ, g, _, _, I, e1, fun xv H1 F1 I1 E1 r1 => ⟨i, BR.int r1, q H1 F1 I1 E1⟩⟩
  | _ => cases e2
def eCut (f : SE) (lo hi : SO) : SE := fun ρ => mbnd (f ρ) fun d => mbnd (lo ρ) fun l => mbnd (hi ρ) fun h => mlift (sCut l h d)
theorem cut_full {α : Type} {xs : List α} {lo hi : Option Int} (z : HT.sIx xs.length 0 lo = 0 ∧ HT.sIx xs.length xs.length hi = xs.length) : cutD xs lo hi = xs := by
  unfold cutD
  rw [z.1, z.2]
  simp
theorem q_cut {lo hi : SO} {l r : Option Expr} {p2 : Pos} (ha : PE X a (tE X.K B ss O O .bw f)) (hl : PO X l (tO X.K B ss O O lo)) (hh : PO X r (tO X.K B ss O O hi)) : PE X (.Subscript a (.Slice l r none p2) pos) (tE X.K B ss O O .fr (eCut f lo hi)) :=
  pe_imp (pe_slice (SlR.or sl_list (SlR.or sl_tupA sl_str)) ha hl hh) fun σ H R ⟨F, ρ, g, d, g', I, ef, q⟩ => by
  obtain ⟨x, g1, e1, e2⟩ := mbnd_some ef
  obtain ⟨y, g2, e3, e4⟩ := mbnd_some e2
  obtain ⟨z, g3, e5, e6⟩ := mbnd_some e4
  obtain ⟨e7, rfl⟩ := mlift_some e6
  refine ⟨F, ρ, g, x, g1, I, e1, fun xv H1 F1 I1 E1 r1 => ⟨F1, ρ, g1, y, g2, I1, e3, fun H2 F2 I2 E2 => ⟨F2, ρ, g2, z, g', I2, e5, fun H3 F3 I3 E3 => ?_⟩⟩⟩
  have r3 := BR.mono (E2.trans E3) r1
  have q' : ∀ x' H' F', SInv X.K B ss O F' H' σ ρ g' → Ext B.src F3 H3 F' H' → KRep X.K B O F' H' σ ρ .fr x' d → R x' H' := fun x' H' F' I' E' r' => q x' H' F' I' (E1.trans (E2.trans (E3.trans E'))) r'
  unfold sCut at e7
  split at e7
  · cases e7
    obtain ⟨l1, xs, e, hl, rr⟩ := r3.list
    exact .inl ⟨l1, xs, e, .of hl, fun p hp => I3.finL q' (rr.cut y z) hp⟩
  · cases e7
    obtain ⟨l1, xs, e, hl, rr⟩ := r3.tup
    refine .inr (.inl ⟨l1, xs, e, hl.sq, fun w => ?_, fun _ p hp => I3.finT q' (rr.cut y z) hp⟩)
    rw [rr.length] at w
    exact I3.fin q' rfl (by rw [cut_full w]; exact .tup hl rr)
  · split at e7
    · cases e7; exact .inr (.inr ⟨_, r3.str, by assumption, I3.fin q' rfl (.str _)⟩)
    · cases e7
  · cases e7

/-! ### built-in functions, by values -/
def BRAll (K : PySem.W.Frag) (B : Bs) (F : Fz) (H : Hp) : List V → List D → Prop
  | [], [] => True
  | x :: xs, d :: ds => BR K B F H x d ∧ BRAll K B F H xs ds
  | _, _ => False
theorem BRAll.mono {K : PySem.W.Frag} {F F' : Fz} {H H' : Hp} (E : Ext B.src F H F' H') : ∀ {xs : List V} {ds : List D}, BRAll K B F H xs ds → BRAll K B F' H' xs ds
  | [], [], _ => trivial
  | _ :: _, _ :: _, h => ⟨BR.mono E h.1, BRAll.mono E h.2⟩
  | [], _ :: _, h => h.elim
  | _ :: _, [], h => h.elim
def tA (K : PySem.W.Frag) (B : Bs) (ss : Option Nat) (O O' : List Nat) (f : SL) : TA := fun σ H R => ∃ F ρ g ds g', SInv K B ss O F H σ ρ g ∧ f ρ g = some (ds, g') ∧ ∀ xs H' F', SInv K B ss O' F' H' σ ρ g' → Ext B.src F H F' H' → BRAll K B F' H' xs ds → R xs H'
theorem q_anil : PA X [] (tA X.K B ss O O sNil) := pa_imp pa_nil fun σ H R ⟨F, ρ, g, ds, g', I, ef, q⟩ => by
  cases ef; exact q [] H F I .refl trivial
theorem q_acons (ha : PE X e (tE X.K B ss O O1 .bw f)) (hr : PA X es (tA X.K B ss O1 O2 fs)) (hs : starEach (e :: es) X.env = (false, eval e X.env) :: starEach es X.env := by rfl) : PA X (e :: es) (tA X.K B ss O O2 (sCons f fs)) :=
  pa_imp (pa_cons ha hr hs) fun σ H R ⟨F, ρ, g, ds, g', I, ef, q⟩ => by
  obtain ⟨d, g1, e1, e2⟩ := mbnd_some ef
  obtain ⟨dr, g2, e3, e4⟩ := mbnd_some e2
  cases e4
  exact ⟨F, ρ, g, d, g1, I, e1, fun x H1 F1 I1 E1 r1 => ⟨F1, ρ, g1, dr, _, I1, e3, fun xs H2 F2 I2 E2 r2 => q (x :: xs) H2 F2 I2 (E1.trans E2) ⟨BR.mono E2 r1, r2⟩⟩⟩
/-- a call of a built-in, worth sem -/
def CallS (X : Cx) (B : Bs) (fn : Value) (sem : List D → Option D) : Prop :=
  ∃ r, CallR X fn r ∧ ∀ (ss : Option Nat) (O : List Nat) (F : Fz) (H : Hp) (σ : L2.St) (ρ : Ev) (g : G) (xs : List V) (ds : List D) (c : D) (R : VK), SInv X.K B ss O F H σ ρ g → BRAll X.K B F H xs ds → sem ds = some c →
    (∀ x' H' F', SInv X.K B ss O F' H' σ ρ g → Ext B.src F H F' H' → KRep X.K B O F' H' σ ρ .fr x' c → R x' H') → r xs H R
def eCB (sem : List D → Option D) (fs : SL) : SE := fun ρ => mbnd (fs ρ) fun ds => mlift (sem ds)
theorem t_callS {fn : Value} {sem : List D → Option D} (hc : CallS X B fn sem) : ∃ r, CallR X fn r ∧ ∀ (fs : SL) σ H R, tE X.K B ss O O1 .fr (eCB sem fs) σ H R → tCB r (tA X.K B ss O O1 fs) σ H R := by
  obtain ⟨r, h1, h2⟩ := hc
  refine ⟨r, h1, fun fs σ H R ⟨F, ρ, g, d, g', I, ef, q⟩ => ?_⟩
  obtain ⟨ds, g1, e1, e2⟩ := mbnd_some ef
  obtain ⟨e3, rfl⟩ := mlift_some e2
  exact ⟨F, ρ, g, ds, g', I, e1, fun xs H1 F1 I1 E1 r1 => h2 ss O1 F1 H1 σ ρ g' xs ds d R I1 r1 e3 fun x' H' F' I' E' r' => q x' H' F' I' (E1.trans E') r'⟩
theorem q_callB {x : Str} {id : String} {sem : List D → Option D} (hc : CallS X B (.builtin id) sem) (hm : X.mg x = none) (ha : PA X (e :: es) (tA X.K B ss O O1 fs)) (hg : Gl X x := by rfl) (hv : bootBuiltins x = some (.builtin id) := by decide +kernel) (hn : x ≠ "__name__" := by decide) (hdb : (x == ("__debug__" : Str)) = false := by decide)
    (he : starEach (e :: es) X.env = (false, eval e X.env) :: starEach es X.env := by rfl) (hpl : (backTo pos (starEach es X.env)).any (·.1) = false := by rfl) : PE X (.Call (.Name x p) (e :: es) [] pos) (tE X.K B ss O O1 .fr (eCB sem fs)) := by
  obtain ⟨r, h1, h2⟩ := t_callS (ss := ss) (O := O) (O1 := O1) hc
  exact pe_imp (pe_callB h1 hg hm hv ha hn hdb he hpl) fun σ H R q => h2 fs σ H R q
theorem q_callTy {x : Str} {id : String} {sem : List D → Option D} (hc : CallS X B (.type id) sem) (hm : X.mg x = none) (ha : PA X (e :: es) (tA X.K B ss O O1 fs)) (hg : Gl X x := by rfl) (hv : bootBuiltins x = some (.type id) := by decide +kernel) (hn : x ≠ "__name__" := by decide) (hdb : (x == ("__debug__" : Str)) = false := by decide)
    (he : starEach (e :: es) X.env = (false, eval e X.env) :: starEach es X.env := by rfl) (hpl : (backTo pos (starEach es X.env)).any (·.1) = false := by rfl) : PE X (.Call (.Name x p) (e :: es) [] pos) (tE X.K B ss O O1 .fr (eCB sem fs)) := by
  obtain ⟨r, h1, h2⟩ := t_callS (ss := ss) (O := O) (O1 := O1) hc
  exact pe_imp (pe_callTy h1 hg hm hv ha hn hdb he hpl) fun σ H R q => h2 fs σ H R q
theorem BRAll.one {K : PySem.W.Frag} {F : Fz} {H : Hp} {xs : List V} {d : D} (h : BRAll K B F H xs [d]) : ∃ x, xs = [x] ∧ BR K B F H x d := by
  cases xs with
  | nil => exact h.elim
  | cons x r =>
    cases r with
    | nil => exact ⟨x, rfl, h.1⟩
    | cons _ _ => exact h.2.elim
theorem BRAll.two {K : PySem.W.Frag} {F : Fz} {H : Hp} {xs : List V} {d e : D} (h : BRAll K B F H xs [d, e]) : ∃ x y, xs = [x, y] ∧ BR K B F H x d ∧ BR K B F H y e := by
  cases xs with
  | nil => exact h.elim
  | cons x r =>
    obtain ⟨y, e1, h2⟩ := BRAll.one h.2
    exact ⟨x, y, by rw [e1], h.1, h2⟩
theorem CallR.or {fn : Value} {r r' : List V → Hp → VK → Prop} (h : CallR X fn r) (h' : CallR X fn r') : CallR X fn (fun xs H R => r xs H R ∨ r' xs H R) := fun pins s σ H xs us R I rx q => q.elim (h pins s σ H xs us R I rx) (h' pins s σ H xs us R I rx)
def sLen : List D → Option D
  | [.list ds] => some (.int ds.length)
  | [.tuple ds] => some (.int ds.length)
  | [.str z] => if z.length ≤ sizeLine then some (.int z.length) else none
  | _ => none
theorem f_len : CallS X B (.builtin "len") sLen := ⟨_, CallR.or call_len_seq call_len_str, fun ss O F H σ ρ g xs ds c R I rx hc q => by
  unfold sLen at hc
  split at hc
  · cases hc
    obtain ⟨x, rfl, r⟩ := rx.one
    obtain ⟨l, ys, rfl, hl, rr⟩ := r.list
    exact .inl ⟨l, ys, rfl, .inl (.of hl), by rw [rr.length]; exact I.fin q rfl (.int _)⟩
  · cases hc
    obtain ⟨x, rfl, r⟩ := rx.one
    obtain ⟨l, ys, rfl, hl, rr⟩ := r.tup
    exact .inl ⟨l, ys, rfl, .inr hl.sq, by rw [rr.length]; exact I.fin q rfl (.int _)⟩
  · split at hc
    · cases hc
      obtain ⟨x, rfl, r⟩ := rx.one
      exact .inr ⟨_, by rw [r.str], by assumption, I.fin q rfl (.int _)⟩
    · cases hc
  · cases hc⟩
def sList : List D → Option D
  | [.list ds] => some (.list ds)
  | [.tuple ds] => some (.list ds)
  | _ => none
theorem f_list : CallS X B (.type "list") sList := ⟨_, call_list_of, fun ss O F H σ ρ g xs ds c R I rx hc q => by
  unfold sList at hc
  split at hc
  · cases hc
    obtain ⟨x, rfl, r⟩ := rx.one
    obtain ⟨l, ys, rfl, hl, rr⟩ := r.list
    exact ⟨l, ys, rfl, .inl (.of hl), fun p hp => I.finL q rr hp⟩
  · cases hc
    obtain ⟨x, rfl, r⟩ := rx.one
    obtain ⟨l, ys, rfl, hl, rr⟩ := r.tup
    exact ⟨l, ys, rfl, .inr hl.sq, fun p hp => I.finL q rr hp⟩
  · cases hc⟩
def sTuple : List D → Option D
  | [.list ds] => some (.tuple ds)
  | [.tuple ds] => some (.tuple ds)
  | _ => none
theorem f_tuple : CallS X B (.type "tuple") sTuple := ⟨_, call_tuple_of, fun ss O F H σ ρ g xs ds c R I rx hc q => by
  unfold sTuple at hc
  split at hc
  · cases hc
    obtain ⟨x, rfl, r⟩ := rx.one
    obtain ⟨l, ys, rfl, hl, rr⟩ := r.list
    exact ⟨l, ys, rfl, .inl ⟨.of hl, fun p hp => I.finT q rr hp⟩⟩
  · cases hc
    obtain ⟨x, rfl, r⟩ := rx.one
    obtain ⟨l, ys, rfl, hl, rr⟩ := r.tup
    exact ⟨l, ys, rfl, .inr ⟨hl.sq, I.fin q rfl (.tup hl rr)⟩⟩
  · cases hc⟩
/-- rows of ints -/
def intsD : List D → Option (List Int)
  | [] => some []
  | .int i :: r => (intsD r).map (i :: ·)
  | _ :: _ => none
theorem intsD_some : ∀ {ds : List D} {ns : List Int}, intsD ds = some ns → ds = ns.map .int
  | [], ns, h => by cases h; rfl
  | .int i :: r, ns, h => by
    have h' : (intsD r).map (i :: ·) = some ns := h
    cases q : intsD r with
    | none => rw [q] at h'; cases h'
    | some ms => rw [q] at h'; cases h'; rw [intsD_some q]; rfl
  | .none :: _, _, h => by cases h
  | .bool _ :: _, _, h => by cases h
  | .str _ :: _, _, h => by cases h
  | .list _ :: _, _, h => by cases h
  | .tuple _ :: _, _, h => by cases h
  | .dict _ :: _, _, h => by cases h
theorem intsD_map (ns : List Int) : intsD (ns.map .int) = some ns := by
  induction ns with
  | nil => rfl
  | cons n r ih => show (intsD (r.map .int)).map (n :: ·) = _; rw [ih]; rfl
theorem RepAll.ints {K : PySem.W.Frag} {F : Fz} {H : Hp} : ∀ {ns : List Int} {xs : List V}, RepAll K F H xs (ns.map .int) → xs = ns.map V.int
  | [], _, .nil => rfl
  | n :: r, _, .cons h t => by cases h; rw [RepAll.ints t]; rfl
def boolsD : List D → Option (List Bool)
  | [] => some []
  | .bool i :: r => (boolsD r).map (i :: ·)
  | _ :: _ => none
theorem boolsD_some : ∀ {ds : List D} {ns : List Bool}, boolsD ds = some ns → ds = ns.map .bool
  | [], ns, h => by cases h; rfl
  | .bool i :: r, ns, h => by
    have h' : (boolsD r).map (i :: ·) = some ns := h
    cases q : boolsD r with
    | none => rw [q] at h'; cases h'
    | some ms => rw [q] at h'; cases h'; rw [boolsD_some q]; rfl
  | .none :: _, _, h => by cases h
  | .int _ :: _, _, h => by cases h
  | .str _ :: _, _, h => by cases h
  | .list _ :: _, _, h => by cases h
  | .tuple _ :: _, _, h => by cases h
  | .dict _ :: _, _, h => by cases h
theorem boolsD_map (ns : List Bool) : boolsD (ns.map .bool) = some ns := by
  induction ns with
  | nil => rfl
  | cons n r ih => show (boolsD (r.map .bool)).map (n :: ·) = _; rw [ih]; rfl
theorem RepAll.bools {K : PySem.W.Frag} {F : Fz} {H : Hp} : ∀ {ns : List Bool} {xs : List V}, RepAll K F H xs (ns.map .bool) → xs = ns.map V.bl
  | [], _, .nil => rfl
  | n :: r, _, .cons h t => by cases h; rw [RepAll.bools t]; rfl
def sSum : List D → Option D
  | [.list ds] => (intsD ds).map fun ns => .int ns.sum
  | _ => none
theorem f_sum (hc : X.calm = true) : CallS X B (.builtin "sum") sSum := ⟨_, cr_sum hc, fun ss O F H σ ρ g xs ds c R I rx hc q => by
  unfold sSum at hc
  split at hc
  · rename_i ds
    cases w : intsD ds with
    | none => rw [w] at hc; cases hc
    | some ns =>
      rw [w] at hc; cases hc
      obtain ⟨x, rfl, r⟩ := rx.one
      obtain ⟨l, ys, rfl, hl, rr⟩ := r.list
      rw [intsD_some w] at rr
      have e := rr.ints
      subst e
      exact ⟨l, ns, rfl, .of hl, I.fin q rfl (.int _)⟩
  · cases hc⟩
def sAll : List D → Option D
  | [.list ds] => (boolsD ds).map fun ns => .bool (ns.all id)
  | _ => none
def sAny : List D → Option D
  | [.list ds] => (boolsD ds).map fun ns => .bool (ns.any id)
  | _ => none
theorem f_all (hc : X.calm = true) : CallS X B (.builtin "all") sAll := ⟨_, cr_all hc, fun ss O F H σ ρ g xs ds c R I rx hc q => by
  unfold sAll at hc
  split at hc
  · rename_i ds
    cases w : boolsD ds with
    | none => rw [w] at hc; cases hc
    | some ns =>
      rw [w] at hc; cases hc
      obtain ⟨x, rfl, r⟩ := rx.one
      obtain ⟨l, ys, rfl, hl, rr⟩ := r.list
      rw [boolsD_some w] at rr
      have e := rr.bools
      subst e
      exact ⟨l, ns, rfl, .of hl, I.fin q rfl (.bl _)⟩
  · cases hc⟩
theorem f_any (hc : X.calm = true) : CallS X B (.builtin "any") sAny := ⟨_, cr_any hc, fun ss O F H σ ρ g xs ds c R I rx hc q => by
  unfold sAny at hc
  split at hc
  · rename_i ds
    cases w : boolsD ds with
    | none => rw [w] at hc; cases hc
    | some ns =>
      rw [w] at hc; cases hc
      obtain ⟨x, rfl, r⟩ := rx.one
      obtain ⟨l, ys, rfl, hl, rr⟩ := r.list
      rw [boolsD_some w] at rr
      have e := rr.bools
      subst e
      exact ⟨l, ns, rfl, .of hl, I.fin q rfl (.bl _)⟩
  · cases hc⟩
def sAbs : List D → Option D
  | [.int i] => some (.int (if i < 0 then -i else i))
  | _ => none
theorem f_abs : CallS X B (.builtin "abs") sAbs := ⟨_, call_abs, fun ss O F H σ ρ g xs ds c R I rx hc q => by
  unfold sAbs at hc
  split at hc
  · cases hc
    obtain ⟨x, rfl, r⟩ := rx.one
    exact ⟨_, by rw [r.int], I.fin q rfl (.int _)⟩
  · cases hc⟩
def sMax2 : List D → Option D
  | [.int i, .int j] => some (.int (if j > i then j else i))
  | _ => none
def sMin2 : List D → Option D
  | [.int i, .int j] => some (.int (if j < i then j else i))
  | _ => none
theorem f_max2 (hc : X.calm = true) : CallS X B (.builtin "max") sMax2 := ⟨_, call_max2 hc, fun ss O F H σ ρ g xs ds c R I rx hc q => by
  unfold sMax2 at hc
  split at hc
  · cases hc
    obtain ⟨x, y, rfl, r, s⟩ := rx.two
    exact ⟨_, _, by rw [r.int, s.int], I.fin q rfl (.int _)⟩
  · cases hc⟩
theorem f_min2 (hc : X.calm = true) : CallS X B (.builtin "min") sMin2 := ⟨_, call_min2 hc, fun ss O F H σ ρ g xs ds c R I rx hc q => by
  unfold sMin2 at hc
  split at hc
  · cases hc
    obtain ⟨x, y, rfl, r, s⟩ := rx.two
    exact ⟨_, _, by rw [r.int, s.int], I.fin q rfl (.int _)⟩
  · cases hc⟩
def sInt : List D → Option D
  | [.int i] => some (.int i)
  | [.bool k] => some (.int (if k then 1 else 0))
  | _ => none
theorem f_int : CallS X B (.type "int") sInt := ⟨_, call_int1, fun ss O F H σ ρ g xs ds c R I rx hc q => by
  unfold sInt at hc
  split at hc
  · cases hc
    obtain ⟨x, rfl, r⟩ := rx.one
    exact .inl ⟨_, by rw [r.int], I.fin q rfl (.int _)⟩
  · cases hc
    obtain ⟨x, rfl, r⟩ := rx.one
    exact .inr ⟨_, by rw [r.bl], I.fin q rfl (.int _)⟩
  · cases hc⟩
end
end Q

set_option Elab.async false
set_option linter.all false
set_option maxRecDepth 100000
/-! QD: the pure layer: defs, calls, statements, loops, comprehensions. -/
namespace Q
open PySem PySem.Spec PyProof.Rows L2

/-! ### defs: as FnOk, and no repr is under way -/
structure GOk (P : Program) (w : World) (K : PySem.W.Frag) (mg : Str → Option Value) (base : Heap) (CX : CXT) (k : Nat) (f : Addr) (fd : FuncData) (ps : List Str) (sp : Sp) : Prop where
  len : ∀ vs H R E, sp vs H R E → vs.length = ps.length
  run : ∀ (A : Around) (outer : List PySem.Env) (s : Shared) (H : Hp) (args : Args) (us : List Value) (vs : List V) (R : VK) (E : XK), Room k A → A.guards = some [] → Env0 P w K mg base A outer s H → BindsTo s fd args (ps.zip us) → Vals vs us → sp vs H R E →
    codeAny (model P w) A (.call (.ref f) args) (CR CX outer P w H s R E) s
theorem GOk.mono {P : Program} {w : World} {K : PySem.W.Frag} {mg : Str → Option Value} {base : Heap} {CX : CXT} {j k : Nat} {f : Addr} {fd : FuncData} {ps : List Str} {sp : Sp} (F : GOk P w K mg base CX j f fd ps sp) (h : j ≤ k) : GOk P w K mg base CX k f fd ps sp :=
  ⟨F.len, fun A outer s H args us vs R E hr => F.run A outer s H args us vs R E (hr.mono h)⟩
section
variable {P : Program} {w : World} {K : PySem.W.Frag} {mg : Str → Option Value} {base : Heap} {CX : CXT} {k : Nat} {f : Addr}
/-- a def by its body -/
theorem gok_of {x qual : Str} {st : Stmt} {fd : FuncData} {N ps : List Str} {sp : Sp} (F : Fun K x qual st f fd) (S : FnScope N ps (defScope st)) (len : ∀ vs H R E, sp vs H R E → vs.length = ps.length)
    (hbody : ∀ (cdv : Value) (A : Around) (outer : List PySem.Env) (s : Shared) (H : Hp) (vs : List V) (R : VK) (E : XK), Room k (A.deeper (envOfC qual (defScope st) s.heap.objs.size f cdv)) → A.guards = some [] → sp vs H R E →
      ∃ t, PSs (cxOf CX P w K mg base N qual (defScope st) f cdv A outer s H E) (defBody st) t ∧ t { nx := fun _ H' => R .non H', rt := R } (start N vs) H) : GOk P w K mg base CX (k + 1) f fd ps sp := by
  obtain ⟨oc, od, kV, doc, pm, an, cdv, ct, osl, rfl, lk, hcd⟩ := F.ex
  refine ⟨len, fun A outer s H args us vs R E hr hgd e0 hb r hsp => ?_⟩
  have keep : ∀ b o, base.get? b = some o → s.heap.get? b = some o := fun b o e => (e0.bs b o e).1
  have hin : K.In s.heap := e0.mod.kin.keeps keep
  have kinds : ∀ y ∈ ps.zip us, (defScope st).names.lookup y.1 = some .local ∨ ((defScope st).names.lookup y.1 = some .cell ∧ ((cellsFrom (s.heap.objs.size + 1) (defScope st).names []).lookup y.1).isSome = true) := fun y hy =>
    (S.par y.1 (List.of_mem_zip hy).1).imp id fun q => ⟨q, PySem.W.cellsFrom_some _ _ _ (.inl q)⟩
  refine codeAny_call_function hr.depth (hin _ _ lk) rfl S.co S.gen rfl (PySem.W.codeRec_of hin hcd) (hb _ _ _ _ ?_)
  refine wpAny_newFunctionEnv_cells S.kind kinds fun env he s1 x => ?_
  subst he
  refine ⟨(e0.mod.nolimit.keeps keep).keeps x.toInCall.keep, codeAny_func ?_⟩
  obtain ⟨t, ht, hq⟩ := hbody cdv A outer s H vs R E (hr.deeper _) hgd hsp
  have I := inv_start (CX := CX) (E := E) S hr.hd e0 (len _ _ _ _ hsp) r x
  refine wpAny_mono (ht.run [] s1 _ H _ I hq) (fun fl s' hs => ?_) fun e s' hs => hs
  have out : ∀ {σ' : L2.St} {H' : Hp} {v : V} {u : Value}, Inv (cxOf CX P w K mg base N qual (defScope st) f cdv A outer s H E) [] σ' H' s' → RelV v u → R v H' → CE outer P w H s R u s' := fun J rv q => ⟨_, _, J.os, J.bare, J.base, J.hok, rv, q⟩
  match fl, hs with
  | .ret u, ⟨v, σ', H', J, rv, q⟩ => exact out J rv q
  | .next, ⟨σ', H', J, q⟩ => exact out (v := V.non) (u := Value.none) J rfl q
  | .brk, ⟨_, _, _, q⟩ => exact False.elim q
  | .cont, ⟨_, _, _, q⟩ => exact False.elim q
end
section
variable {X : Cx} {CX : CXT} {k : Nat} {f : Addr} {fd : FuncData} {ps : List Str} {sp : Sp} {E : XK} {x : Str} {p pos : Pos} {e : Expr} {es : List Expr} {t : TA}
theorem run_gn {pins : List (Addr × Obj)} {σ : L2.St} {H : Hp} {s : Shared} {R : VK} {us : List Value} {vs : List V} (F : GOk X.prog X.w X.K X.mg X.base CX k f fd ps sp) (hr : Room k X.A) (hgd : X.A.guards = some []) (hb : Binds X.K fd ps []) (hx : Passes CX X E)
    (I : Inv X pins σ H s) (r : Vals vs us) (h : sp vs H R E) : wpAny (model X.prog X.w) X.A (call (.ref f) us) (EP X pins σ R) X.xe s := by
  have hl : (us ++ []).length = ps.length := by rw [List.append_nil, ← r.length]; exact F.len _ _ _ _ h
  have hb' := hb s us I.kIn hl
  rw [List.append_nil] at hb'
  refine wpAny_call (codeAny_mono (F.run X.A X.stack s H ⟨us, []⟩ us vs R E hr hgd I.env0 hb' r h) fun q s' hq => ?_)
  match q, hq with
  | .error e, hq => exact hx pins σ H s e s' I hq
  | .ok (.ret u), hq => exact I.after hq
theorem pe_gcall (F : GOk X.prog X.w X.K X.mg X.base CX k f fd ps sp) (hr : Room k X.A) (hgd : X.A.guards = some []) (hg : Gl X x) (hm : X.mg x = some (.ref f)) (hk : PySem.W.keepIn X.K (.ref f) = true) (hb : Binds X.K fd ps []) (hx : Passes CX X E)
    (ha : PA X (e :: es) t) (hdb : (x == ("__debug__" : Str)) = false := by decide) (he : starEach (e :: es) X.env = (false, eval e X.env) :: starEach es X.env := by rfl) (hpl : (backTo pos (starEach es X.env)).any (·.1) = false := by rfl) :
    PE X (.Call (.Name x p) (e :: es) [] pos) (fun σ H R => t σ H fun vs H1 => sp vs H1 R E) := ⟨fun pins s σ H R I h => wpAny_Call_Name_kw (ld_glob I hg hm
      (PySem.W.callWith_K (h₀ := X.base) I.ok.mod.kin hk (thn (ha.run pos pins s σ H _ I h) fun us s1 ⟨vs, H1, I1, r, q⟩ => ⟨I1.kIn, run_gn F hr hgd hb hx I1 r q⟩) he hpl) hdb)⟩
end

/-! ### what a def of data is worth -/
/-- from n arguments, without draws: worth sem -/
def spP (K : PySem.W.Frag) (n : Nat) (sem : List D → Option D) : Sp := fun vs H R _ => ∃ F ds r, RepAll K F H vs ds ∧ (∀ a, F a → H a ≠ none) ∧ vs.length = n ∧ sem ds = some r ∧
  ∀ x H' F', Stay F H F' H' → (∀ a o, H a = some o → H' a = some o) → (∀ a, F' a → F a ∨ H a = none) → (∀ a, F' a → H' a ≠ none) → Rep K F' H' x r → R x H'
/-- from the source and n arguments, with draws -/
def spD (K : PySem.W.Frag) (n : Nat) (sem : List D → M D) : Sp := fun vs H R _ => ∃ F p g ds r g' vs', vs = .ref p.1 :: vs' ∧ Draw (some p) H g ∧ ¬ F p.1 ∧ ¬ F p.2 ∧ RepAll K F H vs' ds ∧ (∀ a, F a → H a ≠ none) ∧ vs'.length = n ∧ sem ds g = some (r, g') ∧
  ∀ x H' F', Ext (some p) F H F' H' → Draw (some p) H' g' → (∀ a, F' a → F a ∨ H a = none) → (∀ a, F' a → H' a ≠ none) → Rep K F' H' x r → R x H'
/-- the def that stands at the name x -/
structure Kn (P : Program) (w : World) (K : PySem.W.Frag) (mg : Str → Option Value) (base : Heap) (k : Nat) (x : Str) (sp : Sp) : Prop where
  ex : ∃ (f : Addr) (fd : FuncData) (ps : List Str), GOk P w K mg base CX0 k f fd ps sp ∧ mg x = some (.ref f) ∧ PySem.W.keepIn K (.ref f) = true ∧ Binds K fd ps []
theorem Kn.mono {P : Program} {w : World} {K : PySem.W.Frag} {mg : Str → Option Value} {base : Heap} {j k : Nat} {x : Str} {sp : Sp} (h : Kn P w K mg base j x sp) (l : j ≤ k) : Kn P w K mg base k x sp :=
  let ⟨f, fd, ps, a, b⟩ := h.ex; ⟨f, fd, ps, a.mono l, b⟩
section
variable {X : Cx} {B : Bs} {ss : Option Nat} {O O1 O2 O3 Ob : List Nat} {a b c e : Expr} {es : List Expr} {f h : SE} {u v : ST} {fs : SL} {pos p : Pos} {n k : Nat} {x : Str}
theorem Draw.keep {src : Option (Addr × Addr)} {H H' : Hp} {g : G} (d : Draw src H g) (h : ∀ a o, H a = some o → H' a = some o) : Draw src H' g := fun p e => let ⟨n, h1, h2⟩ := d p e; ⟨n, h _ _ h1, h _ _ h2⟩
def eCP (sem : List D → Option D) (fs : SL) : SE := fun ρ => mbnd (fs ρ) fun ds => mlift (sem ds)
theorem q_callP {sem : List D → Option D} (F : Kn X.prog X.w X.K X.mg X.base k x (spP X.K (n + 1) sem)) (hr : Room k X.A) (hgd : X.A.guards = some []) (ha : PA X (e :: es) (tF X.K B ss O O1 (n + 1) fs)) (hg : Gl X x := by rfl) (hdb : (x == ("__debug__" : Str)) = false := by decide)
    (he : starEach (e :: es) X.env = (false, eval e X.env) :: starEach es X.env := by rfl) (hpl : (backTo pos (starEach es X.env)).any (·.1) = false := by rfl) : PE X (.Call (.Name x p) (e :: es) [] pos) (tE X.K B ss O O1 .fz (eCP sem fs)) := by
  obtain ⟨fa, fd, ps, F, hm, hk, hb⟩ := F.ex
  refine pe_imp (pe_gcall (E := E0) F hr hgd hg hm hk hb pass0 ha hdb he hpl) fun σ H R ⟨F0, ρ, g, d, g', I, ef, q⟩ => ?_
  obtain ⟨ds, g1, e1, e2⟩ := mbnd_some ef
  obtain ⟨e3, rfl⟩ := mlift_some e2
  exact ⟨F0, ρ, g, ds, g', I, e1, fun xs H1 F1 I1 E1 r1 l1 => ⟨F1, ds, d, r1, I1.dom, l1, e3, fun x' H2 F2 st kp nw dm r2 => q x' H2 F2 (I1.step ⟨st, fun a o _ => kp a o⟩ nw dm (I1.draw.keep kp)) (E1.trans ⟨st, fun a o _ => kp a o⟩) r2⟩⟩
def eCD (sem : List D → M D) (fs : SL) : SE := fun ρ => mbnd (fs ρ) fun ds => sem ds
/-- f(source, ..) -/
theorem q_callD {sem : List D → M D} {i : Nat} {y : Str} {p2 : Pos} (F : Kn X.prog X.w X.K X.mg X.base k x (spD X.K n sem)) (hr : Room k X.A) (hgd : X.A.guards = some []) (ha : PA X es (tF X.K B (some i) O O1 n fs)) (hN : X.N[i]? = some y := by rfl)
    (hv : Vis X.env.scope y := by first | exact Or.inl rfl | exact Or.inr (Or.inl rfl) | exact Or.inr (Or.inr rfl)) (hg : Gl X x := by rfl) (hdb : (x == ("__debug__" : Str)) = false := by decide) (hd : (y == ("__debug__" : Str)) = false := by decide)
    (hcd : (y == ("__classdict__" : Str)) = false := by decide) (he : starEach (.Name y p2 :: es) X.env = (false, eval (.Name y p2) X.env) :: starEach es X.env := by rfl) (hpl : (backTo pos (starEach es X.env)).any (·.1) = false := by rfl) : PE X (.Call (.Name x p) (.Name y p2 :: es) [] pos) (tE X.K B (some i) O O1 .fz (eCD sem fs)) := by
  obtain ⟨fa, fd, ps, F, hm, hk, hb⟩ := F.ex
  refine pe_imp (pe_gcall (E := E0) F hr hgd hg hm hk hb pass0 (pa_cons (pe_var hN hv hd hcd) ha he) hdb he hpl) fun σ H R ⟨F0, ρ, g, d, g', I, ef, q⟩ => ?_
  obtain ⟨ds, g1, e1, e2⟩ := mbnd_some ef
  obtain ⟨p, hp, hs⟩ := I.slot i rfl
  refine ⟨.ref p.1, hs, F0, ρ, g, ds, g1, I, e1, fun xs H1 F1 I1 E1 r1 l1 => ?_⟩
  have dr : Draw (some p) H1 g1 := by have := I1.draw; rw [hp] at this; exact this
  have n1 : ∀ a, isS B.src a → ¬ F1 a := fun a s => (I1.nsrc a s).1
  refine ⟨F1, p, g1, ds, d, g', xs, rfl, dr, n1 _ ⟨p, hp, .inl rfl⟩, n1 _ ⟨p, hp, .inr rfl⟩, r1, I1.dom, l1, e2, fun x' H2 F2 E2 d2 nw dm r2 => ?_⟩
  have E2' : Ext B.src F1 H1 F2 H2 := by rw [hp]; exact E2
  exact q x' H2 F2 (I1.step E2' nw dm (by rw [hp]; exact d2)) (E1.trans E2') r2

/-! ### statements -/
inductive Fl | nx (ρ : Ev) | bk (ρ : Ev) | ct (ρ : Ev) | rt (d : D)
abbrev SS := Ev → M Fl
def PostS (K : PySem.W.Frag) (B : Bs) (ss : Option Nat) (O' Ob : List Nat) (F : Fz) (H : Hp) (E : Ends) (g' : G) : Fl → Prop
  | .nx ρ' => ∀ σ' H' F', SInv K B ss O' F' H' σ' ρ' g' → Stay F H F' H' → E.nx σ' H'
  | .bk ρ' => ∀ σ' H' F', SInv K B ss Ob F' H' σ' ρ' g' → Stay F H F' H' → E.bk σ' H'
  | .ct ρ' => ∀ σ' H' F', SInv K B ss Ob F' H' σ' ρ' g' → Stay F H F' H' → E.ct σ' H'
  | .rt d => ∀ x σ' ρ' O2 H' F', SInv K B ss O2 F' H' σ' ρ' g' → Rep K F' H' x d → E.rt x H'
theorem PostS.stay {K : PySem.W.Frag} {O' : List Nat} {F F1 : Fz} {H H1 : Hp} {E : Ends} {g' : G} (st : Stay F H F1 H1) : ∀ {fl : Fl}, PostS K B ss O' Ob F H E g' fl → PostS K B ss O' Ob F1 H1 E g' fl
  | .nx _, h => fun σ' H' F' I s => h σ' H' F' I (st.trans s)
  | .bk _, h => fun σ' H' F' I s => h σ' H' F' I (st.trans s)
  | .ct _, h => fun σ' H' F' I s => h σ' H' F' I (st.trans s)
  | .rt _, h => h
def tS (K : PySem.W.Frag) (B : Bs) (ss : Option Nat) (O O' Ob : List Nat) (b : SS) : TS := fun E σ H => ∃ F ρ g fl g', SInv K B ss O F H σ ρ g ∧ b ρ g = some (fl, g') ∧ PostS K B ss O' Ob F H E g' fl
theorem ps_imp {s : Stmt} {t t' : TS} (h : PS X s t) (i : ∀ E σ H, t' E σ H → t E σ H) : PS X s t' := ⟨fun pins s σ H E I q => h.run pins s σ H E I (i E σ H q)⟩
theorem pss_imp {s : List Stmt} {t t' : TS} (h : PSs X s t) (i : ∀ E σ H, t' E σ H → t E σ H) : PSs X s t' := ⟨fun pins s σ H E I q => h.run pins s σ H E I (i E σ H q)⟩
variable {st : Stmt} {rest body orelse : List Stmt} {s t : SS}
def sNext : SS := fun ρ => mret (.nx ρ)
def sSeq (s t : SS) : SS := fun ρ => mbnd (s ρ) fun fl => match fl with
  | .nx ρ' => t ρ'
  | fl => mret fl
theorem q_snil : PSs X [] (tS X.K B ss O O Ob sNext) := pss_imp pss_nil fun E σ H ⟨F, ρ, g, fl, g', I, ef, q⟩ => by cases ef; exact q σ H F I .refl
theorem q_sone (h : PS X st (tS X.K B ss O O1 Ob s)) : PSs X [st] (tS X.K B ss O O1 Ob s) := pss_one h
theorem q_seq (h1 : PS X st (tS X.K B ss O O1 Ob s)) (h2 : PSs X rest (tS X.K B ss O1 O2 Ob t)) : PSs X (st :: rest) (tS X.K B ss O O2 Ob (sSeq s t)) := pss_imp (pss_cons h1 h2) fun E σ H ⟨F, ρ, g, fl, g', I, ef, q⟩ => by
  obtain ⟨f1, g1, e1, e2⟩ := mbnd_some ef
  refine ⟨F, ρ, g, f1, g1, I, e1, ?_⟩
  cases f1 with
  | nx ρ1 => exact fun σ1 H1 F1 I1 st1 => ⟨F1, ρ1, g1, fl, g', I1, e2, q.stay st1⟩
  | bk ρ1 => cases e2; exact q
  | ct ρ1 => cases e2; exact q
  | rt d => cases e2; exact q
/-- fewer slots are owned -/
theorem SInv.weak {K : PySem.W.Frag} {F : Fz} {H : Hp} {σ : L2.St} {ρ : Ev} {g : G} (I : SInv K B ss O F H σ ρ g) : ∀ (js : List Nat), ∃ F', SInv K B ss (O.filter fun i => decide (i ∉ js)) F' H σ ρ g ∧ Ext B.src F H F' H
  | [] => ⟨F, by rw [List.filter_eq_self.mpr (by simp)]; exact I, .refl⟩
  | j :: js => by
    obtain ⟨F1, I1, E1⟩ := I.weak js
    obtain ⟨F2, I2, E2⟩ := I1.thaw j
    refine ⟨F2, ?_, E1.trans E2⟩
    rw [List.filter_filter] at I2
    have e : (O.filter fun i => decide (i ∉ j :: js)) = O.filter fun i => (decide (i ≠ j) && decide (i ∉ js)) := by
      congr 1; funext i
      by_cases h1 : i = j <;> by_cases h2 : i ∈ js <;> simp [h1, h2]
    rw [e]; exact I2
theorem q_wk (js : List Nat) (h : PS X st (tS X.K B ss O O1 Ob s)) (hO : (O1.filter fun i => decide (i ∉ js)) = O2 := by rfl) : PS X st (tS X.K B ss O O2 Ob s) := ps_imp h fun E σ H ⟨F, ρ, g, fl, g', I, ef, q⟩ => by
  subst hO
  refine ⟨F, ρ, g, fl, g', I, ef, ?_⟩
  cases fl with
  | nx ρ1 =>
    intro σ1 H1 F1 I1 st1
    obtain ⟨F2, I2, E2⟩ := I1.weak js
    exact q σ1 H1 F2 I2 (st1.trans E2.stay)
  | bk ρ1 => exact q
  | ct ρ1 => exact q
  | rt d => exact q
/-- .. ahead of the rest of a block -/
theorem q_thawS (js : List Nat) (h : PSs X rest (tS X.K B ss O1 O2 Ob s)) (hO : (O.filter fun i => decide (i ∉ js)) = O1 := by rfl) : PSs X rest (tS X.K B ss O O2 Ob s) := pss_imp h fun E σ H ⟨F, ρ, g, fl, g', I, ef, q⟩ => by
  subst hO
  obtain ⟨F2, I2, E2⟩ := I.weak js
  exact ⟨F2, ρ, g, fl, g', I2, ef, q.stay E2.stay⟩
def sRet (f : SE) : SS := fun ρ => mbnd (f ρ) fun d => mret (.rt d)
theorem q_ret (ha : PE X e (tE X.K B ss O O1 .fz f)) : PS X (.Return (some e) pos) (tS X.K B ss O O2 Ob (sRet f)) := ps_imp (ps_ret ha) fun E σ H ⟨F, ρ, g, fl, g', I, ef, q⟩ => by
  obtain ⟨d, g1, e1, e2⟩ := mbnd_some ef
  cases e2
  exact ⟨F, ρ, g, d, _, I, e1, fun x' H' F' I' E' r => q x' σ ρ O1 H' F' I' r⟩
def sRetN : SS := fun _ => mret (.rt .none)
theorem q_retN : PS X (.Return none pos) (tS X.K B ss O O2 Ob sRetN) := ps_imp ps_retN fun E σ H ⟨F, ρ, g, fl, g', I, ef, q⟩ => by
  cases ef; exact q .non σ ρ O H F I .non
def sIf (c : ST) (s t : SS) : SS := fun ρ => mbnd (c ρ) fun k => if k then s ρ else t ρ
theorem q_if (hc : PT X c (tB X.K B ss O O1 u)) (ha : PSs X body (tS X.K B ss O1 O2 Ob s)) (hb : PSs X orelse (tS X.K B ss O1 O2 Ob t)) : PS X (.If c body orelse pos) (tS X.K B ss O O2 Ob (sIf u s t)) := ps_imp (ps_if hc ha hb) fun E σ H ⟨F, ρ, g, fl, g', I, ef, q⟩ => by
  obtain ⟨k, g1, e1, e2⟩ := mbnd_some ef
  refine ⟨F, ρ, g, k, g1, I, e1, fun H1 F1 I1 E1 => ?_⟩
  cases k with
  | true => rw [if_pos rfl] at e2 ⊢; exact ⟨F1, ρ, g1, fl, g', I1, e2, q.stay E1.stay⟩
  | false => rw [if_neg Bool.false_ne_true] at e2 ⊢; exact ⟨F1, ρ, g1, fl, g', I1, e2, q.stay E1.stay⟩
def sBrk : SS := fun ρ => mret (.bk ρ)
def sCnt : SS := fun ρ => mret (.ct ρ)
theorem q_break : PS X (.Break pos) (tS X.K B ss O O2 O sBrk) := ps_imp ps_break fun E σ H ⟨F, ρ, g, fl, g', I, ef, q⟩ => by cases ef; exact q σ H F I .refl
theorem q_cont : PS X (.Continue pos) (tS X.K B ss O O2 O sCnt) := ps_imp ps_continue fun E σ H ⟨F, ρ, g, fl, g', I, ef, q⟩ => by cases ef; exact q σ H F I .refl
theorem q_pass : PS X (.Pass pos) (tS X.K B ss O O Ob sNext) := ps_imp ps_pass fun E σ H ⟨F, ρ, g, fl, g', I, ef, q⟩ => by cases ef; exact q σ H F I .refl
theorem q_drop (ha : PE X e (tE X.K B ss O O1 .bw f)) (hs : swapsWith e none pos.line X.env = pure false := by rfl) : PS X (.Expr e pos) (tS X.K B ss O O1 Ob (fun ρ => mbnd (f ρ) fun _ => mret (.nx ρ))) := ps_imp (ps_expr ha hs) fun E σ H ⟨F, ρ, g, fl, g', I, ef, q⟩ => by
  obtain ⟨d, g1, e1, e2⟩ := mbnd_some ef
  cases e2
  exact ⟨F, ρ, g, d, _, I, e1, fun x' H' F' I' E' r => q σ H' F' I' E'.stay⟩
/-- what is unreachable -/
def sBad : SS := fun _ _ => none
theorem q_never : PS X st (tS X.K B ss O O2 Ob sBad) := ps_imp ps_never fun E σ H ⟨F, ρ, g, fl, g', I, ef, q⟩ => by cases ef

/-! ### stores to names -/
theorem SInv.set {K : PySem.W.Frag} {F : Fz} {H : Hp} {σ : L2.St} {ρ : Ev} {g : G} (I : SInv K B ss O F H σ ρ g) {i : Nat} {v : V} {d : D} (hs : ss ≠ some i) (r : Rep K F H v d) : SInv K B ss (O.filter (· ≠ i)) F H (σ.set i (some v)) (ρ.set i (some d)) g := by
  have mem : ∀ j, j ∈ O.filter (· ≠ i) ↔ j ∈ O ∧ j ≠ i := fun j => by simp [List.mem_filter]
  refine ⟨I.keep, I.sub, I.new, I.dom, I.nsrc, I.draw, fun j d' e => ?_, fun j k a d' e' h1 h2 e1 c1 e2 c2 e3 e4 => ?_, I.prot, fun j e => ?_, by simpa using I.len⟩
  · by_cases q : j = i
    · subst q
      by_cases hr : j < ρ.length
      · rw [List.getElem?_set_self (Nat.lt_of_lt_of_le hr I.len)]
        refine ⟨v, rfl, fun _ => ?_, fun m => absurd rfl ((mem j).mp m).2⟩
        rw [List.getElem?_set_self hr] at e; cases e; exact r
      · rw [List.getElem?_eq_none (by simpa using hr)] at e; cases e
    · rw [List.getElem?_set_ne (Ne.symm q)] at e ⊢
      obtain ⟨v', h1, h2, h3⟩ := I.var j d' e
      exact ⟨v', h1, fun n => h2 fun m => n ((mem j).mpr ⟨m, q⟩), fun m => h3 ((mem j).mp m).1⟩
  · obtain ⟨m1, n1⟩ := (mem j).mp h1
    obtain ⟨m2, n2⟩ := (mem k).mp h2
    rw [List.getElem?_set_ne (Ne.symm n1)] at e1 e3
    rw [List.getElem?_set_ne (Ne.symm n2)] at e2 e4
    exact I.apart j k a d' e' m1 m2 e1 c1 e2 c2 e3 e4
  · have q : j ≠ i := fun z => hs (z ▸ e)
    rw [List.getElem?_set_ne (Ne.symm q)]
    exact I.slot j e
theorem SInv.setO {K : PySem.W.Frag} {F : Fz} {H : Hp} {σ : L2.St} {ρ : Ev} {g : G} (I : SInv K B ss O F H σ ρ g) {i : Nat} {v : V} {d : D} (hs : ss ≠ some i) (r : KRep K B O F H σ ρ .fr v d) : SInv K B ss (i :: O.filter (· ≠ i)) F H (σ.set i (some v)) (ρ.set i (some d)) g := by
  have mem : ∀ j, j ∈ i :: O.filter (· ≠ i) ↔ j = i ∨ (j ∈ O ∧ j ≠ i) := fun j => by simp [List.mem_filter]
  have own : OwnV K B F H v d := r.imp id fun ⟨a, o, e, nf, np, hb, ho, c, _⟩ => ⟨a, o, e, nf, np, hb, ho, c⟩
  have self : ∀ {d'}, (ρ.set i (some d))[i]? = some (some d') → d' = d ∧ i < σ.length := fun {d'} e => by
    by_cases hr : i < ρ.length
    · rw [List.getElem?_set_self hr] at e; cases e; exact ⟨rfl, Nat.lt_of_lt_of_le hr I.len⟩
    · rw [List.getElem?_eq_none (by simpa using hr)] at e; cases e
  refine ⟨I.keep, I.sub, I.new, I.dom, I.nsrc, I.draw, fun j d' e => ?_, fun j k a d' e' h1 h2 e1 c1 e2 c2 e3 e4 => ?_, I.prot, fun j e => ?_, by simpa using I.len⟩
  · by_cases q : j = i
    · subst q
      obtain ⟨e', hi⟩ := self e
      rw [List.getElem?_set_self hi]
      subst e'
      exact ⟨v, rfl, fun n => absurd ((mem j).mpr (.inl rfl)) n, fun _ => own⟩
    · rw [List.getElem?_set_ne (Ne.symm q)] at e ⊢
      obtain ⟨v', h1, h2, h3⟩ := I.var j d' e
      exact ⟨v', h1, fun n => h2 fun m => n ((mem j).mpr (.inr ⟨m, q⟩)), fun m => h3 (((mem j).mp m).resolve_left q).1⟩
  · have one : ∀ (k : Nat) (d' e' : D), k ∈ O → (ρ.set i (some d))[i]? = some (some d') → isCont d' = true → ρ[k]? = some (some e') → isCont e' = true → (σ.set i (some v))[i]? = some (some (.ref a)) → σ[k]? = some (some (.ref a)) → False := fun k d' e' mk e1 c1 e2 c2 e3 e4 => by
      obtain ⟨ed, hi⟩ := self e1
      rw [List.getElem?_set_self hi] at e3
      rcases r with ⟨z, _⟩ | ⟨a', o, ea, _, _, _, _, _, ap⟩
      · rw [← ed, c1] at z; cases z
      · rw [ea] at e3; cases e3; exact ap k e' mk e2 c2 e4
    by_cases q1 : j = i
    · by_cases q2 : k = i
      · rw [q1, q2]
      · rw [List.getElem?_set_ne (Ne.symm q2)] at e2 e4
        subst q1; exact (one k d' e' (((mem k).mp h2).resolve_left q2).1 e1 c1 e2 c2 e3 e4).elim
    · rw [List.getElem?_set_ne (Ne.symm q1)] at e1 e3
      by_cases q2 : k = i
      · subst q2; exact (one j e' d' (((mem j).mp h1).resolve_left q1).1 e2 c2 e1 c1 e4 e3).elim
      · rw [List.getElem?_set_ne (Ne.symm q2)] at e2 e4
        exact I.apart j k a d' e' (((mem j).mp h1).resolve_left q1).1 (((mem k).mp h2).resolve_left q2).1 e1 c1 e2 c2 e3 e4
  · have q : j ≠ i := fun z => hs (z ▸ e)
    rw [List.getElem?_set_ne (Ne.symm q)]
    exact I.slot j e
end
end Q

set_option Elab.async false
set_option linter.all false
set_option maxRecDepth 100000
/-! QE: the pure layer: stores, loops, comprehensions, defs. -/
namespace Q
open PySem PySem.Spec PyProof.Rows L2
section
variable {X : Cx} {B : Bs} {ss : Option Nat} {O O1 O2 O3 Ob : List Nat} {a b c e tg : Expr} {es : List Expr} {f h : SE} {u v : ST} {fs : SL} {pos p : Pos} {n k : Nat} {x y : Str} {st : Stmt} {rest body orelse : List Stmt} {s t : SS}
def sAsg (i : Nat) (f : SE) : SS := fun ρ => mbnd (f ρ) fun d => mret (.nx (ρ.set i (some d)))
theorem q_set (i : Nat) (ha : PE X e (tE X.K B ss O O1 .fz f)) (hN : X.N.Nodup) (hO : O1.filter (· ≠ i) = O2 := by rfl) (hss : ss ≠ some i := by decide) (hi : X.N[i]? = some x := by rfl) (hx : Loc X.env.scope x := by first | exact Or.inl rfl | exact Or.inr rfl)
    (hs : swapsWith e (some (.Name x p)) pos.line X.env = pure false := by rfl) (hf : X.fn x = true ∨ X.env.scope.names.lookup x = some .local := by first | exact .inl rfl | exact .inr rfl | assumption) :
    PS X (.Assign [.Name x p] e pos) (tS X.K B ss O O2 Ob (sAsg i f)) := ps_imp (ps_set hN hi hx ha hs hf) fun E σ H ⟨F, ρ, g, fl, g', I, ef, q⟩ => by
  subst hO
  obtain ⟨d, g1, e1, e2⟩ := mbnd_some ef
  cases e2
  exact ⟨F, ρ, g, d, _, I, e1, fun x' H' F' I' E' r => q _ H' F' (I'.set hss r) E'.stay⟩
theorem q_setO (i : Nat) (ha : PE X e (tE X.K B ss O O1 .fr f)) (hN : X.N.Nodup) (hO : i :: O1.filter (· ≠ i) = O2 := by rfl) (hss : ss ≠ some i := by decide) (hi : X.N[i]? = some x := by rfl) (hx : Loc X.env.scope x := by first | exact Or.inl rfl | exact Or.inr rfl)
    (hs : swapsWith e (some (.Name x p)) pos.line X.env = pure false := by rfl) (hf : X.fn x = true ∨ X.env.scope.names.lookup x = some .local := by first | exact .inl rfl | exact .inr rfl | assumption) :
    PS X (.Assign [.Name x p] e pos) (tS X.K B ss O O2 Ob (sAsg i f)) := ps_imp (ps_set hN hi hx ha hs hf) fun E σ H ⟨F, ρ, g, fl, g', I, ef, q⟩ => by
  subst hO
  obtain ⟨d, g1, e1, e2⟩ := mbnd_some ef
  cases e2
  exact ⟨F, ρ, g, d, _, I, e1, fun x' H' F' I' E' r => q _ H' F' (I'.setO hss r) E'.stay⟩

/-! ### targets -/
abbrev SG := D → Ev → Option Ev
abbrev SGs := List D → Ev → Option Ev
def tG (K : PySem.W.Frag) (B : Bs) (ss : Option Nat) (O O' : List Nat) (tgt : SG) : TG := fun v σ H R => ∃ F ρ g d ρ', SInv K B ss O F H σ ρ g ∧ Rep K F H v d ∧ tgt d ρ = some ρ' ∧ ∀ σ', SInv K B ss O' F H σ' ρ' g → (∃ js : List Nat, ∀ i, i ∉ js → σ'[i]? = σ[i]?) → R σ' H
def tGs (K : PySem.W.Frag) (B : Bs) (ss : Option Nat) (O O' : List Nat) (tgt : SGs) : TGs := fun v σ H R => ∃ F ρ g d ρ', SInv K B ss O F H σ ρ g ∧ RepAll K F H v d ∧ tgt d ρ = some ρ' ∧ ∀ σ', SInv K B ss O' F H σ' ρ' g → (∃ js : List Nat, ∀ i, i ∉ js → σ'[i]? = σ[i]?) → R σ' H
theorem pg_imp {t t' : TG} (h : PG X e t) (i : ∀ v σ H R, t' v σ H R → t v σ H R) : PG X e t' := ⟨fun pins s σ H v u R I r q => h.run pins s σ H v u R I r (i v σ H R q)⟩
theorem pgs_imp {t t' : TGs} (h : PGs X es t) (i : ∀ v σ H R, t' v σ H R → t v σ H R) : PGs X es t' := ⟨fun pins s σ H v u R I r q => h.run pins s σ H v u R I r (i v σ H R q)⟩
def gN (i : Nat) : SG := fun d ρ => some (ρ.set i (some d))
def gsN : SGs := fun ds ρ => match ds with
  | [] => some ρ
  | _ => none
def gsC (tgt : SG) (tgts : SGs) : SGs := fun ds ρ => match ds with
  | d :: r => (tgt d ρ).bind fun ρ' => tgts r ρ'
  | [] => none
def gT (n : Nat) (tgts : SGs) : SG := fun d ρ => match d with
  | .tuple ds => if ds.length = n then tgts ds ρ else none
  | _ => none
/-- js: the slots that the target stores -/
structure PGq (X : Cx) (B : Bs) (ss : Option Nat) (O O' : List Nat) (e : Expr) (js : List Nat) (tgt : SG) : Prop where
  run : ∀ (R0 : Ev → Ev → Prop), True → PG X e (fun v σ H R => ∃ F ρ g d ρ', SInv X.K B ss O F H σ ρ g ∧ Rep X.K F H v d ∧ tgt d ρ = some ρ' ∧ ∀ σ', SInv X.K B ss O' F H σ' ρ' g → (∀ i, i ∉ js → σ'[i]? = σ[i]?) → σ'.length = σ.length → R σ' H)
  fix : ∀ d ρ ρ', tgt d ρ = some ρ' → ∀ i, i ∉ js → ρ'[i]? = ρ[i]?
structure PGqs (X : Cx) (B : Bs) (ss : Option Nat) (O O' : List Nat) (e : List Expr) (js : List Nat) (tgt : SGs) : Prop where
  run : PGs X e (fun v σ H R => ∃ F ρ g d ρ', SInv X.K B ss O F H σ ρ g ∧ RepAll X.K F H v d ∧ tgt d ρ = some ρ' ∧ ∀ σ', SInv X.K B ss O' F H σ' ρ' g → (∀ i, i ∉ js → σ'[i]? = σ[i]?) → σ'.length = σ.length → R σ' H)
  fix : ∀ d ρ ρ', tgt d ρ = some ρ' → ∀ i, i ∉ js → ρ'[i]? = ρ[i]?
theorem q_gN (i : Nat) (hN : X.N.Nodup) (hO : O.filter (· ≠ i) = O1 := by rfl) (hss : ss ≠ some i := by decide) (hi : X.N[i]? = some x := by rfl) (hx : Loc X.env.scope x := by first | exact Or.inl rfl | exact Or.inr rfl)
    (hf : X.fn x = true ∨ X.env.scope.names.lookup x = some .local := by first | exact .inl rfl | exact .inr rfl | assumption) : PGq X B ss O O1 (.Name x p) [i] (gN i) := ⟨fun _ _ => pg_imp (pg_name hN hi hx hf) fun v σ H R ⟨F, ρ, g, d, ρ', I, r, et, q⟩ => by
  subst hO
  cases et
  refine q _ (I.set hss r) (fun j hj => ?_) (by simp)
  rw [List.getElem?_set_ne (fun z => hj (by simp [z]))], fun d ρ ρ' et j hj => by cases et; rw [List.getElem?_set_ne (fun z => hj (by simp [z]))]⟩
theorem q_gsN : PGqs X B ss O O [] [] gsN where
  run := pgs_imp pgs_nil fun v σ H R ⟨F, ρ, g, d, ρ', I, r, et, q⟩ => by
    cases r with
    | nil => cases et; exact ⟨rfl, q σ I (fun _ _ => rfl) rfl⟩
    | cons _ _ => cases et
  fix := fun d ρ ρ' et j hj => by
    cases d with
    | nil => cases et; rfl
    | cons _ _ => cases et
theorem q_gsC {js ks : List Nat} {tgt : SG} {tgts : SGs} (h1 : PGq X B ss O O1 e js tgt) (h2 : PGqs X B ss O1 O2 es ks tgts) (hs : (assignEach (e :: es) X.env).map (·.2) = assign e X.env :: (assignEach es X.env).map (·.2) := by rfl) : PGqs X B ss O O2 (e :: es) (js ++ ks) (gsC tgt tgts) where
  run := pgs_imp (pgs_cons (h1.run (fun _ _ => True) trivial) h2.run hs) fun v σ H R ⟨F, ρ, g, d, ρ', I, r, et, q⟩ => by
    cases r with
    | nil => cases et
    | @cons v1 vs d1 ds r1 r2 =>
      have et' : (tgt d1 ρ).bind (fun ρ' => tgts ds ρ') = some ρ' := et
      cases w : tgt d1 ρ with
      | none => rw [w] at et'; cases et'
      | some ρ1 =>
        rw [w] at et'
        exact ⟨v1, vs, rfl, F, ρ, g, d1, ρ1, I, r1, w, fun σ1 I1 k1 l1 => ⟨F, ρ1, g, ds, ρ', I1, r2, et', fun σ2 I2 k2 l2 => q σ2 I2 (fun i hi => by
          rw [k2 i (fun z => hi (List.mem_append_right _ z)), k1 i (fun z => hi (List.mem_append_left _ z))]) (l2.trans l1)⟩⟩
  fix := fun d ρ ρ' et j hj => by
    cases d with
    | nil => cases et
    | cons d1 ds =>
      have et' : (tgt d1 ρ).bind (fun ρ' => tgts ds ρ') = some ρ' := et
      cases w : tgt d1 ρ with
      | none => rw [w] at et'; cases et'
      | some ρ1 =>
        rw [w] at et'
        rw [h2.fix ds ρ1 ρ' et' j (fun z => hj (List.mem_append_right _ z)), h1.fix d1 ρ ρ1 w j (fun z => hj (List.mem_append_left _ z))]
theorem gT_some {tgts : SGs} {n : Nat} {d : D} {ρ ρ' : Ev} (h : gT n tgts d ρ = some ρ') : ∃ ds, d = .tuple ds ∧ ds.length = n ∧ tgts ds ρ = some ρ' := by
  unfold gT at h
  split at h
  · split at h
    · exact ⟨_, rfl, by assumption, h⟩
    · cases h
  · cases h
theorem q_gT {js : List Nat} {kk : Nat} {tgts : SGs} (hc : X.calm = true) (h : PGqs X B ss O O1 es js tgts) (n : Nat) (hn : (assignEach es X.env).length = n := by rfl) (hst : (assignEach es X.env).findIdx? (·.1) = none := by rfl) : PGq X B ss O O1 (.Tuple es kk pos) js (gT n tgts) where
  run := fun _ _ => pg_imp (pg_tup hc h.run hn hst) fun v σ H R ⟨F, ρ, g, d, ρ', I, r, et, q⟩ => by
    obtain ⟨ds, rfl, hl, et'⟩ := gT_some et
    cases r with
    | tup hq rr => exact ⟨_, _, rfl, hq.sq, by rw [rr.length]; exact hl, F, ρ, g, ds, ρ', I, rr, et', q⟩
  fix := fun d ρ ρ' et j hj => by
    obtain ⟨ds, rfl, hl, et'⟩ := gT_some et
    exact h.fix _ ρ ρ' et' j hj
def sAsgT (f : SE) (tgt : SG) : SS := fun ρ => mbnd (f ρ) fun d => mbnd (mlift (tgt d ρ)) fun ρ' => mret (.nx ρ')
theorem q_asgT {js : List Nat} {tgt : SG} (ha : PE X e (tE X.K B ss O O1 .fz f)) (hg : PGq X B ss O1 O2 tg js tgt) (hs : swapsWithSole [tg] e pos.line X.env = pure false := by rfl) (hw : swappedStores [tg] e X.env = pure none := by rfl)
    (h1 : (assignEach [tg] X.env).map (·.2) = [assign tg X.env] := by rfl) : PS X (.Assign [tg] e pos) (tS X.K B ss O O2 Ob (sAsgT f tgt)) := ps_imp (ps_asg ha (hg.run (fun _ _ => True) trivial) hs hw h1) fun E σ H ⟨F, ρ, g, fl, g', I, ef, q⟩ => by
  obtain ⟨d, g1, e1, e2⟩ := mbnd_some ef
  obtain ⟨ρ', g2, e3, e4⟩ := mbnd_some e2
  obtain ⟨e5, rfl⟩ := mlift_some e3
  cases e4
  exact ⟨F, ρ, g, d, _, I, e1, fun x' H' F' I' E' r => ⟨F', ρ, _, d, ρ', I', r, e5, fun σ' I2 _ _ => q σ' H' F' I2 E'.stay⟩⟩
/-- x, y = e1, e2: local names -/
def sPar (i j : Nat) (f h : SE) : SS := fun ρ => mbnd (f ρ) fun d => mbnd (h ρ) fun e => mret (.nx ((ρ.set i (some d)).set j (some e)))
theorem q_par {k1 k2 : Nat} {px py pt pt2 : Pos} (i j : Nat) (hc : X.calm = true) (hN : X.N.Nodup) (ha : PE X a (tE X.K B ss O O1 .fz f)) (hb : PE X b (tE X.K B ss O1 O2 .fz h)) (hO : (O2.filter (· ≠ i)).filter (· ≠ j) = O3 := by rfl) (hsi : ss ≠ some i := by decide) (hsj : ss ≠ some j := by decide)
    (hi : X.N[i]? = some x := by rfl) (hj : X.N[j]? = some y := by rfl) (hij : i ≠ j := by decide) (hx : X.env.scope.names.lookup x = some .local := by rfl) (hy : X.env.scope.names.lookup y = some .local := by rfl)
    (hw : swappedStores [.Tuple [.Name x px, .Name y py] k1 pt] (.Tuple [a, b] k2 pt2) X.env = pure (some [x, y]) := by rfl) (hs : swapsWithSole [.Tuple [.Name x px, .Name y py] k1 pt] (.Tuple [a, b] k2 pt2) pos.line X.env = pure false := by rfl)
    (n1 : starEach [a, b] X.env = (false, eval a X.env) :: starEach [b] X.env := by rfl) (n2 : starEach [b] X.env = (false, eval b X.env) :: starEach [] X.env := by rfl) :
    PS X (.Assign [.Tuple [.Name x px, .Name y py] k1 pt] (.Tuple [a, b] k2 pt2) pos) (tS X.K B ss O O3 Ob (sPar i j f h)) :=
  ps_imp (ps_par hc hN hi hj hij hx hy (pa_cons ha (pa_cons hb pa_nil n2) n1) hw hs) fun E σ H ⟨F, ρ, g, fl, g', I, ef, q⟩ => by
  subst hO
  obtain ⟨d, g1, e1, e2⟩ := mbnd_some ef
  obtain ⟨d2, g2, e3, e4⟩ := mbnd_some e2
  cases e4
  exact ⟨F, ρ, g, d, g1, I, e1, fun x' H' F' I' E' r => ⟨F', ρ, g1, d2, _, I', e3, fun y' H2 F2 I2 E2 r2 => ⟨x', y', rfl, q _ H2 F2 ((I2.set hsi (Rep.mono E2.stay r)).set hsj r2) (E'.stay.trans E2.stay)⟩⟩⟩
/-- a protected address more -/
theorem SInv.guard {K : PySem.W.Frag} {F : Fz} {H : Hp} {σ : L2.St} {ρ : Ev} {g : G} (I : SInv K B ss O F H σ ρ g) {q : Addr} (nf : ¬ F q) (hq : H q ≠ none) (ap : ∀ i e, i ∈ O → ρ[i]? = some (some e) → isCont e = true → σ[i]? ≠ some (some (.ref q))) : SInv K { B with P := fun a => B.P a ∨ a = q } ss O F H σ ρ g :=
  ⟨I.keep, I.sub, I.new, I.dom, I.nsrc, I.draw, fun i d e => by
    obtain ⟨v, h1, h2, h3⟩ := I.var i d e
    refine ⟨v, h1, h2, fun m => (h3 m).imp id fun ⟨a, o, e1, nf, np, hb, ho, c⟩ => ⟨a, o, e1, nf, fun z => z.elim np fun z => ap i d m e c.is (by rw [h1, e1, z]), hb, ho, c⟩⟩, I.apart, fun a z => z.elim (I.prot a) fun z => by rw [z]; exact ⟨nf, hq⟩, I.slot, I.len⟩
theorem SInv.unguard {K : PySem.W.Frag} {F : Fz} {H : Hp} {σ : L2.St} {ρ : Ev} {g : G} {P' : Addr → Prop} (hP : ∀ a, B.P a → P' a) (I : SInv K { B with P := P' } ss O F H σ ρ g) : SInv K B ss O F H σ ρ g :=
  ⟨I.keep, I.sub, I.new, I.dom, I.nsrc, I.draw, fun i d e => by
    obtain ⟨v, h1, h2, h3⟩ := I.var i d e
    exact ⟨v, h1, h2, fun m => (h3 m).imp id fun ⟨a, o, e1, nf, np, hb, ho, c⟩ => ⟨a, o, e1, nf, fun z => np (hP a z), hb, ho, c⟩⟩, I.apart, fun a z => I.prot a (hP a z), I.slot, I.len⟩
theorem pe_any {C : Bs → Prop} {t : Bs → TE} (h : ∀ B', C B' → PE X e (t B')) : PE X e (fun σ H R => ∃ B', C B' ∧ t B' σ H R) := ⟨fun pins s σ H R I ⟨B', hc, q⟩ => (h B' hc).run pins s σ H R I q⟩
/-- .. both new -/
theorem q_parO {k1 k2 : Nat} {px py pt pt2 : Pos} (i j : Nat) (hc : X.calm = true) (hN : X.N.Nodup) (ha : PE X a (tE X.K B ss O O .fr f)) (hb : ∀ B' : Bs, B'.src = B.src → PE X b (tE X.K B' ss O O .fr h)) (hO : j :: (i :: O.filter (· ≠ i)).filter (· ≠ j) = O3 := by rfl) (hsi : ss ≠ some i := by decide) (hsj : ss ≠ some j := by decide)
    (hi : X.N[i]? = some x := by rfl) (hj : X.N[j]? = some y := by rfl) (hij : i ≠ j := by decide) (hx : X.env.scope.names.lookup x = some .local := by rfl) (hy : X.env.scope.names.lookup y = some .local := by rfl)
    (hw : swappedStores [.Tuple [.Name x px, .Name y py] k1 pt] (.Tuple [a, b] k2 pt2) X.env = pure (some [x, y]) := by rfl) (hs : swapsWithSole [.Tuple [.Name x px, .Name y py] k1 pt] (.Tuple [a, b] k2 pt2) pos.line X.env = pure false := by rfl)
    (n1 : starEach [a, b] X.env = (false, eval a X.env) :: starEach [b] X.env := by rfl) (n2 : starEach [b] X.env = (false, eval b X.env) :: starEach [] X.env := by rfl) :
    PS X (.Assign [.Tuple [.Name x px, .Name y py] k1 pt] (.Tuple [a, b] k2 pt2) pos) (tS X.K B ss O O3 Ob (sPar i j f h)) :=
  ps_imp (ps_par hc hN hi hj hij hx hy (pa_cons ha (pa_cons (pe_any (t := fun B' => tE X.K B' ss O O .fr h) hb) pa_nil n2) n1) hw hs) fun E σ H ⟨F, ρ, g, fl, g', I, ef, q⟩ => by
  subst hO
  obtain ⟨d, g1, e1, e2⟩ := mbnd_some ef
  obtain ⟨d2, g2, e3, e4⟩ := mbnd_some e2
  cases e4
  refine ⟨F, ρ, g, d, g1, I, e1, fun x' H' F' I' E' r => ?_⟩
  have fin : ∀ (y' : V) (H2 : Hp) (F2 : Fz), SInv X.K B ss O F2 H2 σ ρ g' → Ext B.src F' H' F2 H2 → KRep X.K B O F2 H2 σ ρ .fr x' d → (KRep X.K B (i :: O.filter (· ≠ i)) F2 H2 (σ.set i (some x')) (ρ.set i (some d)) .fr y' d2) → E.nx ((σ.set i (some x')).set j (some y')) H2 := fun y' H2 F2 I2 E2 r1 r2 =>
    q _ H2 F2 ((I2.setO hsi r1).setO hsj r2) (E'.stay.trans E2.stay)
  have other : ∀ {P' : Addr → Prop} {H2 : Hp} {F2 : Fz} {y' : V}, (∀ a, B.P a → P' a) → (isCont d = true → ∀ a, x' = .ref a → P' a) → KRep X.K { B with P := P' } O F2 H2 σ ρ .fr y' d2 → KRep X.K B (i :: O.filter (· ≠ i)) F2 H2 (σ.set i (some x')) (ρ.set i (some d)) .fr y' d2 := fun {P' H2 F2 y'} hP hx r2 => by
    refine r2.imp id fun ⟨a2, o2, e2, nf2, np2, hb2, ho2, c2, ap2⟩ => ⟨a2, o2, e2, nf2, fun z => np2 (hP _ z), hb2, ho2, c2, fun l e' hl he hc' hσ => ?_⟩
    by_cases ql : l = i
    · subst ql
      by_cases hr : l < ρ.length
      · rw [List.getElem?_set_self hr] at he; cases he
        rw [List.getElem?_set_self (Nat.lt_of_lt_of_le hr I.len)] at hσ
        cases hσ
        exact np2 (hx hc' a2 rfl)
      · rw [List.getElem?_eq_none (by simpa using hr)] at he; cases he
    · rw [List.getElem?_set_ne (Ne.symm ql)] at he hσ
      have m : l ∈ O := by
        rcases List.mem_cons.mp hl with z | z
        · exact absurd z ql
        · exact (List.mem_filter.mp z).1
      exact ap2 l e' m he hc' hσ
  rcases r with ⟨z, r⟩ | ⟨a1, o1, ea, nf, np, hb1, ho, c1, ap⟩
  · refine ⟨B, rfl, F', ρ, g1, d2, _, I', e3, fun y' H2 F2 I2 E2 r2 => ⟨x', y', rfl, fin y' H2 F2 I2 E2 (.inl ⟨z, Rep.mono E2.stay r⟩) (other (P' := B.P) (fun _ h => h) (fun hc => by rw [z] at hc; cases hc) r2)⟩⟩
  · subst ea
    refine ⟨{ B with P := fun a => B.P a ∨ a = a1 }, rfl, F', ρ, g1, d2, _, I'.guard nf (by rw [ho]; exact fun z => nomatch z) ap, e3, fun y' H2 F2 I2 E2 r2 => ⟨_, y', rfl, ?_⟩⟩
    have E2' : Ext B.src F' H' F2 H2 := E2
    exact fin y' H2 F2 (I2.unguard fun _ h => .inl h) E2' (.inr ⟨a1, o1, rfl, (I2.prot a1 (.inr rfl)).1, np, hb1, E2'.keep a1 o1 (I'.nsOwn hb1) ho, c1.mono E2'.stay, ap⟩) (other (fun _ h => .inl h) (fun _ a e => by cases e; exact .inr rfl) r2)

/-! ### what a name owns is changed -/
theorem SInv.mut {K : PySem.W.Frag} {F : Fz} {H : Hp} {σ : L2.St} {ρ : Ev} {g : G} (I : SInv K B ss O F H σ ρ g) {i : Nat} {d d' : D} (hi : i ∈ O) (hd : ρ[i]? = some (some d)) (hc : isCont d = true) : ∃ l o, σ[i]? = some (some (.ref l)) ∧ H l = some o ∧ Cont K F H o d ∧ ¬ isS B.src l ∧
    ∀ o', Cont K F H o' d' → SInv K B ss O F (upd H l o') σ (ρ.set i (some d')) g ∧ Stay F H F (upd H l o') := by
  obtain ⟨v, s1, _, s3⟩ := I.var i d hd
  rcases s3 hi with ⟨z, _⟩ | ⟨l, o, ev, nf, np, hb, ho, ct⟩
  · rw [hc] at z; cases z
  · subst ev
    refine ⟨l, o, s1, ho, ct, I.nsOwn hb, fun o' c' => ?_⟩
    have nr : ∀ xs, ¬ Rd H l (.tup xs) := fun xs q => by
      rcases q with q | ⟨ob, q⟩
      · rw [ho] at q; cases q; cases d <;> exact ct.elim
      · rw [ho] at q; cases q; cases d <;> exact ct.elim
    have sty : Stay F H F (upd H l o') := ⟨fun _ f => f, fun a u f e => by rw [upd_ne (show a ≠ l from fun z => nf (z ▸ f))]; exact e, fun a xs q => by
      have ne : a ≠ l := fun z => nr xs (z ▸ .inl q)
      rw [upd_ne ne]; exact q⟩
    refine ⟨⟨fun a u n e => ?_, I.sub, I.new, fun a f e => ?_, I.nsrc, fun p e => ?_, fun j e' he => ?_, fun j k a e1 e2 h1 h2 g1 c1 g2 c2 g3 g4 => ?_, fun a h => ?_, I.slot, by simpa using I.len⟩, sty⟩
    · rw [upd_ne (fun z => by rw [z, hb] at e; cases e)]; exact I.keep a u n e
    · by_cases q : a = l
      · exact nf (q ▸ f)
      · rw [upd_ne q] at e; exact I.dom a f e
    · obtain ⟨m, w1, w2⟩ := I.draw p e
      have ns := I.nsOwn hb
      exact ⟨m, by rw [upd_ne (fun z => ns ⟨p, e, .inl z.symm⟩)]; exact w1, by rw [upd_ne (fun z => ns ⟨p, e, .inr z.symm⟩)]; exact w2⟩
    · by_cases q : j = i
      · subst q
        have hr : j < ρ.length := (List.getElem?_eq_some_iff.mp hd).1
        rw [List.getElem?_set_self hr] at he; cases he
        exact ⟨_, s1, fun n => absurd hi n, fun _ => .inr ⟨l, o', rfl, nf, np, hb, upd_same, c'.mono sty⟩⟩
      · rw [List.getElem?_set_ne (Ne.symm q)] at he
        obtain ⟨v, h1, h2, h3⟩ := I.var j e' he
        refine ⟨v, h1, fun n => (h2 n).mono sty, fun m => ?_⟩
        rcases h3 m with ⟨z, r⟩ | ⟨a, u, e1, nf', np', hb', hu, c⟩
        · exact .inl ⟨z, r.mono sty⟩
        · refine .inr ⟨a, u, e1, nf', np', hb', ?_, c.mono sty⟩
          rw [upd_ne (fun z => q (I.apart j i l e' d m hi he c.is hd hc (by rw [h1, e1, z]) s1))]; exact hu
    · have same : ∀ {j : Nat} {e1 : D}, (ρ.set i (some d'))[j]? = some (some e1) → isCont e1 = true → ∃ e0, ρ[j]? = some (some e0) ∧ isCont e0 = true := fun {j e1} g1 c1 => by
        by_cases q : j = i
        · subst q; exact ⟨d, hd, hc⟩
        · rw [List.getElem?_set_ne (Ne.symm q)] at g1; exact ⟨e1, g1, c1⟩
      obtain ⟨u1, w1, z1⟩ := same g1 c1
      obtain ⟨u2, w2, z2⟩ := same g2 c2
      exact I.apart j k a u1 u2 h1 h2 w1 z1 w2 z2 g3 g4
    · obtain ⟨w1, w2⟩ := I.prot a h
      refine ⟨w1, ?_⟩
      rw [upd_ne (show a ≠ l from fun z => np (z ▸ h))]
      exact w2
def lstAt (ρ : Ev) (i : Nat) : Option (List D) := match ρ.getD i none with
  | some (.list ds) => some ds
  | _ => none
theorem lstAt_some {ρ : Ev} {i : Nat} {ds : List D} (h : lstAt ρ i = some ds) : ρ[i]? = some (some (.list ds)) := by
  unfold lstAt at h
  rw [List.getD_eq_getElem?_getD] at h
  cases q : ρ[i]? with
  | none => rw [q] at h; cases h
  | some o =>
    rw [q] at h
    cases o with
    | none => cases h
    | some d => cases d <;> first | (cases h; rfl) | cases h
theorem SInv.lst {K : PySem.W.Frag} {F : Fz} {H : Hp} {σ : L2.St} {ρ : Ev} {g : G} (I : SInv K B ss O F H σ ρ g) {i : Nat} {ds : List D} (hi : i ∈ O) (hd : ρ[i]? = some (some (.list ds))) : ∃ l xs, σ[i]? = some (some (.ref l)) ∧ H l = some (.lst xs) ∧ RepAll K F H xs ds ∧ ¬ isS B.src l ∧
    ∀ ys es, RepAll K F H ys es → SInv K B ss O F (upd H l (.lst ys)) σ (ρ.set i (some (.list es))) g ∧ Stay F H F (upd H l (.lst ys)) := by
  obtain ⟨l, o, h1, h2, h3, h4, _⟩ := I.mut (d' := .none) hi hd rfl
  cases o with
  | lst xs =>
    refine ⟨l, xs, h1, h2, h3, h4, fun ys es r => ?_⟩
    obtain ⟨l', o', g1, g2, _, _, g5⟩ := I.mut (d' := .list es) hi hd rfl
    rw [h1] at g1; cases g1
    exact g5 (.lst ys) r
  | _ => exact h3.elim
def sApp (i : Nat) (f : SE) : SS := fun ρ => mbnd (f ρ) fun d => match lstAt ρ i with
  | some ds => mguard (decide (ds.length < sizeLine)) (mret (.nx (ρ.set i (some (.list (ds ++ [d]))))))
  | none => fun _ => none
theorem mem_of_contains {i : Nat} (h : O.contains i = true) : i ∈ O := List.contains_iff_mem.mp h
theorem q_app {px ap : Pos} (i : Nat) (ha : PE X e (tE X.K B ss O O1 .fz f)) (hO : O.contains i = true := by rfl) (hO1 : O1.contains i = true := by rfl) (hi : X.N[i]? = some x := by rfl) (hv : Vis X.env.scope x := by first | exact Or.inl rfl | exact Or.inr (Or.inl rfl) | exact Or.inr (Or.inr rfl))
    (hdb : (x == ("__debug__" : Str)) = false := by decide) (hcd : (x == ("__classdict__" : Str)) = false := by decide) (h1 : swapsWith (.Call (.Attribute (.Name x px) "append" ap) [e] [] p) none pos.line X.env = pure false := by rfl)
    (h2 : attributeBase (.Name x px) "append" X.env (eval (.Name x px) X.env) = eval (.Name x px) X.env := by rfl)
    (h3 : ((backTo p (starEach [e] X.env)).all (fun x => !x.1) && (backToKw p (keywordEach [] X.env)).all (fun x => x.1.isSome) && decide (([e] : List Expr).length + ([] : List Keyword).length + (if ([] : List Keyword).isEmpty then 0 else 1) < 30)) = true := by rfl)
    (h4 : (ap.endLine == p.line) = true := by rfl) (h5 : starEach [e] X.env = (false, eval e X.env) :: starEach [] X.env := by rfl) :
    PS X (.Expr (.Call (.Attribute (.Name x px) "append" ap) [e] [] p) pos) (tS X.K B ss O O1 Ob (sApp i f)) :=
  ps_imp (ps_expr (pe_bm PySem.F.plainAttrs_list PySem.F.slot_list_append PySem.F.type_list_append mt_append (pe_var hi hv hdb hcd) (pa_cons ha pa_nil h5) h2 h3 h4 h5) h1) fun E σ H ⟨F, ρ, g, fl, g', I, ef, q⟩ => by
  obtain ⟨d, g1, e1, e2⟩ := mbnd_some ef
  cases hl : lstAt ρ i with
  | none => rw [hl] at e2; cases e2
  | some ds =>
    rw [hl] at e2
    have hd := lstAt_some hl
    obtain ⟨l, xs, s1, s2, s3, s4, _⟩ := I.lst (mem_of_contains hO) hd
    refine ⟨_, s1, Or.inl ⟨rfl, xs, .of s2⟩, F, ρ, g, d, g1, I, e1, fun x' H' F' I' E' r => ?_⟩
    obtain ⟨hz, e3⟩ := mguard_some e2
    cases e3
    obtain ⟨l', ys, t1, t2, t3, _, t5⟩ := I'.lst (mem_of_contains hO1) hd
    rw [s1] at t1; cases t1
    obtain ⟨I2, st⟩ := t5 (ys ++ [x']) (ds ++ [d]) (t3.append (.cons r .nil))
    exact ⟨l, ys, x', rfl, rfl, t2, by rw [t3.length]; exact of_decide_eq_true hz, q σ _ F' I2 (E'.stay.trans st)⟩
def sExt (i : Nat) (f : SE) : SS := fun ρ => mbnd (f ρ) fun d => match lstAt ρ i, d with
  | some ds, .list es => mguard (decide (ds.length + es.length ≤ sizeLine)) (mret (.nx (ρ.set i (some (.list (ds ++ es))))))
  | _, _ => fun _ => none
theorem q_ext {px ap : Pos} (i : Nat) (ha : PE X e (tE X.K B ss O O1 .bw f)) (hO : O.contains i = true := by rfl) (hO1 : O1.contains i = true := by rfl) (hi : X.N[i]? = some x := by rfl) (hv : Vis X.env.scope x := by first | exact Or.inl rfl | exact Or.inr (Or.inl rfl) | exact Or.inr (Or.inr rfl))
    (hdb : (x == ("__debug__" : Str)) = false := by decide) (hcd : (x == ("__classdict__" : Str)) = false := by decide) (h1 : swapsWith (.Call (.Attribute (.Name x px) "extend" ap) [e] [] p) none pos.line X.env = pure false := by rfl)
    (h2 : attributeBase (.Name x px) "extend" X.env (eval (.Name x px) X.env) = eval (.Name x px) X.env := by rfl)
    (h3 : ((backTo p (starEach [e] X.env)).all (fun x => !x.1) && (backToKw p (keywordEach [] X.env)).all (fun x => x.1.isSome) && decide (([e] : List Expr).length + ([] : List Keyword).length + (if ([] : List Keyword).isEmpty then 0 else 1) < 30)) = true := by rfl)
    (h4 : (ap.endLine == p.line) = true := by rfl) (h5 : starEach [e] X.env = (false, eval e X.env) :: starEach [] X.env := by rfl) :
    PS X (.Expr (.Call (.Attribute (.Name x px) "extend" ap) [e] [] p) pos) (tS X.K B ss O O1 Ob (sExt i f)) :=
  ps_imp (ps_expr (pe_bm PySem.F.plainAttrs_list PySem.F.slot_list_extend PySem.F.type_list_extend mt_extend (pe_var hi hv hdb hcd) (pa_cons ha pa_nil h5) h2 h3 h4 h5) h1) fun E σ H ⟨F, ρ, g, fl, g', I, ef, q⟩ => by
  obtain ⟨d, g1, e1, e2⟩ := mbnd_some ef
  cases hl : lstAt ρ i with
  | none => rw [hl] at e2; cases e2
  | some ds =>
    rw [hl] at e2
    have hd := lstAt_some hl
    obtain ⟨l, xs, s1, s2, s3, s4, _⟩ := I.lst (mem_of_contains hO) hd
    refine ⟨_, s1, Or.inl ⟨rfl, xs, .of s2⟩, F, ρ, g, d, g1, I, e1, fun x' H' F' I' E' r => ?_⟩
    cases d with
    | list es =>
      obtain ⟨hz, e3⟩ := mguard_some e2
      cases e3
      obtain ⟨l', ys, t1, t2, t3, _, t5⟩ := I'.lst (mem_of_contains hO1) hd
      rw [s1] at t1; cases t1
      obtain ⟨b, zs, w1, w2, w3⟩ := BR.list r
      subst w1
      obtain ⟨I2, st⟩ := t5 (ys ++ zs) (ds ++ es) (t3.append w3)
      exact ⟨l, b, ys, zs, rfl, rfl, t2, w2, by rw [t3.length, w3.length]; exact of_decide_eq_true hz, q σ _ F' I2 (E'.stay.trans st)⟩
    | _ => cases e2
def sPop (i : Nat) : SS := fun ρ => match lstAt ρ i with
  | some ds => mguard (!ds.isEmpty) (mret (.nx (ρ.set i (some (.list ds.dropLast)))))
  | none => fun _ => none
theorem RepAll.dropLast {K : PySem.W.Frag} {F : Fz} {H : Hp} {v : List V} {d : List D} (r : RepAll K F H v d) : RepAll K F H v.dropLast d.dropLast := by
  rw [List.dropLast_eq_take, List.dropLast_eq_take, r.length]; exact r.take _
theorem q_pop {px ap : Pos} (i : Nat) (hO : O.contains i = true := by rfl) (hi : X.N[i]? = some x := by rfl) (hv : Vis X.env.scope x := by first | exact Or.inl rfl | exact Or.inr (Or.inl rfl) | exact Or.inr (Or.inr rfl))
    (hdb : (x == ("__debug__" : Str)) = false := by decide) (hcd : (x == ("__classdict__" : Str)) = false := by decide) (h1 : swapsWith (.Call (.Attribute (.Name x px) "pop" ap) [] [] p) none pos.line X.env = pure false := by rfl)
    (h2 : attributeBase (.Name x px) "pop" X.env (eval (.Name x px) X.env) = eval (.Name x px) X.env := by rfl) (h4 : (ap.endLine == p.line) = true := by rfl) :
    PS X (.Expr (.Call (.Attribute (.Name x px) "pop" ap) [] [] p) pos) (tS X.K B ss O O Ob (sPop i)) :=
  ps_imp (ps_expr (pe_bm0 PySem.F.plainAttrs_list PySem.F.slot_list_pop PySem.F.type_list_pop mt_pop (pe_var hi hv hdb hcd) h2 h4) h1) fun E σ H ⟨F, ρ, g, fl, g', I, ef, q⟩ => by
  have ef' : (match lstAt ρ i with | some ds => mguard (!ds.isEmpty) (mret (Fl.nx (ρ.set i (some (.list ds.dropLast))))) | none => fun _ => none) g = some (fl, g') := ef
  cases hl : lstAt ρ i with
  | none => rw [hl] at ef'; cases ef'
  | some ds =>
    rw [hl] at ef'
    have hd := lstAt_some hl
    obtain ⟨l, xs, s1, s2, s3, s4, s5⟩ := I.lst (mem_of_contains hO) hd
    obtain ⟨hz, e2⟩ := mguard_some ef'
    cases e2
    obtain ⟨I2, st⟩ := s5 xs.dropLast ds.dropLast s3.dropLast
    have hne : xs ≠ [] := fun z => by subst z; cases s3; cases hz
    have hlt : xs.length - 1 < xs.length := by have := List.length_pos_iff.mpr hne; omega
    exact ⟨_, s1, Or.inl ⟨rfl, xs, .of s2⟩, l, xs, xs[xs.length - 1], rfl, rfl, s2, List.getElem?_eq_getElem hlt, q σ _ F I2 st⟩
/-- x[j] = e, a list -/
def sSetL (i : Nat) (f h : SE) : SS := fun ρ => mbnd (f ρ) fun d => mbnd (h ρ) fun j => match lstAt ρ i, j with
  | some ds, .int j => match ixN ds.length j with
    | some m => mret (.nx (ρ.set i (some (.list (ds.set m d)))))
    | none => fun _ => none
  | _, _ => fun _ => none
theorem q_setL {px p2 : Pos} (i : Nat) (ha : PE X e (tE X.K B ss O O1 .fz f)) (hb : PE X b (tE X.K B ss O1 O2 .bw h)) (hO : O2.contains i = true := by rfl) (hO1 : O1.contains i = true := by rfl) (hi : X.N[i]? = some x := by rfl) (hv : Vis X.env.scope x := by first | exact Or.inl rfl | exact Or.inr (Or.inl rfl) | exact Or.inr (Or.inr rfl))
    (hdb : (x == ("__debug__" : Str)) = false := by decide) (hcd : (x == ("__classdict__" : Str)) = false := by decide)
    (h0 : ∀ v, assign (.Subscript (.Name x px) b p2) X.env v = (do
      let ov ← holding [v] (eval (.Name x px) X.env)
      let iv ← holding [v, ov] (eval b X.env)
      standAt p2
      holding [v, ov, iv] (setItem ov iv v)
      release [v, ov, iv] []) := by intro _; rfl)
    (hs : swapsWithSole [.Subscript (.Name x px) b p2] e pos.line X.env = pure false := by rfl) (hw : swappedStores [.Subscript (.Name x px) b p2] e X.env = pure none := by rfl)
    (h1 : (assignEach [.Subscript (.Name x px) b p2] X.env).map (·.2) = [assign (.Subscript (.Name x px) b p2) X.env] := by rfl) :
    PS X (.Assign [.Subscript (.Name x px) b p2] e pos) (tS X.K B ss O O2 Ob (sSetL i f h)) :=
  ps_imp (ps_asg ha (pg_sub (pe_var hi hv hdb hcd) hb set_list h0) hs hw h1) fun E σ H ⟨F, ρ, g, fl, g', I, ef, q⟩ => by
  obtain ⟨d, g1, e1, e2⟩ := mbnd_some ef
  obtain ⟨j, g2, e3, e4⟩ := mbnd_some e2
  cases hl : lstAt ρ i with
  | none => rw [hl] at e4; cases e4
  | some ds =>
    rw [hl] at e4
    cases j with
    | int j =>
      have e4' : (match ixN ds.length j with | some m => mret (Fl.nx (ρ.set i (some (.list (ds.set m d))))) | none => fun _ => none) g2 = some (fl, g') := e4
      cases hm : ixN ds.length j with
      | none => rw [hm] at e4'; cases e4'
      | some m =>
        rw [hm] at e4'
        cases e4'
        have hd := lstAt_some hl
        refine ⟨F, ρ, g, d, g1, I, e1, fun x' H' F' I' E' r => ?_⟩
        obtain ⟨l, xs, s1, _⟩ := I'.lst (mem_of_contains hO1) hd
        refine ⟨_, s1, F', ρ, g1, _, _, I', e3, fun y' H2 F2 I2 E2 r2 => ?_⟩
        obtain ⟨l', ys, t1, t2, t3, _, t5⟩ := I2.lst (mem_of_contains hO) hd
        rw [s1] at t1; cases t1
        obtain ⟨I3, st⟩ := t5 (ys.set m x') (ds.set m d) (t3.set (Rep.mono E2.stay r) m)
        exact ⟨l, ys, j, m, rfl, BR.int r2, t2, by rw [t3.length]; exact hm, q σ _ F2 I3 ((E'.stay.trans E2.stay).trans st)⟩
    | _ => cases e4
end
end Q

set_option Elab.async false
set_option linter.all false
set_option maxRecDepth 100000
/-! QF: the pure layer: loops, comprehensions, the entry of a def. -/
namespace Q
open PySem PySem.Spec PyProof.Rows L2

/-! ### what is walked -/
structure Walks (K : PySem.W.Frag) (F : Fz) (H : Hp) (J : It) (ds : List D) : Prop where
  go : ∀ i F1 H1, Stay F H F1 H1 → i < ds.length → J.go i H1
  stop : ∀ F1 H1, Stay F H F1 H1 → J.stop ds.length H1
  yld : ∀ i d F1 H1 x H2, Stay F H F1 H1 → ds[i]? = some d → J.yld i H1 x H2 → (H2 = H1 ∨ ∃ p o, H1 p = none ∧ H2 = upd H1 p o) ∧ ∀ F2, (∀ a, F1 a → F2 a) → Stay F1 H1 F2 H2 → Rep K F2 H2 x d
def tI (K : PySem.W.Frag) (B : Bs) (ss : Option Nat) (O O' : List Nat) (f : SL) : TI := fun σ H R => ∃ F ρ g ds g', SInv K B ss O F H σ ρ g ∧ f ρ g = some (ds, g') ∧ ∀ J F' H', SInv K B ss O' F' H' σ ρ g' → Ext B.src F H F' H' → Walks K F' H' J ds → R J H'
section
variable {X : Cx} {B : Bs} {ss : Option Nat} {O O1 O2 O3 Ob : List Nat} {a b c e tg : Expr} {es : List Expr} {f h : SE} {u v : ST} {fs : SL} {pos p : Pos} {n k : Nat} {x y : Str} {st : Stmt} {rest body orelse : List Stmt} {s t : SS}
theorem pi_imp {e : Expr} {t t' : TI} (h : PI X tg e t) (i : ∀ σ H R, t' σ H R → t σ H R) : PI X tg e t' := ⟨fun pins s σ H R I q => h.run pins s σ H R I (i σ H R q)⟩
/-- lists and tuples -/
theorem pi_seq {l : Expr} {tl : TE} (hl : PE X l tl) : PI X tg l (fun σ H R => tl σ H fun x H1 => ∃ a, x = .ref a ∧ ((∃ xs, SqL X.K H1 a xs ∧ R (Itl X.K a) H1) ∨ ∃ xs, SqT X.K H1 a xs ∧ R (Itt X.K a) H1)) := by
  refine ⟨fun pins s σ H R I h => thn (hl.run pins s σ H _ I h) fun v s1 ⟨x, H1, I1, r1, a, e, q1⟩ => ?_⟩
  subst e
  cases r1
  have fr : ∀ b, b ∈ [s1.heap.objs.size] → FpOk X pins H1 b := fun b hb => by
    have e : b = s1.heap.objs.size := List.mem_singleton.mp hb
    subst e
    exact I1.fpOk (Nat.le_refl _) (I1.hok.fresh (Nat.le_refl _))
  rcases q1 with ⟨xs, hq, q⟩ | ⟨xs, hq, q⟩
  · obtain ⟨its, _, p, _⟩ := I1.list hq
    exact wpAny_pyIter_list p.isList ⟨_, _, _, _, H1, rfl, I1.kept (t' := s1.toks) fun b o e => Heap.get?_push_of_some _ e, turn_list a _, ⟨_, Heap.get?_push_size _ rfl, rfl, rfl⟩, fr, q⟩
  · obtain ⟨its, _, p, _⟩ := I1.tuple hq
    exact wpAny_pyIter_tuple (show s1.heap.IsTuple a its.toArray from p) ⟨_, _, _, _, H1, rfl, I1.kept (t' := s1.toks) fun b o e => Heap.get?_push_of_some _ e, turn_tuple a _, ⟨_, Heap.get?_push_size _ rfl, rfl, rfl⟩, fr, q⟩
def seqD : D → Option (List D)
  | .list ds => some ds
  | .tuple ds => some ds
  | _ => none
theorem walks_list {K : PySem.W.Frag} {F : Fz} {H : Hp} {a : Addr} {xs : List V} {ds : List D} (fa : F a) (e : H a = some (.lst xs)) (r : RepAll K F H xs ds) : Walks K F H (Itl K a) ds where
  go := fun i F1 H1 st hi => ⟨xs, xs[i]'(by rw [r.length]; exact hi), .of (st.obj a _ fa e), by simp [r.length, hi]⟩
  stop := fun F1 H1 st => ⟨xs, .of (st.obj a _ fa e), Nat.le_of_eq r.length⟩
  yld := fun i d F1 H1 x H2 st hd ⟨e2, y⟩ => by
    refine ⟨.inl e2, fun F2 _ s2 => ?_⟩
    obtain ⟨z, h1, h2⟩ := r.get hd
    rw [y xs (.of (st.obj a _ fa e))] at h1
    cases h1
    exact Rep.mono (st.trans s2) h2
theorem walks_tuple {K : PySem.W.Frag} {F : Fz} {H : Hp} {a : Addr} {xs : List V} {ds : List D} (e : TqT K H a xs) (r : RepAll K F H xs ds) : Walks K F H (Itt K a) ds where
  go := fun i F1 H1 st hi => ⟨xs, xs[i]'(by rw [r.length]; exact hi), (st.sqT e).sq, by simp [r.length, hi]⟩
  stop := fun F1 H1 st => ⟨xs, (st.sqT e).sq, Nat.le_of_eq r.length⟩
  yld := fun i d F1 H1 x H2 st hd ⟨e2, y⟩ => by
    refine ⟨.inl e2, fun F2 _ s2 => ?_⟩
    obtain ⟨z, h1, h2⟩ := r.get hd
    rw [y xs ((st.sqT e).sq)] at h1
    cases h1
    exact Rep.mono (st.trans s2) h2
def iSeq (f : SE) : SL := fun ρ => mbnd (f ρ) fun d => mlift (seqD d)
theorem q_iseq (ha : PE X a (tE X.K B ss O O1 .fz f)) : PI X tg a (tI X.K B ss O O1 (iSeq f)) := pi_imp (pi_seq ha) fun σ H R ⟨F, ρ, g, ds, g', I, ef, q⟩ => by
  obtain ⟨d, g1, e1, e2⟩ := mbnd_some ef
  obtain ⟨e3, rfl⟩ := mlift_some e2
  refine ⟨F, ρ, g, d, g', I, e1, fun x' H' F' I' E' r => ?_⟩
  unfold seqD at e3
  split at e3
  · cases e3
    cases r with
    | lst fa he rr => exact ⟨_, rfl, .inl ⟨_, .of he, q _ F' H' I' E' (walks_list fa he rr)⟩⟩
  · cases e3
    cases r with
    | tup he rr => exact ⟨_, rfl, .inr ⟨_, he.sq, q _ F' H' I' E' (walks_tuple he rr)⟩⟩
  · cases e3
theorem walks_range {K : PySem.W.Frag} {F : Fz} {H : Hp} {lo : Int} {n : Nat} : Walks K F H (Itr lo n) ((List.range n).map fun (i : Nat) => .int (lo + i)) where
  go := fun i F1 H1 st hi => by show i < n; simpa using hi
  stop := fun F1 H1 st => by simp [Itr]
  yld := fun i d F1 H1 x H2 st hd ⟨e2, y⟩ => by
    refine ⟨.inl e2, fun F2 _ s2 => ?_⟩
    rw [List.getElem?_map] at hd
    cases q : (List.range n)[i]? with
    | none => rw [q] at hd; cases hd
    | some j =>
      rw [q] at hd; cases hd
      have : j = i := by
        obtain ⟨h1, h2⟩ := List.getElem?_eq_some_iff.mp q
        simpa using h2.symm
      subst this; subst y
      exact .int _
def rangeD (lo : Int) (n : Nat) : List D := (List.range n).map fun (i : Nat) => .int (lo + i)
def inR (i : Int) : Bool := decide (i.natAbs < 2 ^ 62)
theorem inR_iff {i : Int} (h : inR i = true) : -(2 ^ 62) ≤ i ∧ i < 2 ^ 62 := by
  have h := of_decide_eq_true h
  omega
def iRange1 (f : SE) : SL := fun ρ => mbnd (f ρ) fun d => match d with
  | .int j => mguard (inR j) (mret (rangeD 0 j.toNat))
  | _ => fun _ => none
def iRange2 (f h : SE) : SL := fun ρ => mbnd (f ρ) fun d => mbnd (h ρ) fun e => match d, e with
  | .int i, .int j => mguard (inR i && inR j) (mret (rangeD i (j - i).toNat))
  | _, _ => fun _ => none
theorem q_irange1 (ha : PE X a (tE X.K B ss O O1 .bw f)) (hm : X.mg "range" = none) (hg : Gl X "range" := by rfl) (hs : starEach [a] X.env = [(false, eval a X.env)] := by rfl) (n1 : starEach [a] X.env = (false, eval a X.env) :: starEach [] X.env := by rfl) : PI X tg (.Call (.Name "range" p) [a] [] pos) (tI X.K B ss O O1 (iRange1 f)) :=
  pi_imp (pi_range1 hg hm (pa_cons ha pa_nil n1) hs) fun σ H R ⟨F, ρ, g, ds, g', I, ef, q⟩ => by
  obtain ⟨d, g1, e1, e2⟩ := mbnd_some ef
  cases d with
  | int j =>
    obtain ⟨hj, e3⟩ := mguard_some e2
    cases e3
    exact ⟨F, ρ, g, _, _, I, e1, fun x' H1 F1 I1 E1 r => ⟨j, by rw [BR.int r], (inR_iff hj).1, (inR_iff hj).2, q _ F1 H1 I1 E1 walks_range⟩⟩
  | _ => cases e2
theorem q_irange2 (ha : PE X a (tE X.K B ss O O1 .bw f)) (hb : PE X b (tE X.K B ss O1 O2 .bw h)) (hm : X.mg "range" = none) (hg : Gl X "range" := by rfl) (hs : starEach [a, b] X.env = [(false, eval a X.env), (false, eval b X.env)] := by rfl) (hs2 : starEach [b] X.env = [(false, eval b X.env)] := by rfl)
    (n1 : starEach [a, b] X.env = (false, eval a X.env) :: starEach [b] X.env := by rfl) (n2 : starEach [b] X.env = (false, eval b X.env) :: starEach [] X.env := by rfl) : PI X tg (.Call (.Name "range" p) [a, b] [] pos) (tI X.K B ss O O2 (iRange2 f h)) :=
  pi_imp (pi_range2 hg hm (pa_cons ha (pa_cons hb pa_nil n2) n1) hs hs2) fun σ H R ⟨F, ρ, g, ds, g', I, ef, q⟩ => by
  obtain ⟨d, g1, e1, e2⟩ := mbnd_some ef
  obtain ⟨e, g2, e3, e4⟩ := mbnd_some e2
  cases d with
  | int i =>
    cases e with
    | int j =>
      obtain ⟨hj, e5⟩ := mguard_some e4
      cases e5
      rw [Bool.and_eq_true] at hj
      exact ⟨F, ρ, g, _, g1, I, e1, fun x' H1 F1 I1 E1 r => ⟨F1, ρ, g1, _, _, I1, e3, fun y' H2 F2 I2 E2 r2 => ⟨i, j, by rw [BR.int r, BR.int r2], ⟨(inR_iff hj.1).1, (inR_iff hj.1).2, (inR_iff hj.2).1, (inR_iff hj.2).2⟩, q _ F2 H2 I2 (E1.trans E2) walks_range⟩⟩⟩
    | _ => cases e4
  | _ => cases e4

/-! ### enumerate -/
theorem meets_enumT (l : Addr) (items : Array Value) (o : Obj) (ho : o.cls = .type "tuple") (n : Nat) (hd : o.data = .seq items n) :
    Meets (Builtin.«enumerate.__new__» ⟨[.type "enumerate", .ref l], []⟩) (fun _ R s => s.heap.get? l = some o ∧
      R (.ok (.ret (.ref (s.heap.push { cls := .type "tuple_iterator", data := .fields #[.ref l, .int 0 0] }).objs.size)))
        { s with heap := (s.heap.push { cls := .type "tuple_iterator", data := .fields #[.ref l, .int 0 0] }).push { cls := .type "enumerate", data := .fields #[.none, .bool false, .ref s.heap.objs.size, rawInt 0, .none, .none] } }) :=
  .of_wp fun prog w A R s h => by
    obtain ⟨hp, g, d, tk, os⟩ := s; obtain ⟨hl, h⟩ := h
    obtain ⟨c, dct, dt, sl⟩ := o
    have hc' : c = .type "tuple" := ho
    have hd' : dt = .seq items n := hd
    subst hc' hd'
    have hsub := PySem.sub_enumerate
    have hL : Heap.IsTuple (Shared.heap ⟨hp, g, d, tk, os⟩) l items := ⟨_, hl, rfl, n, rfl⟩
    wp_walk using PySem.AutoSeq1.wpAny_loadPart' hl
    refine wpAny_stack_any fun st => wpAny_pure ?_
    split
    · rename_i c _ _ _ _ _
      cases (c == Value.type "enumerate")
      · wp_walk using PySem.AutoSeq1.wpAny_loadPart' hl, wpAny_pyIter_tuple hL
        exact ⟨_, rfl, h⟩
      · wp_walk using PySem.AutoSeq1.wpAny_loadPart' hl, wpAny_pyIter_tuple hL
        exact ⟨_, rfl, h⟩
    · wp_walk using PySem.AutoSeq1.wpAny_loadPart' hl, wpAny_pyIter_tuple hL
      exact ⟨_, rfl, h⟩
theorem call_enumT {A : Around} {E : Value → Shared → Prop} {s : Shared} {l : Addr} {items : Array Value} {R : Value → Shared → Prop} (hL : s.heap.IsTuple l items)
    (h : ∀ h', IsEnum h' (s.heap.objs.size + 1) s.heap.objs.size 0 .none → h'.IsTupleIter s.heap.objs.size l 0 → (∀ b o, s.heap.get? b = some o → h'.get? b = some o) → R (.ref (s.heap.objs.size + 1)) { s with heap := h' }) :
    wpAny (model X.prog X.w) A (call (.type "enumerate") [.ref l]) R E s := by
  obtain ⟨o, hl, hc, n, hd⟩ := id hL
  refine callType_new PySem.F.called_enumerate (by decide) (PySem.F.typeCall_enumerate_1 _) (PySem.F.newCall_enumerate_1 _) (fun obj => PySem.F.args_object_init_2 obj _) PySem.F.entry_enumerate_new (meets_enumT l items o hc n hd) ⟨hl, ?_⟩
  have hz : (s.heap.push { cls := .type "tuple_iterator", data := .fields #[.ref l, .int 0 0] }).objs.size = s.heap.objs.size + 1 := Heap.size_push ..
  show _ ∧ _
  rw [hz]
  have he : ((s.heap.push { cls := .type "tuple_iterator", data := .fields #[.ref l, .int 0 0] }).push { cls := .type "enumerate", data := .fields #[.none, .bool false, .ref s.heap.objs.size, rawInt 0, .none, .none] }).get? (s.heap.objs.size + 1) = some { cls := .type "enumerate", data := .fields #[.none, .bool false, .ref s.heap.objs.size, rawInt 0, .none, .none] } := by
    rw [← hz]; exact Heap.get?_push_size _ rfl
  exact ⟨⟨_, he, rfl⟩, h _ he ⟨_, Heap.get?_push_of_some _ (Heap.get?_push_size _ rfl), rfl, rfl⟩ fun b o x => Heap.get?_push_of_some _ (Heap.get?_push_of_some _ x)⟩
/-- the tuple at a, each item in a new pair with its place -/
def IteT (K : PySem.W.Frag) (a : Addr) : It :=
  ⟨fun i H => ∃ (xs : List V) (x : V), SqT K H a xs ∧ xs[i]? = some x, fun i H v H' => ∃ T x, v = .ref T ∧ H T = none ∧ H' = upd H T (.tup [.int (i : Nat), x]) ∧ ∀ xs, SqT K H a xs → xs[i]? = some x, fun i H => ∃ xs : List V, SqT K H a xs ∧ xs.length = i⟩
theorem turn_enumT {P : Program} {w : World} {K : PySem.W.Frag} {elts : List Expr} {kk : Nat} {tpos : Pos} (a en it : Addr) :
    Turn P w K (.Tuple elts kk tpos) (IteT K a) [en, it] en (fun i h => (∃ old, IsEnum h en it ((i : Nat) : Int) old) ∧ h.IsTupleIter it a i ∧ en ≠ it ∧ a ≠ en ∧ a ≠ it) where
  mem := by simp
  obj := fun i h st b hb => by
    obtain ⟨⟨old, he⟩, ⟨o, ho, hc, hd⟩, _⟩ := st
    have e' : b = en ∨ b = it := by simpa using hb
    rcases e' with z | z
    · rw [z]; exact ⟨_, he, fun v q => nomatch q⟩
    · rw [z]; exact ⟨o, ho, fun v q => by rw [hd] at q; cases q⟩
  keep := fun i h h' st k => let ⟨⟨old, he⟩, hi, hne⟩ := st; ⟨⟨old, k en (by simp) _ he⟩, hi.at fun o q => k it (by simp) o q, hne⟩
  item := by
    intro X hP hw hK hc i pins s σ H E I hf st hg
    subst hP hw hK
    obtain ⟨⟨old, he⟩, hit, hne, ha1, ha2⟩ := st
    obtain ⟨xs, x, hq, hx⟩ := hg
    obtain ⟨its, rv, p, hz⟩ := I.tuple hq
    obtain ⟨u, hu, ru⟩ := rv.get hx
    have hil : i < its.toArray.size := by simpa using (List.getElem?_eq_some_iff.mp hu).1
    have Dr := Draws.tuple (prog := X.prog) (w := X.w) (A := X.A.in1) (I.ok.hd hc) it a ha2 its.toArray
    have hel : en < s.heap.objs.size := Heap.lt_size he
    have hil2 : it < s.heap.objs.size := by obtain ⟨_, q, _⟩ := hit; exact Heap.lt_size q
    refine wpAny_pyNext_enum_itemD Dr he ⟨hit, p⟩ hil hne (by simp [hne, Ne.symm ha1]) fun x2 h' tk hP ho st' hT hsz hk => ?_
    have ex : x2 = u := by
      have hP' : its.toArray[i]? = some x2 := hP
      have e1 : its[i]? = some x2 := by simpa using hP'
      rw [hu] at e1; cases e1; rfl
    subst ex
    refine ⟨_, rfl, wpAny_letOwnedTupleGo_enum (s := { s with heap := h', toks := tk + 1 }) ho fun h'' he' sb => ?_⟩
    have hT2 : h''.get? s.heap.objs.size = some { cls := .type "tuple", data := .seq #[.int i tk, x2] } := (sb.2 _ (Nat.ne_of_gt hel)).trans hT
    have new : ObjOk X.prog X.w (upd H s.heap.objs.size (.tup [.int (i : Nat), x])) h'' s.heap.objs.size (.tup [.int (i : Nat), x]) :=
      ⟨by show 2 ≤ sizeLine; decide, [.int i tk, x2], .cons ⟨_, rfl⟩ (.cons ru .nil), ⟨_, hT2, rfl, _, rfl⟩⟩
    have I1 : Inv X pins σ (upd H s.heap.objs.size (.tup [.int (i : Nat), x])) { s with heap := h'', toks := tk + 1 } :=
      I.turnedNew (ch := [en, it]) (fun b ob hb q => (sb.2 b (fun z => hb (by simp [z]))).trans (hk b ob (fun z => hb (by simp [z])) (fun z => hb (by simp [z])) q)) hf (Nat.le_refl _) new
    refine ⟨.ref s.heap.objs.size, _, I1, rfl, ⟨_, x, rfl, I.hok.fresh (Nat.le_refl _), rfl, fun ys hy => by rw [I.tuple_inj hy hq]; exact hx⟩, ⟨⟨x2, ?_⟩, st'.1.at fun o q => (sb.2 it (Ne.symm hne)).trans q, hne, ha1, ha2⟩, fun b hb => ?_⟩
    · have e1 : ((i + 1 : Nat) : Int) = (i : Int) + 1 := by omega
      rw [e1]; exact he'
    · have hb' : b < s.heap.objs.size := by
        have e' : b = en ∨ b = it := by simpa using hb
        rcases e' with z | z
        · rw [z]; exact hel
        · rw [z]; exact hil2
      rw [upd_ne (Nat.ne_of_lt hb')]
      exact (hf b hb).1
  done := by
    intro X hP hw hK hc i pins s σ H E I hf st hg
    subst hP hw hK
    obtain ⟨⟨old, he⟩, hit, hne, ha1, ha2⟩ := st
    obtain ⟨xs, hq, hx⟩ := hg
    obtain ⟨its, rv, p, hz⟩ := I.tuple hq
    obtain ⟨f0, f1, f2, f3, f4, f5⟩ := hf it (by simp)
    have hi : i = its.toArray.size := by rw [List.size_toArray, ← rv.length]; exact hx.symm
    subst hi
    have Dr := Draws.tuple (prog := X.prog) (w := X.w) (A := X.A.in1) (I.ok.hd hc) it a ha2 its.toArray
    exact wpAny_pyNext_enum_endD Dr he ⟨hit, p⟩ fun h' eb => ⟨rfl, I.turned (t' := s.toks) (fun b o hb q => eb b o hb q) f0 f1 f3 f4 f5⟩
  self := fun A i s Q E st h => let ⟨⟨_, he⟩, _⟩ := st; wpAny_pyIter_enum he h
theorem pi_enumA {ta : TA} {elts : List Expr} {kk : Nat} {tpos : Pos} (hm : X.mg "enumerate" = none) (ha : PA X [e] ta) (hg : Gl X "enumerate" := by rfl) (hs : starEach [e] X.env = [(false, eval e X.env)] := by rfl) :
    PI X (.Tuple elts kk tpos) (.Call (.Name "enumerate" p) [e] [] pos) (fun σ H R => ta σ H fun vs H1 => ∃ a, vs = [.ref a] ∧ ((∃ xs, SqL X.K H1 a xs ∧ R (Ite X.K a) H1) ∨ ∃ xs, SqT X.K H1 a xs ∧ R (IteT X.K a) H1)) := by
  refine ⟨fun pins s σ H R I h => ?_⟩
  refine Call_ (ld_blt I hg hm boot_enumerate (PyProof.Rows.callWith_type1 (thn (ha.run pos pins s σ H _ I h) fun us s1 ⟨vs, H1, I1, r1, a, ex, q1⟩ => ?_) hs rfl))
  subst ex
  cases r1 with
  | cons r rr =>
    cases rr
    cases r
    have fr : ∀ b, b ∈ [s1.heap.objs.size + 1, s1.heap.objs.size] → FpOk X pins H1 b := fun b hb => by
      have e' : b = s1.heap.objs.size + 1 ∨ b = s1.heap.objs.size := by simpa using hb
      have hle : s1.heap.objs.size ≤ b := e'.elim (fun z => by rw [z]; exact Nat.le_add_right _ _) fun z => by rw [z]; exact Nat.le_refl _
      exact I1.fpOk hle (I1.hok.fresh hle)
    rcases q1 with ⟨xs, hq, q⟩ | ⟨xs, hq, q⟩
    · obtain ⟨its, rv, p', hz⟩ := I1.list hq
      refine call_enumerate_list p'.isList fun h' he hit hsz hk => wpAny_pyIter_enum he ?_
      have I2 : Inv X pins σ H1 { s1 with heap := h' } := I1.kept (t' := s1.toks) hk
      exact ⟨s1.heap.objs.size + 1, [s1.heap.objs.size + 1, s1.heap.objs.size], _, _, H1, rfl, I2, turn_enum a (s1.heap.objs.size + 1) s1.heap.objs.size, ⟨⟨.none, he⟩, hit, Nat.succ_ne_self _⟩, fr, q⟩
    · obtain ⟨its, rv, p', hz⟩ := I1.tuple hq
      have hal : a < s1.heap.objs.size := by obtain ⟨o, ho, _⟩ := p'; exact Heap.lt_size ho
      refine call_enumT (show s1.heap.IsTuple a its.toArray from p') fun h' he hit hk => wpAny_pyIter_enum he ?_
      have I2 : Inv X pins σ H1 { s1 with heap := h' } := I1.kept (t' := s1.toks) hk
      have n1 : a ≠ s1.heap.objs.size + 1 := Nat.ne_of_lt (Nat.lt_succ_of_lt hal)
      have n2 : a ≠ s1.heap.objs.size := Nat.ne_of_lt hal
      exact ⟨s1.heap.objs.size + 1, [s1.heap.objs.size + 1, s1.heap.objs.size], _, _, H1, rfl, I2, turn_enumT a (s1.heap.objs.size + 1) s1.heap.objs.size, ⟨⟨.none, he⟩, hit, Nat.succ_ne_self _, n1, n2⟩, fr, q⟩
def enumD (ds : List D) : List D := ds.zipIdx.map fun p => .tuple [.int (p.2 : Nat), p.1]
theorem enumD_get {ds : List D} {i : Nat} {d : D} (h : (enumD ds)[i]? = some d) : ∃ z, ds[i]? = some z ∧ d = .tuple [.int (i : Nat), z] := by
  unfold enumD at h
  rw [List.getElem?_map, List.getElem?_zipIdx] at h
  cases q : ds[i]? with
  | none => rw [q] at h; cases h
  | some z => rw [q] at h; simp at h; exact ⟨z, rfl, h.symm⟩
theorem walks_enum {K : PySem.W.Frag} {F : Fz} {H : Hp} {a : Addr} {xs : List V} {ds : List D} (fa : F a) (e : H a = some (.lst xs)) (r : RepAll K F H xs ds) : Walks K F H (Ite K a) (enumD ds) where
  go := fun i F1 H1 st hi => ⟨xs, xs[i]'(by rw [r.length]; simpa [enumD] using hi), .of (st.obj a _ fa e), by simp [r.length, show i < ds.length by simpa [enumD] using hi]⟩
  stop := fun F1 H1 st => ⟨xs, .of (st.obj a _ fa e), by rw [r.length]; simp [enumD]⟩
  yld := fun i d F1 H1 x H2 st hd ⟨T, z, e1, e2, e3, y⟩ => by
    subst e1 e3
    refine ⟨.inr ⟨T, _, e2, rfl⟩, fun F2 _ s2 => ?_⟩
    obtain ⟨w, h1, rfl⟩ := enumD_get hd
    obtain ⟨v, g1, g2⟩ := r.get h1
    rw [y xs (.of (st.obj a _ fa e))] at g1
    cases g1
    exact .tup (.of upd_same) (.cons (.int _) (.cons (Rep.mono (st.trans s2) g2) .nil))
theorem walks_enumT {K : PySem.W.Frag} {F : Fz} {H : Hp} {a : Addr} {xs : List V} {ds : List D} (e : TqT K H a xs) (r : RepAll K F H xs ds) : Walks K F H (IteT K a) (enumD ds) where
  go := fun i F1 H1 st hi => ⟨xs, xs[i]'(by rw [r.length]; simpa [enumD] using hi), (st.sqT e).sq, by simp [r.length, show i < ds.length by simpa [enumD] using hi]⟩
  stop := fun F1 H1 st => ⟨xs, (st.sqT e).sq, by rw [r.length]; simp [enumD]⟩
  yld := fun i d F1 H1 x H2 st hd ⟨T, z, e1, e2, e3, y⟩ => by
    subst e1 e3
    refine ⟨.inr ⟨T, _, e2, rfl⟩, fun F2 _ s2 => ?_⟩
    obtain ⟨w, h1, rfl⟩ := enumD_get hd
    obtain ⟨v, g1, g2⟩ := r.get h1
    rw [y xs ((st.sqT e).sq)] at g1
    cases g1
    exact .tup (.of upd_same) (.cons (.int _) (.cons (Rep.mono (st.trans s2) g2) .nil))
def iEnum (f : SE) : SL := fun ρ => mbnd (f ρ) fun d => mlift ((seqD d).map enumD)
theorem q_ienum {elts : List Expr} {kk : Nat} {tpos : Pos} (ha : PE X a (tE X.K B ss O O1 .fz f)) (hm : X.mg "enumerate" = none) (hg : Gl X "enumerate" := by rfl) (hs : starEach [a] X.env = [(false, eval a X.env)] := by rfl) (n1 : starEach [a] X.env = (false, eval a X.env) :: starEach [] X.env := by rfl) :
    PI X (.Tuple elts kk tpos) (.Call (.Name "enumerate" p) [a] [] pos) (tI X.K B ss O O1 (iEnum f)) := pi_imp (pi_enumA hm (pa_cons ha pa_nil n1) hg hs) fun σ H R ⟨F, ρ, g, ds, g', I, ef, q⟩ => by
  obtain ⟨d, g1, e1, e2⟩ := mbnd_some ef
  obtain ⟨e3, rfl⟩ := mlift_some e2
  refine ⟨F, ρ, g, d, g', I, e1, fun x' H' F' I' E' r => ?_⟩
  cases d with
  | list zs =>
    cases e3
    cases r with
    | lst fa he rr => exact ⟨_, rfl, .inl ⟨_, .of he, q _ F' H' I' E' (walks_enum fa he rr)⟩⟩
  | tuple zs =>
    cases e3
    cases r with
    | tup he rr => exact ⟨_, rfl, .inr ⟨_, he.sq, q _ F' H' I' E' (walks_enumT he rr)⟩⟩
  | _ => cases e3

/-! ### zip -/
def zipD (ds es : List D) : List D := (ds.zip es).map fun p => .tuple [p.1, p.2]
theorem zipD_get {ds es : List D} {i : Nat} {d : D} (h : (zipD ds es)[i]? = some d) : ∃ z w, ds[i]? = some z ∧ es[i]? = some w ∧ d = .tuple [z, w] := by
  unfold zipD at h
  rw [List.getElem?_map] at h
  cases q : (ds.zip es)[i]? with
  | none => rw [q] at h; cases h
  | some z =>
    rw [q] at h
    obtain ⟨h1, h2⟩ := List.getElem?_zip_eq_some.mp q
    cases h
    exact ⟨_, _, h1, h2, rfl⟩
theorem walks_zip {K : PySem.W.Frag} {F : Fz} {H : Hp} {a b : Addr} {xs ys : List V} {ds es : List D} (fa : F a) (ea : H a = some (.lst xs)) (ra : RepAll K F H xs ds) (fb : F b) (eb : H b = some (.lst ys)) (rb : RepAll K F H ys es) : Walks K F H (Itz K a b) (zipD ds es) where
  go := fun i F1 H1 st hi => by
    have h1 : i < xs.length := by rw [ra.length]; simp [zipD] at hi; omega
    have h2 : i < ys.length := by rw [rb.length]; simp [zipD] at hi; omega
    exact ⟨xs, ys, xs[i], ys[i], .of (st.obj a _ fa ea), .of (st.obj b _ fb eb), by simp [h1], by simp [h2]⟩
  stop := fun F1 H1 st => ⟨xs, ys, .of (st.obj a _ fa ea), .of (st.obj b _ fb eb), by rw [ra.length, rb.length]; simp [zipD]; omega⟩
  yld := fun i d F1 H1 x H2 st hd ⟨T, z, w, e1, e2, e3, y1, y2⟩ => by
    subst e1 e3
    refine ⟨.inr ⟨T, _, e2, rfl⟩, fun F2 _ s2 => ?_⟩
    obtain ⟨z', w', h1, h2, rfl⟩ := zipD_get hd
    obtain ⟨v, g1, g2⟩ := ra.get h1
    obtain ⟨v', k1, k2⟩ := rb.get h2
    rw [y1 xs (.of (st.obj a _ fa ea))] at g1
    rw [y2 ys (.of (st.obj b _ fb eb))] at k1
    cases g1; cases k1
    exact .tup (.of upd_same) (.cons (Rep.mono (st.trans s2) g2) (.cons (Rep.mono (st.trans s2) k2) .nil))
theorem walks_zipT {K : PySem.W.Frag} {F : Fz} {H : Hp} {a b : Addr} {xs ys : List V} {ds es : List D} (ea : TqT K H a xs) (ra : RepAll K F H xs ds) (eb : TqT K H b ys) (rb : RepAll K F H ys es) : Walks K F H (RZ.ItzT K a b) (zipD ds es) where
  go := fun i F1 H1 st hi => by
    have h1 : i < xs.length := by rw [ra.length]; simp [zipD] at hi; omega
    have h2 : i < ys.length := by rw [rb.length]; simp [zipD] at hi; omega
    exact ⟨xs, ys, xs[i], ys[i], (st.sqT ea).sq, (st.sqT eb).sq, by simp [h1], by simp [h2]⟩
  stop := fun F1 H1 st => ⟨xs, ys, (st.sqT ea).sq, (st.sqT eb).sq, by rw [ra.length, rb.length]; simp [zipD]; omega⟩
  yld := fun i d F1 H1 x H2 st hd ⟨T, z, w, e1, e2, e3, y1, y2⟩ => by
    subst e1 e3
    refine ⟨.inr ⟨T, _, e2, rfl⟩, fun F2 _ s2 => ?_⟩
    obtain ⟨z', w', h1, h2, rfl⟩ := zipD_get hd
    obtain ⟨v, g1, g2⟩ := ra.get h1
    obtain ⟨v', k1, k2⟩ := rb.get h2
    rw [y1 xs ((st.sqT ea).sq)] at g1
    rw [y2 ys ((st.sqT eb).sq)] at k1
    cases g1; cases k1
    exact .tup (.of upd_same) (.cons (Rep.mono (st.trans s2) g2) (.cons (Rep.mono (st.trans s2) k2) .nil))
def zipOf : D → D → Option (List D)
  | .list xs, .list ys => some (zipD xs ys)
  | .tuple xs, .tuple ys => some (zipD xs ys)
  | _, _ => none
def iZip (f h : SE) : SL := fun ρ => mbnd (f ρ) fun d => mbnd (h ρ) fun e => mlift (zipOf d e)
theorem q_izip {elts : List Expr} {kk : Nat} {tpos : Pos} (ha : PE X a (tE X.K B ss O O1 .fz f)) (hb : PE X b (tE X.K B ss O1 O2 .fz h)) (hm : X.mg "zip" = none) (hg : Gl X "zip" := by rfl) (hs : starEach [a, b] X.env = (false, eval a X.env) :: starEach [b] X.env := by rfl) (n2 : starEach [b] X.env = (false, eval b X.env) :: starEach [] X.env := by rfl)
    (hpl : (backTo pos (starEach [b] X.env)).any (·.1) = false := by rfl) : PI X (.Tuple elts kk tpos) (.Call (.Name "zip" p) [a, b] [] pos) (tI X.K B ss O O2 (iZip f h)) :=
  pi_imp (RZ.pi_zipA hg hm (pa_cons ha (pa_cons hb pa_nil n2) hs) hs hpl) fun σ H R ⟨F, ρ, g, ds, g', I, ef, q⟩ => by
  obtain ⟨d, g1, e1, e2⟩ := mbnd_some ef
  obtain ⟨e, g2, e3, e5⟩ := mbnd_some e2
  obtain ⟨e4, rfl⟩ := mlift_some e5
  refine ⟨F, ρ, g, d, g1, I, e1, fun x' H1 F1 I1 E1 r1 => ⟨F1, ρ, g1, e, g', I1, e3, fun y' H2 F2 I2 E2 r2 => ?_⟩⟩
  have r1' := Rep.mono E2.stay r1
  unfold zipOf at e4
  split at e4
  · cases e4
    cases r1' with
    | lst fa ea ra =>
      cases r2 with
      | lst fb eb rb => exact ⟨_, _, _, _, rfl, .inl ⟨.of ea, .of eb, q _ F2 H2 I2 (E1.trans E2) (walks_zip fa ea ra fb eb rb)⟩⟩
  · cases e4
    cases r1' with
    | tup ea ra =>
      cases r2 with
      | tup eb rb => exact ⟨_, _, _, _, rfl, .inr ⟨ea.sq, eb.sq, q _ F2 H2 I2 (E1.trans E2) (walks_zipT ea ra eb rb)⟩⟩
  · cases e4
end
end Q

set_option Elab.async false
set_option linter.all false
set_option maxRecDepth 100000
/-! QG: the pure layer: for, while, comprehensions, the entry of a def. -/
namespace Q
open PySem PySem.Spec PyProof.Rows L2
section
variable {X : Cx} {B : Bs} {ss : Option Nat} {O O1 O2 O3 Ob : List Nat} {a b c e tg iter : Expr} {es : List Expr} {f h : SE} {u v : ST} {fs : SL} {pos p : Pos} {n k : Nat} {x y : Str} {st : Stmt} {rest body orelse : List Stmt} {s t : SS}

/-! ### for -/
def forGo (tgt : SG) (b : SS) : List D → SS
  | [], ρ => mret (.nx ρ)
  | d :: r, ρ => mbnd (mlift (tgt d ρ)) fun ρ1 => mbnd (b ρ1) fun fl => match fl with
    | .nx ρ2 => forGo tgt b r ρ2
    | .ct ρ2 => forGo tgt b r ρ2
    | .bk ρ2 => mret (.nx ρ2)
    | .rt d => mret (.rt d)
def sFor (it : SL) (tgt : SG) (b : SS) : SS := fun ρ => mbnd (it ρ) fun ds => forGo tgt b ds ρ
theorem SInv.laidS {K : PySem.W.Frag} {F : Fz} {H H2 : Hp} {σ : L2.St} {ρ : Ev} {g : G} (I : SInv K B ss O F H σ ρ g) (h : H2 = H ∨ ∃ p o, H p = none ∧ H2 = upd H p o) : SInv K B ss O F H2 σ ρ g ∧ Ext B.src F H F H2 := by
  rcases h with h | ⟨p, o, hp, h⟩
  · subst h; exact ⟨I, .refl⟩
  · subst h; exact ⟨I.laid hp, I.ext_new hp⟩
theorem q_for {js : List Nat} {tgt : SG} (hi : PI X tg iter (tI X.K B ss O O1 fs)) (hg : PGq X B ss O1 O1 tg js tgt) (hb : PSs X body (tS X.K B ss O1 O1 O1 s)) (hp : PassesOwn (model X.prog X.w) X.A X.env X.xe) (hc : X.calm = true) (hs : ∀ x, foldedSetIterable iter X.env x = pure x := by intro _; rfl) :
    PS X (.For tg iter body [] pos) (tS X.K B ss O O1 Ob (sFor fs tgt s)) := ps_imp (ps_for hp hc hi (hg.run (fun _ _ => True) trivial) hb hs) fun E σ H ⟨F, ρ, g, fl, g', I, ef, q⟩ => by
  obtain ⟨ds, g1, e1, e2⟩ := mbnd_some ef
  refine ⟨F, ρ, g, ds, g1, I, e1, fun J F1 H1 I1 E1 W => ?_⟩
  refine ⟨fun i m σ' H' => m = ds.length - i ∧ i ≤ ds.length ∧ ∃ F' ρ' g2, SInv X.K B ss O1 F' H' σ' ρ' g2 ∧ Stay F1 H1 F' H' ∧ forGo tgt s (ds.drop i) ρ' g2 = some (fl, g'), ⟨ds.length, rfl, Nat.zero_le _, F1, ρ, g1, I1, .refl, e2⟩, fun i m σ' H' hW => ?_⟩
  obtain ⟨rfl, hi, F', ρ', g2, I', st, ev⟩ := hW
  by_cases hlt : i < ds.length
  · refine .inr ⟨W.go i F' H' st hlt, ?_⟩
    rw [List.drop_eq_getElem_cons hlt] at ev
    obtain ⟨ρ1, g3, e3, ev2⟩ := mbnd_some ev
    obtain ⟨e4, rfl⟩ := mlift_some e3
    obtain ⟨f1, g4, e5, e6⟩ := mbnd_some ev2
    refine ⟨fun σ2 H2 => ∃ F2 ρ2, SInv X.K B ss O1 F2 H2 σ2 ρ2 g4 ∧ Stay F1 H1 F2 H2 ∧ (f1 = .nx ρ2 ∨ f1 = .ct ρ2), fun σ2 H2 ⟨F2, ρ2, I2, st2, h2⟩ => ⟨ds.length - (i + 1), by omega, rfl, hlt, F2, ρ2, g4, I2, st2, ?_⟩, fun x H2 hy => ?_⟩
    · rcases h2 with h2 | h2
      · subst h2; exact e6
      · subst h2; exact e6
    · obtain ⟨y1, y2⟩ := W.yld i ds[i] F' H' x H2 st (List.getElem?_eq_getElem hlt) hy
      obtain ⟨I2, E2⟩ := I'.laidS y1
      refine ⟨F', ρ', g3, ds[i], ρ1, I2, y2 F' (fun _ h => h) E2.stay, e4, fun σ3 I3 _ _ => ⟨F', ρ1, g3, f1, g4, I3, e5, ?_⟩⟩
      have st3 : Stay F1 H1 F' H2 := st.trans E2.stay
      cases f1 with
      | nx ρ2 => exact fun σ4 H4 F4 I4 s4 => ⟨F4, ρ2, I4, st3.trans s4, .inl rfl⟩
      | ct ρ2 => exact fun σ4 H4 F4 I4 s4 => ⟨F4, ρ2, I4, st3.trans s4, .inr rfl⟩
      | bk ρ2 => cases e6; exact fun σ4 H4 F4 I4 s4 => q σ4 H4 F4 I4 (E1.stay.trans (st3.trans s4))
      | rt d => cases e6; exact q
  · have e : i = ds.length := by omega
    subst e
    rw [List.drop_length] at ev
    cases ev
    exact .inl ⟨W.stop F' H' st, q σ' H' F' I' (E1.stay.trans st)⟩

/-! ### while -/
def whileGo (c : ST) (b : SS) : Nat → SS
  | 0, _ => fun _ => none
  | n + 1, ρ => mbnd (c ρ) fun k => match k with
    | true => mbnd (b ρ) fun fl => match fl with
      | .nx ρ2 => whileGo c b n ρ2
      | .ct ρ2 => whileGo c b n ρ2
      | .bk ρ2 => mret (.nx ρ2)
      | .rt d => mret (.rt d)
    | false => mret (.nx ρ)
/-- as many turns as a loop may take -/
def fuel : Nat := 2 ^ 40
def sWhile (c : ST) (b : SS) : SS := whileGo c b fuel
theorem q_while (hc : PT X c (tB X.K B ss O O u)) (hb : PSs X body (tS X.K B ss O O O s)) (hp : PassesOwn (model X.prog X.w) X.A X.env X.xe) : PS X (.While c body [] pos) (tS X.K B ss O O Ob (sWhile u s)) := ps_imp (ps_while hp hc hb) fun E σ H ⟨F, ρ, g, fl, g', I, ef, q⟩ => by
  have key : ∀ m, whileGo u s m ρ g = some (fl, g') → tWhile (tB X.K B ss O O u) (tS X.K B ss O O O s) E σ H := fun m0 ef => by
    refine ⟨fun m σ' H' => ∃ F' ρ' g2, SInv X.K B ss O F' H' σ' ρ' g2 ∧ Stay F H F' H' ∧ whileGo u s m ρ' g2 = some (fl, g'), ⟨m0, F, ρ, g, I, .refl, ef⟩, fun m σ' H' hW => ?_⟩
    obtain ⟨F', ρ', g2, I', st, ev⟩ := hW
    cases m with
    | zero => cases ev
    | succ m =>
      obtain ⟨k, g3, e1, e2⟩ := mbnd_some ev
      refine ⟨F', ρ', g2, k, g3, I', e1, fun H1 F1 I1 E1 => ?_⟩
      have st1 := st.trans E1.stay
      cases k with
      | true =>
        obtain ⟨f1, g4, e3, e4⟩ := mbnd_some e2
        refine iteT ⟨fun σ2 H2 => ∃ F2 ρ2, SInv X.K B ss O F2 H2 σ2 ρ2 g4 ∧ Stay F H F2 H2 ∧ (f1 = .nx ρ2 ∨ f1 = .ct ρ2), fun σ2 H2 ⟨F2, ρ2, I2, st2, h2⟩ => ⟨m, Nat.lt_succ_self m, F2, ρ2, g4, I2, st2, ?_⟩, F1, ρ', g3, f1, g4, I1, e3, ?_⟩
        · rcases h2 with h2 | h2
          · subst h2; exact e4
          · subst h2; exact e4
        · cases f1 with
          | nx ρ2 => exact fun σ4 H4 F4 I4 s4 => ⟨F4, ρ2, I4, st1.trans s4, .inl rfl⟩
          | ct ρ2 => exact fun σ4 H4 F4 I4 s4 => ⟨F4, ρ2, I4, st1.trans s4, .inr rfl⟩
          | bk ρ2 => cases e4; exact fun σ4 H4 F4 I4 s4 => q σ4 H4 F4 I4 (st1.trans s4)
          | rt d => cases e4; exact q
      | false =>
        cases e2
        exact iteF (q σ' H1 F1 I1 st1)
  exact key fuel ef

/-! ### comprehensions -/
def wipeE (ρ : Ev) : List Nat → Ev
  | [] => ρ
  | v :: vs => (wipeE ρ vs).set v none
def lcGo (tgt : SG) (tt : ST) (te : SE) (ρ : Ev) : List D → M (List D)
  | [] => mret []
  | d :: r => mbnd (mlift (tgt d ρ)) fun ρ1 => mbnd (tt ρ1) fun k => match k with
    | true => mbnd (te ρ1) fun z => mbnd (lcGo tgt tt te ρ r) fun zs => mret (z :: zs)
    | false => lcGo tgt tt te ρ r
def eLc (it : SL) (vs : List Nat) (tgt : SG) (tt : ST) (te : SE) : SE := fun ρ => mbnd (it ρ) fun ds => mbnd (lcGo tgt tt te (wipeE ρ vs) ds) fun zs => mguard (decide (zs.length ≤ sizeLine)) (mret (.list zs))
def bYes : ST := fun _ => mret true
theorem wipeE_get {ρ : Ev} {i : Nat} {d : D} : ∀ {vs : List Nat}, (wipeE ρ vs)[i]? = some (some d) → ρ[i]? = some (some d) ∧ i ∉ vs
  | [], h => ⟨h, by simp⟩
  | v :: vs, h => by
    have h' : ((wipeE ρ vs).set v none)[i]? = some (some d) := h
    by_cases hi : v = i
    · subst hi
      by_cases hv : v < (wipeE ρ vs).length
      · rw [List.getElem?_set_self hv] at h'; cases h'
      · rw [List.getElem?_eq_none (by simpa using hv)] at h'; cases h'
    · rw [List.getElem?_set_ne hi] at h'
      obtain ⟨h1, h2⟩ := wipeE_get h'
      exact ⟨h1, by simp only [List.mem_cons, not_or]; exact ⟨fun e => hi e.symm, h2⟩⟩
theorem wipeE_length (ρ : Ev) : ∀ vs : List Nat, (wipeE ρ vs).length = ρ.length
  | [] => rfl
  | v :: vs => by unfold wipeE; rw [List.length_set, wipeE_length ρ vs]
theorem wipe_at {σ : L2.St} {i : Nat} : ∀ {vs : List Nat}, i ∉ vs → (wipe σ vs)[i]? = σ[i]?
  | [], _ => rfl
  | v :: vs, h => by
    show ((wipe σ vs).set v none)[i]? = _
    rw [List.getElem?_set_ne (fun e => h (by simp [e])), wipe_at (fun m => h (List.mem_cons_of_mem _ m))]
theorem wipeE_at {ρ : Ev} {i : Nat} : ∀ {vs : List Nat}, i ∉ vs → (wipeE ρ vs)[i]? = ρ[i]?
  | [], _ => rfl
  | v :: vs, h => by
    show ((wipeE ρ vs).set v none)[i]? = _
    rw [List.getElem?_set_ne (fun e => h (by simp [e])), wipeE_at (fun m => h (List.mem_cons_of_mem _ m))]
theorem SInv.wipe {K : PySem.W.Frag} {F : Fz} {H : Hp} {σ : L2.St} {ρ : Ev} {g : G} (I : SInv K B ss O F H σ ρ g) {vs : List Nat} (hs : ∀ i, ss = some i → i ∉ vs) : SInv K B ss O F H (L2.wipe σ vs) (wipeE ρ vs) g :=
  ⟨I.keep, I.sub, I.new, I.dom, I.nsrc, I.draw, fun i d e => by
    obtain ⟨e1, n⟩ := wipeE_get e
    rw [wipe_at n]
    exact I.var i d e1, fun i j a d e h1 h2 g1 c1 g2 c2 g3 g4 => by
    obtain ⟨w1, n1⟩ := wipeE_get g1
    obtain ⟨w2, n2⟩ := wipeE_get g2
    rw [wipe_at n1] at g3
    rw [wipe_at n2] at g4
    exact I.apart i j a d e h1 h2 w1 c1 w2 c2 g3 g4, I.prot, fun i e => by
    rw [wipe_at (hs i e)]
    exact I.slot i e, by rw [wipeE_length, wipe_length]; exact I.len⟩
/-- back behind a block: the slots as they were -/
theorem SInv.unwipe {K : PySem.W.Frag} {F F' : Fz} {H H' : Hp} {σ σ2 : L2.St} {ρ ρ2 : Ev} {g g2 : G} (I : SInv K B ss O F H σ ρ g) (J : SInv K B ss O F' H' σ2 ρ2 g2) (E : Stay F H F' H') (hO : ∀ i, i ∈ O → ρ2[i]? = ρ[i]? ∧ σ2[i]? = σ[i]?) : SInv K B ss O F' H' σ ρ g2 := by
  refine ⟨J.keep, J.sub, J.new, J.dom, J.nsrc, J.draw, fun i d e => ?_, I.apart, J.prot, I.slot, I.len⟩
  obtain ⟨v, h1, h2, h3⟩ := I.var i d e
  refine ⟨v, h1, fun n => (h2 n).mono E, fun m => ?_⟩
  obtain ⟨w1, w2⟩ := hO i m
  obtain ⟨v', g1, _, g3⟩ := J.var i d (w1.trans e)
  rw [w2, h1] at g1
  cases g1
  exact g3 m
/-- a free object of ours, owned by no slot, is changed -/
theorem SInv.poke {K : PySem.W.Frag} {F : Fz} {H : Hp} {σ : L2.St} {ρ : Ev} {g : G} (I : SInv K B ss O F H σ ρ g) {q : Addr} {o o' : HO} (nf : ¬ F q) (hb : B.H q = none) (hq : H q = some o) (nt : ∀ xs, o ≠ .tup xs) (nz : ∀ ob w, o ≠ .frz ob w) (ap : ∀ i e, i ∈ O → ρ[i]? = some (some e) → isCont e = true → σ[i]? ≠ some (some (.ref q))) :
    SInv K B ss O F (upd H q o') σ ρ g ∧ Stay F H F (upd H q o') := by
  have sty : Stay F H F (upd H q o') := ⟨fun _ f => f, fun a w f e => by rw [upd_ne (show a ≠ q from fun z => nf (z ▸ f))]; exact e, fun a xs h => by
    have ne : a ≠ q := fun z => by
      rw [z, hq] at h; cases h; exact nt _ rfl
    rw [upd_ne ne]; exact h⟩
  have ns := I.nsOwn hb
  refine ⟨⟨fun a w n e => ?_, I.sub, I.new, fun a f e => ?_, I.nsrc, fun p e => ?_, fun j e' he => ?_, I.apart, fun a h => ?_, I.slot, I.len⟩, sty⟩
  · rw [upd_ne (show a ≠ q from fun z => by rw [z, hb] at e; cases e)]; exact I.keep a w n e
  · by_cases z : a = q
    · exact nf (z ▸ f)
    · rw [upd_ne z] at e; exact I.dom a f e
  · obtain ⟨m, w1, w2⟩ := I.draw p e
    exact ⟨m, by rw [upd_ne (show p.1 ≠ q from fun z => ns ⟨p, e, .inl z.symm⟩)]; exact w1, by rw [upd_ne (show p.2 ≠ q from fun z => ns ⟨p, e, .inr z.symm⟩)]; exact w2⟩
  · obtain ⟨v, h1, h2, h3⟩ := I.var j e' he
    refine ⟨v, h1, fun n => (h2 n).mono sty, fun m => ?_⟩
    rcases h3 m with ⟨z, r⟩ | ⟨a, w, e1, nf', np', hb', hu, c⟩
    · exact .inl ⟨z, r.mono sty⟩
    · refine .inr ⟨a, w, e1, nf', np', hb', ?_, c.mono sty⟩
      rw [upd_ne (show a ≠ q from fun z => ap j e' m he c.is (by rw [h1, e1, z]))]; exact hu
  · obtain ⟨w1, w2⟩ := I.prot a h
    refine ⟨w1, ?_⟩
    by_cases z : a = q
    · rw [z, upd_same]; exact fun z => nomatch z
    · rw [upd_ne z]; exact w2
theorem lcGo_len {tgt : SG} {tt : ST} {te : SE} {ρ : Ev} : ∀ {ds : List D} {g g' : G} {zs : List D}, lcGo tgt tt te ρ ds g = some (zs, g') → zs.length ≤ ds.length
  | [], _, _, _, h => by cases h; exact Nat.le_refl _
  | d :: r, g, g', zs, h => by
    obtain ⟨ρ1, g1, _, h2⟩ := mbnd_some h
    obtain ⟨k, g2, _, h4⟩ := mbnd_some h2
    cases k with
    | true =>
      obtain ⟨z, g3, _, h6⟩ := mbnd_some h4
      obtain ⟨ws, g4, h7, h8⟩ := mbnd_some h6
      cases h8
      exact Nat.succ_le_succ (lcGo_len h7)
    | false => exact Nat.le_succ_of_le (lcGo_len h4)
theorem wipe_in {σ : L2.St} {i : Nat} : ∀ {vs : List Nat}, i ∈ vs → (wipe σ vs)[i]? = if i < σ.length then some none else none
  | v :: vs, h => by
    show ((wipe σ vs).set v none)[i]? = _
    by_cases e : v = i
    · subst e
      by_cases hv : v < σ.length
      · rw [List.getElem?_set_self (by rw [wipe_length]; exact hv), if_pos hv]
      · rw [List.getElem?_eq_none (by simp [wipe_length]; omega), if_neg hv]
    · rw [List.getElem?_set_ne e]
      exact wipe_in ((List.mem_cons.mp h).resolve_left fun z => e z.symm)
theorem wipe_eq {σ σ3 : L2.St} {vs : List Nat} (h : ∀ i, i ∉ vs → σ3[i]? = σ[i]?) (l : σ3.length = σ.length) : wipe σ3 vs = wipe σ vs := by
  refine List.ext_getElem? fun i => ?_
  by_cases m : i ∈ vs
  · rw [wipe_in m, wipe_in m, l]
  · rw [wipe_at m, wipe_at m, h i m]
theorem pg_any {C : Bs → Prop} {t : Bs → TG} (h : ∀ B', C B' → PG X e (t B')) : PG X e (fun v σ H R => ∃ B', C B' ∧ t B' v σ H R) := ⟨fun pins s σ H v u R I r ⟨B', hc, q⟩ => (h B' hc).run pins s σ H v u R I r q⟩
theorem pts_any {C : Bs → Prop} {t : Bs → TT} {ifs : List Expr} (h : ∀ B', C B' → PTs X ifs (t B')) : PTs X ifs (fun σ H R => ∃ B', C B' ∧ t B' σ H R) := ⟨fun pins s σ H R I ⟨B', hc, q⟩ => (h B' hc).run pins s σ H R I q⟩
def gQ (K : PySem.W.Frag) (B : Bs) (ss : Option Nat) (O : List Nat) (js : List Nat) (tgt : SG) : TG := fun v σ H R => ∃ B', B'.src = B.src ∧ ∃ F ρ g d ρ', SInv K B' ss O F H σ ρ g ∧ Rep K F H v d ∧ tgt d ρ = some ρ' ∧ ∀ σ', SInv K B' ss O F H σ' ρ' g → (∀ i, i ∉ js → σ'[i]? = σ[i]?) → σ'.length = σ.length → R σ' H
def tQ (K : PySem.W.Frag) (B : Bs) (ss : Option Nat) (O : List Nat) (tt : ST) : TT := fun σ H R => ∃ B', B'.src = B.src ∧ tB K B' ss O O tt σ H R
def eQ (K : PySem.W.Frag) (B : Bs) (ss : Option Nat) (O : List Nat) (te : SE) : TE := fun σ H R => ∃ B', B'.src = B.src ∧ tE K B' ss O O .fz te σ H R
theorem t_lc {K : PySem.W.Frag} {js vs : List Nat} {tgt : SG} {tt : ST} {te : SE} (fix : ∀ d ρ ρ', tgt d ρ = some ρ' → ∀ i, i ∉ js → ρ'[i]? = ρ[i]?) (hv : O1.all (fun i => !vs.contains i) = true) (hj : js.all (fun i => vs.contains i) = true) (hss : (ss.all fun i => !vs.contains i) = true) (σ : L2.St) (H : Hp) (R : VK)
    (h : tE K B ss O O1 .fr (eLc fs vs tgt tt te) σ H R) : tLc (tI K B ss O O1 fs) (gQ K B ss O1 js tgt) (tQ K B ss O1 tt) (eQ K B ss O1 te) vs σ H R := by
  obtain ⟨F, ρ, g, d, g', I, ef, q⟩ := h
  obtain ⟨ds, g1, e1, e2⟩ := mbnd_some ef
  obtain ⟨zs, g2, e3, e4⟩ := mbnd_some e2
  obtain ⟨hz, e5⟩ := mguard_some e4
  cases e5
  have hz' : zs.length ≤ sizeLine := of_decide_eq_true hz
  have nO : ∀ i, i ∈ O1 → i ∉ vs := fun i m z => by
    have := List.all_eq_true.mp hv i m
    rw [List.contains_iff_mem.mpr z] at this; cases this
  have nj : ∀ i, i ∉ vs → i ∉ js := fun i n z => n (List.contains_iff_mem.mp (List.all_eq_true.mp hj i z))
  have nss : ∀ i, ss = some i → i ∉ vs := fun i e z => by
    rw [e] at hss
    have : (!vs.contains i) = true := hss
    rw [List.contains_iff_mem.mpr z] at this; cases this
  refine ⟨F, ρ, g, ds, g1, I, e1, fun J F1 H1 I1 E1 W Dd hD => ?_⟩
  have nfD : ¬ F1 Dd := fun f => I1.dom Dd f hD
  have hBD : B.H Dd = none := I1.freeB hD
  have nPD : ¬ B.P Dd := fun z => (I1.prot Dd z).2 hD
  have apD : ∀ i e, i ∈ O1 → ρ[i]? = some (some e) → isCont e = true → σ[i]? ≠ some (some (.ref Dd)) := fun i e m h1 h2 => I1.own_ne hD m h1 h2
  have I1' : SInv K { B with P := fun a => B.P a ∨ a = Dd } ss O1 F1 (upd H1 Dd (.lst [])) σ ρ g1 := (I1.laid hD).guard nfD (by rw [upd_same]; exact fun z => nomatch z) apD
  have E0 := I1.ext_new (o := .lst []) hD
  have nsD : ¬ isS B.src Dd := I1.nsOwn hBD
  refine ⟨fun i m H' => m = ds.length - i ∧ i ≤ ds.length ∧ ∃ F' g3 acc accd rest, SInv K { B with P := fun a => B.P a ∨ a = Dd } ss O1 F' H' σ ρ g3 ∧ Ext B.src F1 H1 F' H' ∧ H' Dd = some (.lst acc) ∧ RepAll K F' H' acc accd ∧ lcGo tgt tt te (wipeE ρ vs) (ds.drop i) g3 = some (rest, g') ∧ accd ++ rest = zs,
    ⟨ds.length, rfl, Nat.zero_le _, F1, g1, [], [], zs, I1', E0, upd_same, .nil, e3, rfl⟩, fun i m H' hW => ?_⟩
  obtain ⟨rfl, hi, F', g3, acc, accd, rest, I', E', hD', ra, ev, ez⟩ := hW
  by_cases hlt : i < ds.length
  · refine .inr ⟨W.go i F' H' E'.stay hlt, ?_⟩
    rw [List.drop_eq_getElem_cons hlt] at ev
    obtain ⟨ρ1, g4, e6, ev2⟩ := mbnd_some ev
    obtain ⟨e7, rfl⟩ := mlift_some e6
    obtain ⟨k, g5, e8, e9⟩ := mbnd_some ev2
    have step : ∃ gN accd' rest', lcGo tgt tt te (wipeE ρ vs) (ds.drop (i + 1)) gN = some (rest', g') ∧ accd' ++ rest' = zs ∧ ((k = false ∧ gN = g5 ∧ accd' = accd) ∨ ∃ z, k = true ∧ te ρ1 g5 = some (z, gN) ∧ accd' = accd ++ [z]) := by
      cases k with
      | true =>
        obtain ⟨z, g6, h1, h2⟩ := mbnd_some e9
        obtain ⟨ws, g7, h3, h4⟩ := mbnd_some h2
        cases h4
        exact ⟨g6, accd ++ [z], ws, h3, by rw [List.append_assoc]; exact ez, .inr ⟨z, rfl, h1, rfl⟩⟩
      | false => exact ⟨g5, accd, rest, e9, ez, .inl ⟨rfl, rfl, rfl⟩⟩
    obtain ⟨gN, accd', rest', hN1, hN2, hN3⟩ := step
    refine ⟨fun H2 => ∃ F2 acc', SInv K { B with P := fun a => B.P a ∨ a = Dd } ss O1 F2 H2 σ ρ gN ∧ Ext B.src F1 H1 F2 H2 ∧ H2 Dd = some (.lst acc') ∧ RepAll K F2 H2 acc' accd', fun H2 ⟨F2, acc', J2, X2, hD2, ra2⟩ => ⟨ds.length - (i + 1), by omega, rfl, hlt, F2, gN, acc', accd', rest', J2, X2, hD2, ra2, hN1, hN2⟩, fun x H2 hy => ?_⟩
    obtain ⟨y1, y2⟩ := W.yld i ds[i] F' H' x H2 E'.stay (List.getElem?_eq_getElem hlt) hy
    obtain ⟨I2, E2⟩ := I'.laidS y1
    refine ⟨{ B with P := fun a => B.P a ∨ a = Dd }, rfl, F', wipeE ρ vs, g4, ds[i], ρ1, I2.wipe nss, y2 F' (fun _ h => h) E2.stay, e7, fun σ3 I3 k3 l3 => ⟨?_, ?_⟩⟩
    · exact wipe_eq (fun j n => by rw [k3 j (nj j n), wipe_at n]) (by rw [l3, wipe_length])
    · refine ⟨{ B with P := fun a => B.P a ∨ a = Dd }, rfl, F', ρ1, g4, k, g5, I3, e8, fun H4 F4 I4 E4 => ?_⟩
      have same : ∀ j, j ∈ O1 → ρ1[j]? = ρ[j]? ∧ σ3[j]? = σ[j]? := fun j m => by
        refine ⟨?_, by rw [k3 j (nj j (nO j m)), wipe_at (nO j m)]⟩
        rw [fix _ _ _ e7 j (nj j (nO j m))]
        exact wipeE_at (nO j m)
      rcases hN3 with ⟨rfl, rfl, rfl⟩ | ⟨z, rfl, h1, rfl⟩
      · refine iteF ⟨F4, acc, I'.unwipe I4 (E2.stay.trans E4.stay) same, E'.trans (E2.trans E4), E4.keep _ _ nsD (E2.keep _ _ nsD hD'), ra.mono (E2.stay.trans E4.stay)⟩
      · refine iteT ⟨{ B with P := fun a => B.P a ∨ a = Dd }, rfl, F4, ρ1, g5, z, gN, I4, h1, fun y H5 F5 I5 E5 r5 => ⟨acc, E5.keep _ _ nsD (E4.keep _ _ nsD (E2.keep _ _ nsD hD')), ?_, ?_⟩⟩
        · have h3 := congrArg List.length hN2
          rw [List.length_append, List.length_append] at h3
          have h4 := ra.length
          simp at h3
          omega
        · have st5 : Stay F' H' F5 H5 := E2.stay.trans (E4.stay.trans E5.stay)
          have I6 := I'.unwipe I5 st5 same
          have hD5 : H5 Dd = some (.lst acc) := E5.keep _ _ nsD (E4.keep _ _ nsD (E2.keep _ _ nsD hD'))
          obtain ⟨I7, st7⟩ := I6.poke (o' := .lst (acc ++ [y])) (I6.prot Dd (.inr rfl)).1 hBD hD5 (fun _ z => nomatch z) (fun _ _ z => nomatch z) apD
          have X5 := E'.trans (E2.trans (E4.trans E5))
          refine ⟨F5, acc ++ [y], I7, ⟨X5.stay.trans st7, fun a o n h => ?_⟩, upd_same, (ra.mono (st5.trans st7)).append (.cons (Rep.mono st7 r5) .nil)⟩
          rw [upd_ne (ne_of_none h hD)]
          exact X5.keep a o n h
  · have e : i = ds.length := by omega
    subst e
    rw [List.drop_length] at ev
    cases ev
    rw [List.append_nil] at ez
    subst ez
    exact .inl ⟨W.stop F' H' E'.stay, q _ H' F' (I'.unguard fun _ h => .inl h) (E1.trans E') (.inr ⟨Dd, .lst acc, rfl, (I'.prot Dd (.inr rfl)).1, nPD, hBD, hD', ra, apD⟩)⟩
end
end Q

set_option Elab.async false
set_option linter.all false
set_option maxRecDepth 100000
/-! QH: the pure layer: comprehensions as rules, the entry of a def, isinstance, repr. -/
namespace Q
open PySem PySem.Spec PyProof.Rows L2
section
variable {X : Cx} {B : Bs} {ss : Option Nat} {O O1 O2 O3 Ob : List Nat} {a b c e tg iter elt : Expr} {es ifs : List Expr} {f h te : SE} {u v tt : ST} {fs : SL} {pos p : Pos} {n k : Nat} {x y : Str} {st : Stmt} {rest body orelse : List Stmt} {s t : SS} {scope : Scope}
theorem q_noif : PTs X [] (tB X.K B ss O O bYes) := ⟨fun pins s σ H R I q => pts_nil.run pins s σ H R I (by obtain ⟨F, ρ, g, k, g', J, ef, q⟩ := q; cases ef; exact q H F J .refl)⟩
theorem q_if1 (h : PT X c (tB X.K B ss O O1 u)) : PTs X [c] (tB X.K B ss O O1 u) := pts_one h
/-- the parts of a comprehension's block -/
structure LcQ (X : Cx) (B : Bs) (ss : Option Nat) (O : List Nat) (scope : Scope) (tg elt : Expr) (ifs : List Expr) (js : List Nat) (tgt : SG) (tt : ST) (te : SE) : Prop where
  all : ∀ (B' : Bs), B'.src = B.src → ∀ (s : Shared) (H : Hp) (C : Addr) (cl : List (Str × Addr)) (fp : List Addr), PGq (X.blk s H scope (compEnvC scope cl C X.env) fp) B' ss O O tg js tgt ∧ PTs (X.blk s H scope (compEnvC scope cl C X.env) fp) ifs (tB X.K B' ss O O tt) ∧
    PE (X.blk s H scope (compEnvC scope cl C X.env) fp) elt (tE X.K B' ss O O .fz te)
  fix : ∀ d ρ ρ', tgt d ρ = some ρ' → ∀ i, i ∉ js → ρ'[i]? = ρ[i]?
theorem LcQ.mk' {js : List Nat} {tgt : SG} (h : ∀ (B' : Bs), B'.src = B.src → ∀ (s : Shared) (H : Hp) (C : Addr) (cl : List (Str × Addr)) (fp : List Addr), PGq (X.blk s H scope (compEnvC scope cl C X.env) fp) B' ss O O tg js tgt ∧ PTs (X.blk s H scope (compEnvC scope cl C X.env) fp) ifs (tB X.K B' ss O O tt) ∧
    PE (X.blk s H scope (compEnvC scope cl C X.env) fp) elt (tE X.K B' ss O O .fz te)) : LcQ X B ss O scope tg elt ifs js tgt tt te := ⟨h, (h B rfl { } (fun _ => none) 0 [] []).1.fix⟩
theorem q_lc {js : List Nat} {tgt : SG} {own : List (Str × Nat)} (hc : X.calm = true) (hN : X.N.Nodup) (hi : PI X tg iter (tI X.K B ss O O1 fs)) (ok : BlkOk X.N X.env.scope scope own) (q : LcQ X B ss O1 scope tg elt ifs js tgt tt te)
    (hv : O1.all (fun i => !(own.map (·.2)).contains i) = true := by rfl) (hj : js.all (fun i => (own.map (·.2)).contains i) = true := by rfl) (hss : (ss.all fun i => !(own.map (·.2)).contains i) = true := by rfl) (hs : ∀ x, foldedSetIterable iter X.env x = pure x := by intro _; rfl) :
    PE X (.ListComp elt [⟨tg, iter, ifs, 0⟩] scope pos) (tE X.K B ss O O1 .fr (eLc fs (own.map (·.2)) tgt tt te)) :=
  pe_imp (pe_lc (g := gQ X.K B ss O1 js tgt) (tt := tQ X.K B ss O1 tt) (te := eQ X.K B ss O1 te) hc hN hi ok (fun s H C cl fp => pg_any fun B' hB => (q.all B' hB s H C cl fp).1.run (fun _ _ => True) trivial) (fun s H C cl fp => pts_any fun B' hB => (q.all B' hB s H C cl fp).2.1) (fun s H C cl fp => pe_any fun B' hB => (q.all B' hB s H C cl fp).2.2) hs)
    fun σ H R w => t_lc q.fix hv hj hss σ H R w
/-- y = [.. for ..] -/
theorem q_setLc {js : List Nat} {tgt : SG} {own : List (Str × Nat)} {py : Pos} (i : Nat) (hc : X.calm = true) (hN : X.N.Nodup) (hi : PI X tg iter (tI X.K B ss O O1 fs)) (ok : BlkOk X.N X.env.scope scope own) (q : LcQ X B ss O1 scope tg elt ifs js tgt tt te) (hO : i :: O1.filter (· ≠ i) = O2 := by rfl) (hsi : ss ≠ some i := by decide)
    (hv : O1.all (fun i => !(own.map (·.2)).contains i) = true := by rfl) (hj : js.all (fun i => (own.map (·.2)).contains i) = true := by rfl) (hss : (ss.all fun i => !(own.map (·.2)).contains i) = true := by rfl) (hy : X.N[i]? = some y := by rfl) (hyl : X.env.scope.names.lookup y = some .local := by rfl)
    (hsw : swapsWith (.ListComp elt [⟨tg, iter, ifs, 0⟩] scope p) (some (.Name y py)) pos.line X.env = pure true := by exact sw_true rfl rfl rfl (by decide +kernel)) (hs : ∀ x, foldedSetIterable iter X.env x = pure x := by intro _; rfl) :
    PS X (.Assign [.Name y py] (.ListComp elt [⟨tg, iter, ifs, 0⟩] scope p) pos) (tS X.K B ss O O2 Ob (sAsg i (eLc fs (own.map (·.2)) tgt tt te))) :=
  ps_imp (ps_setLc (g := gQ X.K B ss O1 js tgt) (tt := tQ X.K B ss O1 tt) (te := eQ X.K B ss O1 te) hc hN hy hyl hsw hi ok (fun s H C cl fp => pg_any fun B' hB => (q.all B' hB s H C cl fp).1.run (fun _ _ => True) trivial) (fun s H C cl fp => pts_any fun B' hB => (q.all B' hB s H C cl fp).2.1) (fun s H C cl fp => pe_any fun B' hB => (q.all B' hB s H C cl fp).2.2) hs)
    fun E σ H ⟨F, ρ, g, fl, g', I, ef, w⟩ => by
  subst hO
  obtain ⟨d, g1, e1, e2⟩ := mbnd_some ef
  cases e2
  exact t_lc q.fix hv hj hss σ H _ ⟨F, ρ, g, d, _, I, e1, fun x' H' F' I' E' r => w _ H' F' (I'.setO hsi r) E'.stay⟩

/-! ### isinstance -/
def tyD : D → String
  | .none => "NoneType"
  | .bool _ => "bool"
  | .int _ => "int"
  | .str _ => "str"
  | .list _ => "list"
  | .tuple _ => "tuple"
  | .dict _ => "dict"
def isA (a b : String) : Bool := a == b || (a == "bool" && b == "int")
def tyNames : List String := ["NoneType", "bool", "int", "str", "list", "tuple", "dict"]
theorem kitB_all : (tyNames.all fun a => (["bool", "int", "str", "list", "tuple", "dict"] : List String).all fun b => kitB a b == some (isA a b)) = true := by decide +kernel
theorem tyD_mem (d : D) : tyD d ∈ tyNames := by cases d <;> simp [tyD, tyNames]
theorem BR.ty {K : PySem.W.Frag} {F : Fz} {H : Hp} {x' : V} {d : D} (r : BR K B F H x' d) : TyX K H x' (.type (tyD d)) := by
  cases d with
  | none => rw [r.non]; exact .base .non
  | bool k => rw [r.bl]; exact .base (.bl k)
  | int k => rw [r.int]; exact .base (.int k)
  | str k => rw [r.str]; exact .base (.str k)
  | list k => obtain ⟨a, xs, e, h, _⟩ := r.list; rw [e]; exact .base (.lst h)
  | tuple k =>
    obtain ⟨a, xs, e, h, _⟩ := r.tup
    rw [e]
    have h := h.sq
    rcases h with (h | ⟨o, h⟩) | ⟨o, _, _, h, c, _⟩
    · exact .base (.tup h)
    · exact .fTuple h
    · exact .kTuple h c
  | dict k =>
    rcases r with r | ⟨a, o, e, _, h, c⟩
    · cases r with
      | dK _ h _ _ => exact .base (.dK h)
      | dT _ h _ _ => exact .base (.dT h)
    · subst e
      cases o with
      | dK _ => exact .base (.dK h)
      | dT _ => exact .base (.dT h)
      | _ => exact c.elim
def eIsi (T : String) (f : SE) : SE := fun ρ => mbnd (f ρ) fun d => mret (.bool (isA (tyD d) T))
/-- isinstance(e, T), T one of bool, int, str, list, tuple, dict -/
theorem q_isi {T : String} {p2 : Pos} (ha : PE X a (tE X.K B ss O O1 .bw f)) (hm : X.mg "isinstance" = none) (hmT : X.mg y = none) (hT : (["bool", "int", "str", "list", "tuple", "dict"] : List String).contains T = true := by decide) (hvT : bootBuiltins y = some (.type T) := by decide +kernel) (hgT : Gl X y := by rfl) (hg : Gl X "isinstance" := by rfl)
    (hn : y ≠ "__name__" := by decide) (hdb : (y == ("__debug__" : Str)) = false := by decide)
    (n1 : starEach [a, .Name y p2] X.env = (false, eval a X.env) :: starEach [.Name y p2] X.env := by rfl) (n2 : starEach [.Name y p2] X.env = (false, eval (.Name y p2) X.env) :: starEach [] X.env := by rfl) (hpl : (backTo pos (starEach [.Name y p2] X.env)).any (·.1) = false := by rfl) :
    PE X (.Call (.Name "isinstance" p) [a, .Name y p2] [] pos) (tE X.K B ss O O1 .fr (eIsi T f)) :=
  pe_imp (pe_callB call_isi hg hm (by decide +kernel) (pa_cons ha (pa_cons (pe_bltn (v := .ty T) hgT hmT hvT rfl hn hdb) pa_nil n2) n1) (by decide) (by decide) n1 hpl) fun σ H R ⟨F, ρ, g, d, g', I, ef, q⟩ => by
  obtain ⟨z, g1, e1, e2⟩ := mbnd_some ef
  cases e2
  refine ⟨F, ρ, g, z, _, I, e1, fun x' H' F' I' E' r => ⟨x', .ty T, .type (tyD z), .type T, isA (tyD z) T, rfl, .ty T, BR.ty r, kit_ty ?_, q _ H' F' I' E' (.inl ⟨rfl, .bl _⟩)⟩⟩
  exact beq_iff_eq.mp (List.all_eq_true.mp (List.all_eq_true.mp kitB_all _ (tyD_mem z)) T (List.contains_iff_mem.mp hT))

/-! ### repr -/
def sRepr (d : D) : Option D := if d.canLay0 && d.showable && decide (d.shown.length ≤ sizeLine) && decide (d.depth ≤ 100) then some (.str d.shown) else none
theorem sRepr_some {d c : D} (h : sRepr d = some c) : d.canLay0 = true ∧ d.showable = true ∧ d.shown.length ≤ sizeLine ∧ d.depth ≤ 100 ∧ c = .str d.shown := by
  unfold sRepr at h
  split at h
  · rename_i q
    rw [Bool.and_eq_true, Bool.and_eq_true, Bool.and_eq_true] at q
    cases h
    exact ⟨q.1.1.1, q.1.1.2, of_decide_eq_true q.1.2, of_decide_eq_true q.2, rfl⟩
  · cases h
def sRepr1 : List D → Option D
  | [d] => sRepr d
  | _ => none
theorem u65 {k : Nat} {A : Around} (hr : Room k A) : A.units + 65 < cLine := by have := hr.un; omega
theorem u200 {k : Nat} {A : Around} (hr : Room k A) : A.units + 200 < cLine := by have := hr.un; omega
theorem f_repr (hu : X.A.units + 200 < cLine) (hgd : X.A.guards = some []) : CallS X B (.builtin "repr") sRepr1 := by
  refine ⟨fun xs H R => ∃ x' d, xs = [x'] ∧ Dp X.K H x' d ∧ d.canLay0 = true ∧ d.showable = true ∧ d.shown.length ≤ sizeLine ∧ d.depth ≤ 100 ∧ R (.str d.shown) H, fun pins s σ H xs us R I r h => ?_, fun ss O F H σ ρ g xs ds c R I rx hc q => ?_⟩
  · obtain ⟨x', d, rfl, hd, hcl, h1, h2, h3, hq⟩ := h
    obtain ⟨u, rfl, rx⟩ := Vals.one r
    obtain ⟨as, rd⟩ := Dp.reads I d x' u hd rx
    cases d with
    | none => cases rd; exact PySem.P.repr_of_none ⟨.str _, H, I.tok _, ⟨_, rfl⟩, hq⟩
    | bool k => cases rd; exact PySem.P.repr_of_bool ⟨.str _, H, I.tok _, ⟨_, by cases k <;> rfl⟩, hq⟩
    | int i => cases rd; exact PySem.P.repr_of_int (of_decide_eq_true h1) ⟨.str _, H, I.tok _, ⟨_, rfl⟩, hq⟩
    | str z => cases rd; exact PySem.P.repr_of_str ⟨.str _, H, I.tok _, ⟨_, rfl⟩, hq⟩ h2
    | list zs =>
      cases rd with
      | list k1 k2 k3 k4 => exact repr_of_reads' (.list k1 k2 k3 k4) h1 (PyData.noDict_hsm (PyData.hasDict_of_canLay _ hcl)) hgd (by omega) (fun _ _ e => e) (fun h' u tk kk => ⟨.str _, H, I.kept kk, ⟨_, rfl⟩, hq⟩) h2
    | tuple zs =>
      cases x' with
      | ref a =>
        cases rx
        exact repr_of_reads' rd h1 (PyData.noDict_hsm (PyData.hasDict_of_canLay _ hcl)) hgd (by omega) (fun _ _ e => e) (fun h' u tk kk => ⟨.str _, H, I.kept kk, ⟨_, rfl⟩, hq⟩) h2
      | _ => cases hd
    | dict _ => simp [PyData.canLay0] at hcl
  · match ds, hc with
    | [d], hc =>
      obtain ⟨h1, h2, h3, h4, rfl⟩ := sRepr_some hc
      obtain ⟨x', rfl, rx'⟩ := BRAll.one rx
      exact ⟨x', d, rfl, BR.dp rx' h1, h1, h2, h3, h4, I.fin q rfl (.str _)⟩
end

section
variable {X : Cx} {B : Bs} {ss : Option Nat} {O : List Nat} {pos : Pos}
def eDict0 : SE := fun _ => mret (.dict [])
theorem q_dict0 : PE X (.Dict [] [] pos) (tE X.K B ss O O .fr eDict0) := pe_imp pe_dnewK fun σ H R ⟨F, ρ, g, d, g', I, ef, q⟩ => by
  cases ef; exact fun p hp => I.finO q (o := .dK []) ⟨rfl, .nil⟩ hp
end

/-! ### the entry of a def -/
def g0 : G := ⟨[], 0, 0, 0⟩
def endD : Option (Fl × G) → Option (D × G)
  | some (.rt d, g) => some (d, g)
  | some (.nx _, g) => some (.none, g)
  | _ => none
def runP (n : Nat) (b : SS) (ds : List D) : Option D := (endD (b (ds.map some ++ List.replicate (n - ds.length) none) g0)).map (·.1)
def runD (n : Nat) (b : SS) (ds : List D) : M D := fun g => endD (b (none :: ds.map some ++ List.replicate (n - 1 - ds.length) none) g)
section
variable {P : Program} {w : World} {K : PySem.W.Frag} {mg : Str → Option Value} {base : Heap} {k : Nat} {f : Addr} {fd : FuncData} {x qual : Str} {st : Stmt} {N ps : List Str} {O' Ob : List Nat}
theorem start_at {vs : List V} {ds : List D} {F : Fz} {H : Hp} (r : RepAll K F H vs ds) {m i : Nat} {d : D} (e : (ds.map some ++ List.replicate m none)[i]? = some (some d)) : ∃ v, (L2.start N vs)[i]? = some (some v) ∧ Rep K F H v d := by
  by_cases hi : i < ds.length
  · rw [List.getElem?_append_left (by simpa using hi), List.getElem?_map] at e
    cases q : ds[i]? with
    | none => rw [q] at e; cases e
    | some z =>
      rw [q] at e; cases e
      obtain ⟨v, h1, h2⟩ := r.get q
      refine ⟨v, ?_, h2⟩
      unfold L2.start
      rw [List.getElem?_append_left (by simpa [r.length] using hi), List.getElem?_map, h1]
      rfl
  · rw [List.getElem?_append_right (by simpa using hi), List.getElem?_replicate] at e
    split at e <;> cases e
/-- without draws -/
theorem fn_pure {b : SS} (Fn : Fun K x qual st f fd) (S : FnScope N ps (defScope st))
    (hbody : ∀ (cdv : Value) (A : Around) (outer : List PySem.Env) (s : Shared) (H : Hp) (E : XK) (B : Bs), Room k (A.deeper (envOfC qual (defScope st) s.heap.objs.size f cdv)) → A.guards = some [] →
      PSs (cxOf CX0 P w K mg base N qual (defScope st) f cdv A outer s H E).nox (defBody st) (tS K B none [] O' Ob b)) : GOk P w K mg base CX0 (k + 1) f fd ps (spP K ps.length (runP N.length b)) := by
  refine gok_of Fn S (fun vs H R E ⟨F, ds, r, _, _, l, _⟩ => l) fun cdv A outer s H vs R E hr hgd ⟨F, ds, r, rep, dom, l, hs, q⟩ => ?_
  refine ⟨_, (hbody cdv A outer s H E ⟨none, F, H, fun _ => False⟩ hr hgd).nox, ?_⟩
  unfold runP at hs
  cases hb : b (ds.map some ++ List.replicate (N.length - ds.length) none) g0 with
  | none => rw [hb] at hs; cases hs
  | some z =>
    obtain ⟨fl, g'⟩ := z
    rw [hb] at hs
    have I0 : SInv K ⟨none, F, H, fun _ => False⟩ none [] F H (L2.start N vs) (ds.map some ++ List.replicate (N.length - ds.length) none) g0 :=
      ⟨fun _ _ _ e => e, fun _ h => h, fun _ h => .inl h, dom, fun a ⟨p, e, _⟩ => (by cases e), fun p e => (by cases e), fun i d e => by
        obtain ⟨v, h1, h2⟩ := start_at (N := N) rep e
        exact ⟨v, h1, fun _ => h2, fun m => (by cases m)⟩, fun i j a d e m => (by cases m), fun a h => h.elim, fun i e => (by cases e), by unfold L2.start; simp [rep.length]⟩
    have fin : ∀ (x' : V) (σ' : L2.St) (ρ' : Ev) (O2 : List Nat) (H' : Hp) (F' : Fz), SInv K ⟨none, F, H, fun _ => False⟩ none O2 F' H' σ' ρ' g' → Stay F H F' H' → Rep K F' H' x' r → R x' H' := fun x' σ' ρ' O2 H' F' J st rr =>
      q x' H' F' st (fun a o e => J.keep a o (fun ⟨p, e, _⟩ => by cases e) e) J.new J.dom rr
    refine ⟨F, _, g0, fl, g', I0, hb, ?_⟩
    cases fl with
    | nx ρ' => cases hs; exact fun σ' H' F' J st => fin .non σ' ρ' O' H' F' J st .non
    | rt d =>
      cases hs
      intro x' σ' ρ' O2 H' F' J rr
      exact fin x' σ' ρ' O2 H' F' J ⟨J.sub, fun a o _ e => J.keep a o (fun ⟨p, e, _⟩ => by cases e) e, fun a xs h => J.keep a _ (fun ⟨p, e, _⟩ => by cases e) h⟩ rr
    | bk _ => cases hs
    | ct _ => cases hs
/-- with draws: the source comes first -/
theorem fn_draw {b : SS} (n : Nat) (Fn : Fun K x qual st f fd) (S : FnScope N ps (defScope st)) (hn : ps.length = n + 1)
    (hbody : ∀ (cdv : Value) (A : Around) (outer : List PySem.Env) (s : Shared) (H : Hp) (E : XK) (B : Bs), Room k (A.deeper (envOfC qual (defScope st) s.heap.objs.size f cdv)) → A.guards = some [] →
      PSs (cxOf CX0 P w K mg base N qual (defScope st) f cdv A outer s H E).nox (defBody st) (tS K B (some 0) [] O' Ob b)) : GOk P w K mg base CX0 (k + 1) f fd ps (spD K n (runD N.length b)) := by
  refine gok_of Fn S (fun vs H R E ⟨F, p, g, ds, r, g', vs', e, _, _, _, _, _, l, _⟩ => by rw [e, hn, ← l]; rfl) fun cdv A outer s H vs R E hr hgd ⟨F, p, g, ds, r, g', vs', ev, dr, nf1, nf2, rep, dom, l, hs, q⟩ => ?_
  subst ev
  refine ⟨_, (hbody cdv A outer s H E ⟨some p, F, H, fun _ => False⟩ hr hgd).nox, ?_⟩
  unfold runD at hs
  cases hb : b (none :: ds.map some ++ List.replicate (N.length - 1 - ds.length) none) g with
  | none => rw [hb] at hs; cases hs
  | some z =>
    obtain ⟨fl, g2⟩ := z
    rw [hb] at hs
    obtain ⟨dn, d1, d2⟩ := dr p rfl
    have I0 : SInv K ⟨some p, F, H, fun _ => False⟩ (some 0) [] F H (L2.start N (.ref p.1 :: vs')) (none :: ds.map some ++ List.replicate (N.length - 1 - ds.length) none) g := by
      refine ⟨fun _ _ _ e => e, fun _ h => h, fun _ h => .inl h, dom, fun a ⟨p', e, h⟩ => ?_, dr, fun i d e => ?_, fun i j a d e m => (by cases m), fun a h => h.elim, fun i e => ?_, by unfold L2.start; simp [rep.length]; omega⟩
      · cases e
        rcases h with h | h
        · rw [h]; exact ⟨nf1, by show H p.1 ≠ none; rw [d1]; exact fun z => nomatch z⟩
        · rw [h]; exact ⟨nf2, by show H p.2 ≠ none; rw [d2]; exact fun z => nomatch z⟩
      · cases i with
        | zero => cases e
        | succ i =>
          have e' : (ds.map some ++ List.replicate (N.length - 1 - ds.length) none)[i]? = some (some d) := by simpa using e
          obtain ⟨v, h1, h2⟩ := start_at (N := N.tail) rep e'
          refine ⟨v, ?_, fun _ => h2, fun m => by cases m⟩
          unfold L2.start at h1 ⊢
          have hi : i < vs'.length := by
            by_cases hi : i < vs'.length
            · exact hi
            · rw [List.getElem?_append_right (by simpa using hi), List.getElem?_replicate] at h1
              split at h1 <;> cases h1
          rw [List.getElem?_append_left (by simpa using hi)] at h1
          rw [List.getElem?_append_left (by simp; omega)]
          simpa using h1
      · cases e
        exact ⟨p, rfl, by unfold L2.start; simp⟩
    have fin : ∀ (x' : V) (σ' : L2.St) (ρ' : Ev) (O2 : List Nat) (H' : Hp) (F' : Fz), SInv K ⟨some p, F, H, fun _ => False⟩ (some 0) O2 F' H' σ' ρ' g2 → g' = g2 → Rep K F' H' x' r → R x' H' := fun x' σ' ρ' O2 H' F' J eg rr =>
      q x' H' F' (I0.ext J.sub J.keep) (by rw [eg]; exact J.draw) J.new J.dom rr
    refine ⟨F, _, g, fl, g2, I0, hb, ?_⟩
    cases fl with
    | nx ρ' => cases hs; exact fun σ' H' F' J st => fin .non σ' ρ' O' H' F' J rfl .non
    | rt d => cases hs; exact fun x' σ' ρ' O2 H' F' J rr => fin x' σ' ρ' O2 H' F' J rfl rr
    | bk _ => cases hs
    | ct _ => cases hs
end
end Q

set_option Elab.async false
set_option linter.all false
set_option maxRecDepth 100000
/-! QI: the pure layer: the source of the draws. -/
namespace Q
open PySem PySem.Spec PyProof.Rows L2
section
variable {K : PySem.W.Frag} {B : Bs} {ss : Option Nat} {O : List Nat} {F : Fz} {H H2 : Hp} {σ : L2.St} {ρ : Ev} {g g2 : G}
/-- the source alone is changed -/
theorem SInv.src (I : SInv K B ss O F H σ ρ g) {p : Addr × Addr} (hp : B.src = some p) (h1 : H2 p.1 = some (srcD p.2 g2)) (h2 : H2 p.2 = some (.lst (g2.cells.map V.int))) (hk : ∀ a, a ≠ p.1 → a ≠ p.2 → H2 a = H a) :
    SInv K B ss O F H2 σ ρ g2 ∧ Ext B.src F H F H2 := by
  have kp : ∀ a, ¬ isS B.src a → H2 a = H a := fun a n => hk a (fun z => n ⟨p, hp, .inl z⟩) fun z => n ⟨p, hp, .inr z⟩
  have E := I.ext (F' := F) (H' := H2) (fun _ f => f) fun a o n e => (kp a n).trans e
  refine ⟨I.step E (fun _ f => .inl f) (fun a f z => I.dom a f ((kp a fun s => (I.nsrc a s).1 f).symm.trans z)) fun q e => ?_, E⟩
  rw [hp] at e
  cases e
  exact ⟨(I.draw p hp).1, h1, h2⟩
/-- a slot that the state does not know of is stored to -/
theorem SInv.slotX (I : SInv K B ss O F H σ ρ g) {j : Nat} {v : Option V} (hj : ρ[j]? = some none) (hs : ss ≠ some j) : SInv K B ss O F H (σ.set j v) ρ g := by
  have ne : ∀ {i : Nat} {d : D}, ρ[i]? = some (some d) → i ≠ j := fun {i d} e z => by rw [z, hj] at e; cases e
  refine ⟨I.keep, I.sub, I.new, I.dom, I.nsrc, I.draw, fun i d e => ?_, fun i k a d e h1 h2 g1 c1 g2 c2 g3 g4 => ?_, I.prot, fun i e => ?_, by rw [List.length_set]; exact I.len⟩
  · rw [List.getElem?_set_ne (Ne.symm (ne e))]; exact I.var i d e
  · rw [List.getElem?_set_ne (Ne.symm (ne g1))] at g3
    rw [List.getElem?_set_ne (Ne.symm (ne g2))] at g4
    exact I.apart i k a d e h1 h2 g1 c1 g2 c2 g3 g4
  · rw [List.getElem?_set_ne (fun z : j = i => hs (by rw [z]; exact e))]; exact I.slot i e
/-- from nothing: the slots that are known hold numbers -/
theorem SInv.raw {src : Option (Addr × Addr)} (hd : Draw src H g) (hs : ∀ i, ss = some i → ∃ p, src = some p ∧ σ[i]? = some (some (.ref p.1))) (hv : ∀ (i : Nat) (d : D), ρ[i]? = some (some d) → ∃ v, σ[i]? = some (some v) ∧ Rep K (fun _ => False) H v d) (hl : ρ.length ≤ σ.length) :
    SInv K ⟨src, fun _ => False, H, fun _ => False⟩ ss [] (fun _ => False) H σ ρ g where
  keep := fun _ _ _ e => e
  sub := fun _ f => f
  new := fun _ f => f.elim
  dom := fun _ f => f.elim
  nsrc := fun a ⟨p, e, h⟩ => ⟨fun f => f, by
    obtain ⟨_, h1, h2⟩ := hd p e
    show H a ≠ none
    rcases h with h | h
    · rw [h, h1]; exact fun z => nomatch z
    · rw [h, h2]; exact fun z => nomatch z⟩
  draw := hd
  var := fun i d e => by
    obtain ⟨v, h1, h2⟩ := hv i d e
    exact ⟨v, h1, fun _ => h2, fun m => by cases m⟩
  apart := fun i j a d e h => by cases h
  prot := fun _ f => f.elim
  slot := hs
  len := hl
end

/-! ### source[..] -/
abbrev srcL (c : Addr) (g : G) : List (Key × V) := [(.inr "cells", .ref c), (.inr "left", .int g.left), (.inr "mixed", .int g.mixed), (.inr "turn", .int g.turn)]
def eSrc (f : G → Int) : SE := fun _ g => some (.int (f g), g)
def sSrc (u : Int → G → G) (f : SE) : SS := fun ρ => mbnd (f ρ) fun d g => match d with
  | .int v => some (.nx ρ, u v g)
  | _ => none
theorem tC_eq {v : V} {σ : L2.St} {H : Hp} {R : VK} : tC v σ H R = R v H := rfl
section
variable {X : Cx} {B : Bs} {O O1 O2 Ob : List Nat} {e : Expr} {f : SE} {p p1 p2 pos : Pos} {j i : Nat} {y k : Str} {st : Stmt} {rest : List Stmt} {s : SS}
theorem q_srcG {fd : G → Int} (hu : X.A.units + 1 < cLine) (hk : ∀ c g, valV (srcL c g) (.inr k) = some (.int (fd g)) := by intro c g; rfl) (hN : X.N[i]? = some y := by rfl) (hv : Vis X.env.scope y := by first | exact Or.inl rfl | exact Or.inr (Or.inl rfl) | exact Or.inr (Or.inr rfl))
    (hd : (y == ("__debug__" : Str)) = false := by decide) (hcd : (y == ("__classdict__" : Str)) = false := by decide) (hs : NoSl (.Constant (.str k) j p1) := by exact fun _ _ => rfl) :
    PE X (.Subscript (.Name y p) (.Constant (.str k) j p1) pos) (tE X.K B (some i) O O .fr (eSrc fd)) :=
  pe_imp (pe_dget hu (pe_var hN hv hd hcd) pe_str hs) fun σ H R ⟨F, ρ, g, d, g', I, ef, q⟩ => by
  cases ef
  obtain ⟨pp, hp, hσ⟩ := I.slot i rfl
  obtain ⟨_, h1, _⟩ := I.draw pp hp
  exact ⟨_, hσ, pp.1, .int (fd g), rfl, (hk pp.2 g) ▸ DGet.k (k := .inr k) h1, q _ H F I .refl (.inl ⟨rfl, .int _⟩)⟩
theorem q_srcS {u : Int → G → G} (hu : X.A.units + 1 < cLine) (ha : PE X e (tE X.K B (some i) O O1 .bw f)) (hk : ∀ c g (v : Int), HO.dK (putK (srcL c g) (.inr k) (.int v)) = srcD c (u v g) := by intro c g v; rfl) (hcell : ∀ v g, (u v g).cells = g.cells := by intro v g; rfl)
    (hN : X.N[i]? = some y := by rfl) (hv : Vis X.env.scope y := by first | exact Or.inl rfl | exact Or.inr (Or.inl rfl) | exact Or.inr (Or.inr rfl))
    (hd : (y == ("__debug__" : Str)) = false := by decide) (hcd : (y == ("__classdict__" : Str)) = false := by decide) (hs : swapsWith e (some (.Subscript (.Name y p) (.Constant (.str k) j p1) p2)) pos.line X.env = pure false := by rfl) :
    PS X (.Assign [.Subscript (.Name y p) (.Constant (.str k) j p1) p2] e pos) (tS X.K B (some i) O O1 Ob (sSrc u f)) :=
  ps_imp (ps_dput hu (pe_var hN hv hd hcd) pe_str ha hs) fun E σ H ⟨F, ρ, g, fl, g', I, ef, q⟩ => by
  obtain ⟨d, g1, e1, e2⟩ := mbnd_some ef
  refine ⟨F, ρ, g, d, g1, I, e1, fun x' H' F' I' E' r => ?_⟩
  cases d with
  | int v =>
    cases e2
    cases BR.int r
    obtain ⟨pp, hp, hσ⟩ := I'.slot i rfl
    obtain ⟨hn, h1, h2⟩ := I'.draw pp hp
    refine ⟨_, hσ, pp.1, _, rfl, DPut.k (k := .inr k) h1 (show 4 < sizeLine by decide), ?_⟩
    obtain ⟨I2, E2⟩ := I'.src hp (g2 := u v g1) (H2 := upd H' pp.1 (.dK (putK (srcL pp.2 g1) (.inr k) (.int v)))) (by rw [upd_same, hk]) (by rw [upd_ne hn.symm, hcell]; exact h2) fun a n _ => upd_ne n
    exact q σ _ F' I2 (E'.stay.trans E2.stay)
  | _ => cases e2

/-! ### the cells -/
def pullGo : List Int → G → G
  | [], g => { g with cells := [] }
  | c :: r, g => if g.left < 2 then pullGo r { g with cells := r.reverse, left := c } else { g with cells := (c :: r).reverse }
def pull (g : G) : G := pullGo g.cells.reverse g
theorem pull_nil {g : G} (h : g.cells = []) : pull g = g := by
  cases g; cases h; rfl
theorem pull_stop {g : G} (h : ¬ g.left < 2) : pull g = g := by
  unfold pull
  cases q : g.cells.reverse with
  | nil =>
    have : g.cells = [] := by simpa using q
    cases g; cases this; rfl
  | cons c r =>
    have e : (c :: r).reverse = g.cells := by rw [← q, List.reverse_reverse]
    show (if g.left < 2 then _ else _) = g
    rw [if_neg h, e]
theorem pull_go {g : G} {cs : List Int} {c : Int} (h : g.left < 2) (e : g.cells = cs ++ [c]) : pull g = pull { g with cells := cs, left := c } := by
  unfold pull
  rw [e, List.reverse_append]
  show (if g.left < 2 then pullGo cs.reverse { g with cells := cs.reverse.reverse, left := c } else _) = _
  rw [if_pos h, List.reverse_reverse]
def sPull : SS := fun ρ g => some (.nx ρ, pull g)
/-- the loop's reading; Al: what else is known of the slots -/
def tPull (K : PySem.W.Frag) (B : Bs) (i : Nat) (O : List Nat) (Al : Addr × Addr → L2.St → Prop) : TS := fun E σ H => ∃ F ρ g p, SInv K B (some i) O F H σ ρ g ∧ B.src = some p ∧ Al p σ ∧ ∀ H' F', SInv K B (some i) O F' H' σ ρ (pull g) → Stay F H F' H' → E.nx σ H'
variable {ce ce2 : Expr} {tc : TE} {Al : Addr × Addr → L2.St → Prop}
theorem ps_pull {q1 q2 q3 q4 q5 q6 q7 q8 q9 q10 q11 q12 q13 q14 q15 q16 : Pos} {j1 j2 j3 j4 : Nat} (hu : X.A.units + 1 < cLine) (hm : X.mg "len" = none) (h1 : PE X ce tc) (h2 : PE X ce2 tc) (hc : ∀ (σ : L2.St) (H : Hp) (R : VK) (F : Fz) (ρ : Ev) (g : G) (p : Addr × Addr), SInv X.K B (some i) O F H σ ρ g → B.src = some p → Al p σ → R (.ref p.2) H → tc σ H R)
    (hp : PassesOwn (model X.prog X.w) X.A X.env X.xe)
    (hN : X.N[i]? = some y := by rfl) (hv : Vis X.env.scope y := by first | exact Or.inl rfl | exact Or.inr (Or.inl rfl) | exact Or.inr (Or.inr rfl))
    (hd : (y == ("__debug__" : Str)) = false := by decide) (hcd : (y == ("__classdict__" : Str)) = false := by decide) (hg : Gl X "len" := by rfl)
    (hb : attributeBase ce2 "pop" X.env (eval ce2 X.env) = eval ce2 X.env := by rfl) (hl : (q15.endLine == q16.line) = true := by rfl)
    (he : starEach [ce] X.env = (false, eval ce X.env) :: starEach [] X.env := by rfl)
    (hs : swapsWith (.Call (.Attribute ce2 "pop" q15) [] [] q16) (some (.Subscript (.Name y q12) (.Constant (.str "left") j4 q13) q14)) pos.line X.env = pure false := by rfl) :
    PS X (.While (.BoolOp .And [.Compare (.Subscript (.Name y q1) (.Constant (.str "left") j1 q2) q3) [.Lt] [.Constant (.int 2) j2 q4] q5, .Compare (.Call (.Name "len" q6) [ce] [] q7) [.Gt] [.Constant (.int 0) j3 q8] q9] q10)
      [.Assign [.Subscript (.Name y q12) (.Constant (.str "left") j4 q13) q14] (.Call (.Attribute ce2 "pop" q15) [] [] q16) pos] [] q11) (tPull X.K B i O Al) := by
  have a1 : PT X (.Compare (.Subscript (.Name y q1) (.Constant (.str "left") j1 q2) q3) [.Lt] [.Constant (.int 2) j2 q4] q5) (Q.tB X.K B (some i) O O (bOf (eOp sLt (eSrc G.left) (eC (.int 2))))) := q_tcmp o_lt (q_frbw (q_srcG hu (hN := hN) (hv := hv) (hd := hd) (hcd := hcd))) (q_frbw q_int)
  have a2 : PT X (.Compare (.Call (.Name "len" q6) [ce] [] q7) [.Gt] [.Constant (.int 0) j3 q8] q9) _ := pt_cmp (pc_gt (pe_callB call_len_seq hg hm (by decide +kernel) (pa_cons h1 pa_nil he) (by decide) (by decide) he) pe_int)
  refine ps_imp (ps_while hp (pw_and a1 (pw_and1 a2)).pt (pss_one (ps_dput hu (pe_var hN hv hd hcd) pe_str (pe_bm0 PySem.F.plainAttrs_list PySem.F.slot_list_pop PySem.F.type_list_pop mt_pop h2 hb hl) hs))) fun E σ H ⟨F, ρ, g, p, I, hsp, al, q⟩ => ?_
  refine ⟨fun m σ' H' => ∃ F' g', σ' = σ ∧ m = g'.cells.length ∧ SInv X.K B (some i) O F' H' σ ρ g' ∧ Stay F H F' H' ∧ pull g' = pull g, ⟨_, F, g, rfl, rfl, I, .refl, rfl⟩, fun m σ' H' hW => ?_⟩
  obtain ⟨F', g', rfl, rfl, I', st, eg⟩ := hW
  refine ⟨F', ρ, g', decide (g'.left < 2), g', I', rfl, fun H2 F2 I2 E2 => ?_⟩
  have st2 := st.trans E2.stay
  by_cases hlt : g'.left < 2
  · rw [decide_eq_true hlt]
    refine iteT (hc _ _ _ F2 ρ g' p I2 hsp al ?_)
    obtain ⟨hn, hd1, hd2⟩ := I2.draw p hsp
    refine ⟨p.2, _, rfl, .inl (.of hd2), (g'.cells.map V.int).length, 0, rfl, rfl, _, rfl, ?_⟩
    cases q1 : g'.cells.reverse with
    | nil =>
      have e0 : g'.cells = [] := by simpa using q1
      rw [e0]
      refine iteF ?_
      rw [pull_nil e0] at eg
      rw [eg] at I2
      exact q H2 F2 I2 st2
    | cons c r =>
      have e0 : g'.cells = r.reverse ++ [c] := by rw [← List.reverse_reverse g'.cells, q1]; simp
      have hlen : (decide ((0 : Int) < ((g'.cells.map V.int).length : Nat))) = true := decide_eq_true (by rw [e0]; simp)
      show if decide ((0 : Int) < ((g'.cells.map V.int).length : Nat)) = true then _ else _
      rw [hlen]
      refine iteT ⟨fun σ3 H3 => ∃ F3, σ3 = σ' ∧ SInv X.K B (some i) O F3 H3 σ' ρ { g' with cells := r.reverse, left := c } ∧ Stay F H F3 H3, fun σ3 H3 ⟨F3, es, I3, st3⟩ => ⟨_, ?_, F3, _, es, rfl, I3, st3, ?_⟩, ?_⟩
      · rw [e0]; simp
      · rw [← pull_go hlt e0]; exact eg
      · refine hc _ _ _ F2 ρ g' p I2 hsp al ⟨Or.inl ⟨rfl, _, .of hd2⟩, p.2, g'.cells.map V.int, .int c, rfl, rfl, hd2, ?_, ?_⟩
        · rw [e0]; simp
        · obtain ⟨pp, hp2, hσ⟩ := I2.slot i rfl
          rw [hsp] at hp2
          cases hp2
          refine ⟨_, hσ, p.1, _, rfl, DPut.k (k := .inr "left") (kvs := srcL p.2 g') (by rw [upd_ne hn]; exact hd1) (show 4 < sizeLine by decide), ?_⟩
          obtain ⟨I3, E3⟩ := I2.src hsp (g2 := { g' with cells := r.reverse, left := c }) (H2 := upd (upd H2 p.2 (.lst (g'.cells.map V.int).dropLast)) p.1 (.dK (putK (srcL p.2 g') (.inr "left") (.int c)))) (by rw [upd_same]; rfl)
            (by rw [upd_ne hn.symm, upd_same, e0]; simp) fun a n1 n2 => by rw [upd_ne n1, upd_ne n2]
          exact ⟨F2, rfl, I3, st2.trans E3.stay⟩
  · rw [decide_eq_false hlt]
    refine iteF (iteF ?_)
    rw [pull_stop hlt] at eg
    rw [eg] at I2
    exact q H2 F2 I2 st2
end
end Q

set_option Elab.async false
set_option linter.all false
set_option maxRecDepth 100000
/-! QJ: the pure layer: the law's opening of its cells. -/
namespace Q
open PySem PySem.Spec PyProof.Rows L2
section
variable {X : Cx} {B : Bs} {O O1 O2 Ob : List Nat} {e : Expr} {f : SE} {p p1 p2 pos : Pos} {j i : Nat} {y k : Str} {st : Stmt} {rest : List Stmt} {s : SS}
/-- while source['left'] < 2 and len(source['cells']) > 0: source['left'] = source['cells'].pop() -/
theorem q_pull {q1 q2 q3 q4 q5 q6 q7 q8 q9 q10 q11 q12 q13 q14 q15 q16 r1 r2 r3 r4 r5 r6 : Pos} {j1 j2 j3 j4 j5 j6 : Nat} (hu : X.A.units + 1 < cLine) (hm : X.mg "len" = none) (hp : PassesOwn (model X.prog X.w) X.A X.env X.xe)
    (hN : X.N[i]? = some y := by rfl) (hv : Vis X.env.scope y := by first | exact Or.inl rfl | exact Or.inr (Or.inl rfl) | exact Or.inr (Or.inr rfl))
    (hd : (y == ("__debug__" : Str)) = false := by decide) (hcd : (y == ("__classdict__" : Str)) = false := by decide) (hg : Gl X "len" := by rfl)
    (hb : attributeBase (.Subscript (.Name y r4) (.Constant (.str "cells") j6 r5) r6) "pop" X.env (eval (.Subscript (.Name y r4) (.Constant (.str "cells") j6 r5) r6) X.env) = eval (.Subscript (.Name y r4) (.Constant (.str "cells") j6 r5) r6) X.env := by rfl) (hl : (q15.endLine == q16.line) = true := by rfl)
    (he : starEach [.Subscript (.Name y r1) (.Constant (.str "cells") j5 r2) r3] X.env = (false, eval (.Subscript (.Name y r1) (.Constant (.str "cells") j5 r2) r3) X.env) :: starEach [] X.env := by rfl)
    (hs : swapsWith (.Call (.Attribute (.Subscript (.Name y r4) (.Constant (.str "cells") j6 r5) r6) "pop" q15) [] [] q16) (some (.Subscript (.Name y q12) (.Constant (.str "left") j4 q13) q14)) pos.line X.env = pure false := by rfl) :
    PS X (.While (.BoolOp .And [.Compare (.Subscript (.Name y q1) (.Constant (.str "left") j1 q2) q3) [.Lt] [.Constant (.int 2) j2 q4] q5, .Compare (.Call (.Name "len" q6) [.Subscript (.Name y r1) (.Constant (.str "cells") j5 r2) r3] [] q7) [.Gt] [.Constant (.int 0) j3 q8] q9] q10)
      [.Assign [.Subscript (.Name y q12) (.Constant (.str "left") j4 q13) q14] (.Call (.Attribute (.Subscript (.Name y r4) (.Constant (.str "cells") j6 r5) r6) "pop" q15) [] [] q16) pos] [] q11) (tS X.K B (some i) O O Ob sPull) :=
  ps_imp (ps_pull (B := B) (O := O) (Al := fun _ _ => True) hu hm (pe_dget hu (pe_var hN hv hd hcd) pe_str fun _ _ => rfl) (pe_dget hu (pe_var hN hv hd hcd) pe_str fun _ _ => rfl) (fun σ H R F ρ g p I hsp _ r => by
    obtain ⟨pp, hp2, hσ⟩ := I.slot i rfl
    rw [hsp] at hp2
    cases hp2
    exact ⟨_, hσ, p.1, .ref p.2, rfl, DGet.k (k := .inr "cells") (I.draw p hsp).2.1, r⟩) hp hN hv hd hcd hg hb hl he hs) fun E σ H ⟨F, ρ, g, fl, g', I, ef, q⟩ => by
  cases ef
  obtain ⟨pp, hp2, hσ⟩ := I.slot i rfl
  exact ⟨F, ρ, g, pp, I, hp2, trivial, fun H' F' I' s => q σ H' F' I' s⟩
def sPullA (j : Nat) : SS := fun ρ g => match ρ[j]? with
  | some none => some (.nx ρ, pull g)
  | _ => none
/-- .. by a name of its own -/
theorem q_pullA {q1 q2 q3 q4 q5 q6 q7 q8 q9 q10 q11 q12 q13 q14 q15 q16 r1 r2 r3 r4 r5 r6 r7 : Pos} {j1 j2 j3 j4 j5 : Nat} {x : Str} (j : Nat) (hu : X.A.units + 1 < cLine) (hm : X.mg "len" = none) (hp : PassesOwn (model X.prog X.w) X.A X.env X.xe) (nd : X.N.Nodup) (hrest : PSs X rest (tS X.K B (some i) O O2 Ob s)) (hij : i ≠ j := by decide)
    (hN : X.N[i]? = some y := by rfl) (hv : Vis X.env.scope y := by first | exact Or.inl rfl | exact Or.inr (Or.inl rfl) | exact Or.inr (Or.inr rfl))
    (hd : (y == ("__debug__" : Str)) = false := by decide) (hcd : (y == ("__classdict__" : Str)) = false := by decide)
    (hN2 : X.N[j]? = some x := by rfl) (hv2 : Vis X.env.scope x := by first | exact Or.inl rfl | exact Or.inr (Or.inl rfl) | exact Or.inr (Or.inr rfl))
    (hd2 : (x == ("__debug__" : Str)) = false := by decide) (hcd2 : (x == ("__classdict__" : Str)) = false := by decide) (hx : Loc X.env.scope x := by first | exact Or.inl rfl | exact Or.inr rfl)
    (hf : X.fn x = true ∨ X.env.scope.names.lookup x = some .local := by first | exact .inl rfl | exact .inr rfl)
    (hg : Gl X "len" := by rfl)
    (hs1 : swapsWith (.Subscript (.Name y r1) (.Constant (.str "cells") j5 r2) r3) (some (.Name x r4)) r5.line X.env = pure false := by rfl)
    (hb : attributeBase (.Name x r7) "pop" X.env (eval (.Name x r7) X.env) = eval (.Name x r7) X.env := by rfl) (hl : (q15.endLine == q16.line) = true := by rfl)
    (he : starEach [.Name x r6] X.env = (false, eval (.Name x r6) X.env) :: starEach [] X.env := by rfl)
    (hs : swapsWith (.Call (.Attribute (.Name x r7) "pop" q15) [] [] q16) (some (.Subscript (.Name y q12) (.Constant (.str "left") j4 q13) q14)) pos.line X.env = pure false := by rfl) :
    PSs X (.Assign [.Name x r4] (.Subscript (.Name y r1) (.Constant (.str "cells") j5 r2) r3) r5 :: .While (.BoolOp .And [.Compare (.Subscript (.Name y q1) (.Constant (.str "left") j1 q2) q3) [.Lt] [.Constant (.int 2) j2 q4] q5, .Compare (.Call (.Name "len" q6) [.Name x r6] [] q7) [.Gt] [.Constant (.int 0) j3 q8] q9] q10)
      [.Assign [.Subscript (.Name y q12) (.Constant (.str "left") j4 q13) q14] (.Call (.Attribute (.Name x r7) "pop" q15) [] [] q16) pos] [] q11 :: rest) (tS X.K B (some i) O O2 Ob (sSeq (sPullA j) s)) :=
  pss_imp (pss_cons (ps_set nd hN2 hx (pe_dget hu (pe_var hN hv hd hcd) pe_str fun _ _ => rfl) hs1 hf) (pss_cons (ps_pull (B := B) (O := O) (i := i) (Al := fun p σ => σ[j]? = some (some (.ref p.2))) hu hm (pe_var hN2 hv2 hd2 hcd2) (pe_var hN2 hv2 hd2 hcd2) (fun σ H R F ρ g p I hsp al r => ⟨_, al, r⟩) hp hN hv hd hcd hg hb hl he hs) hrest)) fun E σ H ⟨F, ρ, g, fl, g', I, ef, q⟩ => by
  obtain ⟨f1, g1, e1, e2⟩ := mbnd_some ef
  unfold sPullA at e1
  split at e1
  · rename_i hj
    cases e1
    obtain ⟨pp, hp2, hσ⟩ := I.slot i rfl
    refine ⟨_, hσ, pp.1, .ref pp.2, rfl, DGet.k (k := .inr "cells") (I.draw pp hp2).2.1, F, ρ, g, pp, I.slotX hj (fun z => hij (Option.some.inj z)), hp2, ?_, fun H' F' I' s => ⟨F', ρ, pull g, fl, g', I', e2, q.stay s⟩⟩
    have hlt : j < σ.length := Nat.lt_of_lt_of_le (by
      rcases Nat.lt_or_ge j ρ.length with h | h
      · exact h
      · rw [List.getElem?_eq_none h] at hj; cases hj) I.len
    show (σ.set j (some (.ref pp.2)))[j]? = _
    rw [List.getElem?_set_self hlt]
  · cases e1
end

/-! ### what the opening reads -/
def stirE (m k c M : Int) : SE := eOp sMod (eCB sInt (sCons (eOp sAdd (eOp sAdd (eOp sMul (eV 1) (eC (.int m))) (eOp sMul (eV 2) (eC (.int k)))) (eC (.int c))) sNil)) (eC (.int M))
def stirV (m k c M s x : Int) : Int := (s * m + x * k + c) % M
def absE : SE := eCB sAbs (sCons (eV 2) sNil)
def absI (i : Int) : Int := if i < 0 then -i else i
def aE (K : PySem.W.Frag) (f : SE) : TE := fun σ H R => ∃ B, True ∧ tE K B none [] [] .fz f σ H R
def KeepH (H H' : Hp) : Prop := ∀ a o, H a = some o → H' a = some o
theorem SqL.keep {K : PySem.W.Frag} {H H' : Hp} (h : KeepH H H') {a : Addr} {xs : List V} (s : SqL K H a xs) : SqL K H' a xs := s.imp (fun r => r.imp (h _ _) fun ⟨o, e⟩ => ⟨o, h _ _ e⟩) id
theorem SqL.uniq {K : PySem.W.Frag} {H : Hp} {a : Addr} {xs : List V} (s : SqL K H a xs) {i : Nat} {v : V} (h : ∀ ys, SqL K H a ys → ys[i]? = some v) : xs[i]? = some v := h xs s
theorem aE_int {K : PySem.W.Frag} {f : SE} {σ : L2.St} {H : Hp} {R : VK} {ρ : Ev} {v : Int} (hl : ρ.length ≤ σ.length) (hv : ∀ (i : Nat) (d : D), ρ[i]? = some (some d) → ∃ v, σ[i]? = some (some v) ∧ Rep K (fun _ => False) H v d) (hf : f ρ g0 = some (.int v, g0)) (q : ∀ H', KeepH H H' → R (.int v) H') : aE K f σ H R :=
  ⟨_, trivial, _, ρ, g0, _, g0, SInv.raw (src := none) (fun p e => by cases e) (fun i e => by cases e) hv hl, hf, fun x H' F' I' E r => by
    have e : x = .int v := BR.int (B := ⟨none, fun _ => False, H, fun _ => False⟩) (.inl r)
    rw [e]
    exact q H' fun a o h => E.keep a o (fun ⟨p, e, _⟩ => by cases e) h⟩
theorem foldl_take_succ {α β : Type} {f : β → α → β} {b : β} {xs : List α} {i : Nat} {x : α} (h : xs[i]? = some x) : (xs.take (i + 1)).foldl f b = f ((xs.take i).foldl f b) x := by
  have hi : i < xs.length := by
    rcases Nat.lt_or_ge i xs.length with q | q
    · exact q
    · rw [List.getElem?_eq_none q] at h; cases h
  rw [List.take_succ, h, List.foldl_append]; rfl
theorem small_mul {i j : Int} (h : -(2 ^ 64) < j ∧ j < 2 ^ 64) : cMul i j = true := by
  unfold cMul smallI
  rw [decide_eq_true (show j.natAbs < 2 ^ 64 by omega)]
  simp
section
variable {K : PySem.W.Frag} {a : Addr} {ns : List Int} {m k c M s0 : Int} {tl : L2.St} {E : Ends} {H : Hp}
theorem stirE_ev {s x : Int} {t : Ev} {g : G} (hm : -(2 ^ 64) < m ∧ m < 2 ^ 64) (hk : -(2 ^ 64) < k ∧ k < 2 ^ 64) (hM : cMod ((s * m + x * k) + c) M = true) : stirE m k c M (none :: some (.int s) :: some (.int x) :: t) g = some (.int (stirV m k c M s x), g) := by
  have e1 : sMul (.int s) (.int m) = some (.int (s * m)) := by unfold sMul; simp only; rw [small_mul hm]; rfl
  have e2 : sMul (.int x) (.int k) = some (.int (x * k)) := by unfold sMul; simp only; rw [small_mul hk]; rfl
  have e3 : sMod (.int ((s * m + x * k) + c)) (.int M) = some (.int (stirV m k c M s x)) := by unfold sMod iD; simp only; rw [hM]; rfl
  unfold stirE eOp eCB sCons sNil eV eC mbnd mlift mret
  simp only [List.getD_cons_succ, List.getD_cons_zero, e1, e2]
  have e4 : sAdd (.int (s * m)) (.int (x * k)) = some (.int (s * m + x * k)) := rfl
  have e5 : sAdd (.int (s * m + x * k)) (.int c) = some (.int (s * m + x * k + c)) := rfl
  have e6 : sInt [.int (s * m + x * k + c)] = some (.int (s * m + x * k + c)) := rfl
  simp only [e4, e5, e6, e3]
theorem var2 {s x : Int} {r : Option V} {H' : Hp} : ∀ (i : Nat) (d : D), ([none, some (.int s), some (.int x)] : Ev)[i]? = some (some d) → ∃ v, (r :: some (.int s) :: some (.int x) :: tl : L2.St)[i]? = some (some v) ∧ Rep K (fun _ => False) H' v d
  | 0, d, h => by cases h
  | 1, d, h => by cases h; exact ⟨_, rfl, .int _⟩
  | 2, d, h => by cases h; exact ⟨_, rfl, .int _⟩
  | n + 3, d, h => by cases h
theorem rd_stir {y0 : Option V} (hS : SqL K H a (ns.map V.int)) (hm : -(2 ^ 64) < m ∧ m < 2 ^ 64) (hk : -(2 ^ 64) < k ∧ k < 2 ^ 64) (hM : ∀ z, cMod z M = true) (q : ∀ y H', KeepH H H' → E.nx (some (.ref a) :: some (.int (ns.foldl (stirV m k c M) s0)) :: y :: tl) H') :
    tFor (iList K (tVar 0)) (gName 2) (tAsg (aE K (stirE m k c M)) (gName 1)) E (some (.ref a) :: some (.int s0) :: y0 :: tl) H := by
  refine ⟨.ref a, rfl, a, rfl, ⟨_, hS⟩, fun i mm σ H3 => ∃ y, σ = some (.ref a) :: some (.int ((ns.take i).foldl (stirV m k c M) s0)) :: y :: tl ∧ mm = ns.length - i ∧ i ≤ ns.length ∧ KeepH H H3, ⟨_, y0, rfl, rfl, Nat.zero_le _, fun _ _ e => e⟩, fun i mm σ H3 hW => ?_⟩
  obtain ⟨y, rfl, rfl, hi, kp⟩ := hW
  have hS3 := SqL.keep kp hS
  by_cases hlt : i < ns.length
  · have gx : ns[i]? = some ns[i] := List.getElem?_eq_getElem hlt
    have gv : (ns.map V.int)[i]? = some (.int ns[i]) := by rw [List.getElem?_map, gx]; rfl
    refine .inr ⟨⟨_, _, hS3, gv⟩, fun σ' H' => ∃ y, σ' = some (.ref a) :: some (.int ((ns.take (i + 1)).foldl (stirV m k c M) s0)) :: y :: tl ∧ KeepH H H', fun σ' H' ⟨y', e1, e2⟩ => ⟨ns.length - (i + 1), by omega, y', e1, rfl, hlt, e2⟩, fun v H' ⟨e1, e2⟩ => ?_⟩
    subst e1
    have ev := Option.some.inj ((e2 _ hS3).symm.trans gv)
    subst ev
    refine aE_int (ρ := [none, some (.int ((ns.take i).foldl (stirV m k c M) s0)), some (.int ns[i])]) (by simp) var2 (stirE_ev hm hk (hM _)) fun H4 k4 => ⟨some (.int ns[i]), ?_, fun a o e => k4 a o (kp a o e)⟩
    rw [foldl_take_succ gx]; rfl
  · have e : i = ns.length := by omega
    subst e
    refine .inl ⟨⟨_, hS3, by rw [List.length_map]; exact Nat.le_refl _⟩, ?_⟩
    rw [List.take_length]
    exact q y H3 kp
theorem rd_abs {x1 y0 : Option V} {Q : VK} (hS : SqL K H a (ns.map V.int)) (hl : ns.length ≤ 63) (q : ∀ d H', H d = none → KeepH H H' → H' d = some (.lst ((ns.map absI).map V.int)) → Q (.ref d) H') :
    tLc (iList K (tVar 0)) (gName 2) tYes (aE K absE) [2] (some (.ref a) :: x1 :: y0 :: tl) H Q := by
  refine ⟨.ref a, rfl, a, rfl, ⟨_, hS⟩, fun d hd => ⟨fun i mm H3 => mm = ns.length - i ∧ i ≤ ns.length ∧ KeepH H H3 ∧ H3 d = some (.lst (((ns.take i).map absI).map V.int)), ⟨_, rfl, Nat.zero_le _, fun b o e => by rw [upd_ne (ne_of_none e hd)]; exact e, upd_same⟩, fun i mm H3 hW => ?_⟩⟩
  obtain ⟨rfl, hi, kp, hD⟩ := hW
  have hS3 := SqL.keep kp hS
  by_cases hlt : i < ns.length
  · have gx : ns[i]? = some ns[i] := List.getElem?_eq_getElem hlt
    have gv : (ns.map V.int)[i]? = some (.int ns[i]) := by rw [List.getElem?_map, gx]; rfl
    refine .inr ⟨⟨_, _, hS3, gv⟩, fun H' => KeepH H H' ∧ H' d = some (.lst (((ns.take (i + 1)).map absI).map V.int)), fun H' ⟨e2, e3⟩ => ⟨ns.length - (i + 1), by omega, rfl, hlt, e2, e3⟩, fun v H' ⟨e1, e2⟩ => ?_⟩
    subst e1
    have ev := Option.some.inj ((e2 _ hS3).symm.trans gv)
    subst ev
    refine ⟨rfl, iteT (B := True) ?_⟩
    refine aE_int (ρ := [none, none, some (.int ns[i])]) (v := absI ns[i]) (by simp [L2.wipe]) (fun j z h => ?_) rfl fun H4 k4 => ⟨_, k4 _ _ hD, ?_, ?_, ?_⟩
    · match j, h with
      | 0, h => cases h
      | 1, h => cases h
      | 2, h => cases h; exact ⟨_, rfl, .int _⟩
      | n + 3, h => cases h
    · simp only [List.length_map, List.length_take]
      exact Nat.lt_of_le_of_lt (Nat.le_trans (Nat.min_le_right _ _) hl) (by decide)
    · intro b o e
      rw [upd_ne (ne_of_none e hd)]
      exact k4 b o (kp b o e)
    · rw [upd_same]
      have e9 : ns.take (i + 1) = ns.take i ++ [ns[i]] := by rw [List.take_succ, gx]; rfl
      rw [e9, List.map_append, List.map_append]; rfl
  · have e : i = ns.length := by omega
    subst e
    rw [List.take_length] at hD
    exact .inl ⟨⟨_, hS3, by rw [List.length_map]; exact Nat.le_refl _⟩, q d H3 hd kp hD⟩
def srcT (rv : TE) (L : Int) : List (TE × TE) := [(tC (.str "cells"), rv), (tC (.str "left"), tC (.int L)), (tC (.str "mixed"), tVar 1), (tC (.str "turn"), tC (.int 0))]
def gOf (L s0 m k c M : Int) (ns : List Int) : G := ⟨(ns.map absI).reverse, L, ns.foldl (stirV m k c M) s0, 0⟩
def spO (K : PySem.W.Frag) (gs : List Int → G) : Sp := fun vs H R _ => ∃ a ns, vs = [.ref a] ∧ SqL K H a (ns.map V.int) ∧ ns.length ≤ 63 ∧
  ∀ d c H', d ≠ c → H d = none → H c = none → KeepH H H' → H' d = some (srcD c (gs ns)) → H' c = some (.lst ((gs ns).cells.map V.int)) → R (.ref d) H'
/-- the fresh dict -/
theorem rd_disp {rv : TE} {σ : L2.St} {L mx : Int} {xs : List Int} {Q : VK} (hs : σ[1]? = some (some (.int mx)))
    (hrv : ∀ (H0 : Hp) (R : VK), KeepH H H0 → (∀ p H', H0 p = none → KeepH H0 H' → H' p = some (.lst (xs.map V.int)) → R (.ref p) H') → rv σ H0 R)
    (q : ∀ d c' H', d ≠ c' → H d = none → H c' = none → KeepH H H' → H' d = some (srcD c' ⟨xs, L, mx, 0⟩) → H' c' = some (.lst (xs.map V.int)) → Q (.ref d) H') : tDisp (srcT rv L) σ H Q := by
  intro d hd
  have k0 : KeepH H (upd H d (.dK [])) := fun b o e => by rw [upd_ne (ne_of_none e hd)]; exact e
  refine hrv _ _ k0 fun c' H' h1 k1 h2 => ?_
  have hdc : d ≠ c' := fun z => by rw [← z, upd_same] at h1; cases h1
  refine ⟨_, hs, k1 _ _ upd_same, [(.inr "cells", .ref c'), (.inr "left", .int L), (.inr "mixed", .int mx), (.inr "turn", .int 0)], rfl, show 4 ≤ 15 by decide, ?_⟩
  have hc0 : H c' = none := by rw [upd_ne hdc.symm] at h1; exact h1
  exact q d c' _ hdc hd hc0 (fun b o e => by rw [upd_ne (ne_of_none e hd)]; exact k1 b o (k0 b o e)) (by rw [upd_same]; rfl) (by rw [upd_ne hdc.symm]; exact h2)
def tOpA (K : PySem.W.Frag) (L s0 m k c M : Int) : TS := tSeq (tAsg (tC (.int s0)) (gName 1)) (tSeq (tFor (iList K (tVar 0)) (gName 2) (tAsg (aE K (stirE m k c M)) (gName 1))) (tSeq (tAsg (tLc (iList K (tVar 0)) (gName 2) tYes (aE K absE) [2]) (gName 3)) (tRet (tDisp (srcT (tRevL K (tVar 3)) L)))))
def tOpB (K : PySem.W.Frag) (L s0 m k c M : Int) : TS := tSeq (tAsg (tC (.int s0)) (gName 1)) (tSeq (tFor (iList K (tVar 0)) (gName 2) (tAsg (aE K (stirE m k c M)) (gName 1))) (tRet (tDisp (srcT (tRevL K (tLc (iList K (tVar 0)) (gName 2) tYes (aE K absE) [2])) L))))
theorem rd_opA {L : Int} {R : VK} {nx : L2.St → Hp → Prop} (hS : SqL K H a (ns.map V.int)) (hl : ns.length ≤ 63) (hm : -(2 ^ 64) < m ∧ m < 2 ^ 64) (hk : -(2 ^ 64) < k ∧ k < 2 ^ 64) (hM : ∀ z, cMod z M = true)
    (q : ∀ d c' H', d ≠ c' → H d = none → H c' = none → KeepH H H' → H' d = some (srcD c' (gOf L s0 m k c M ns)) → H' c' = some (.lst ((gOf L s0 m k c M ns).cells.map V.int)) → R (.ref d) H') :
    tOpA K L s0 m k c M { nx := nx, rt := R } [some (.ref a), none, none, none] H := by
  refine rd_stir (tl := [none]) hS hm hk hM fun y H1 k1 => ?_
  show tLc (iList K (tVar 0)) (gName 2) tYes (aE K absE) [2] (some (.ref a) :: some (.int (ns.foldl (stirV m k c M) s0)) :: y :: [none]) H1 (fun x H2 => tRet (tDisp (srcT (tRevL K (tVar 3)) L)) { nx := nx, rt := R } [some (.ref a), some (.int (ns.foldl (stirV m k c M) s0)), y, some x] H2)
  refine rd_abs (SqL.keep k1 hS) hl fun d1 H2 n2 k2 e2 => ?_
  have k12 : KeepH H H2 := fun b o e => k2 b o (k1 b o e)
  refine rd_disp (xs := (ns.map absI).reverse) rfl (fun H0 R' kp r => ⟨_, rfl, d1, _, rfl, .inl (.of (kp _ _ e2)), fun p hp => r p _ hp (fun b o e => by rw [upd_ne (ne_of_none e hp)]; exact e) (by rw [upd_same, List.map_reverse])⟩) fun d c' H' h1 h2 h3 h4 h5 h6 => ?_
  have up : ∀ b, H2 b = none → H b = none := fun b e => by
    cases z : H b with
    | none => rfl
    | some o => rw [k12 b o z] at e; cases e
  exact q d c' H' h1 (up _ h2) (up _ h3) (fun b o e => h4 b o (k12 b o e)) h5 h6
theorem rd_opB {L : Int} {R : VK} {nx : L2.St → Hp → Prop} (hS : SqL K H a (ns.map V.int)) (hl : ns.length ≤ 63) (hm : -(2 ^ 64) < m ∧ m < 2 ^ 64) (hk : -(2 ^ 64) < k ∧ k < 2 ^ 64) (hM : ∀ z, cMod z M = true)
    (q : ∀ d c' H', d ≠ c' → H d = none → H c' = none → KeepH H H' → H' d = some (srcD c' (gOf L s0 m k c M ns)) → H' c' = some (.lst ((gOf L s0 m k c M ns).cells.map V.int)) → R (.ref d) H') :
    tOpB K L s0 m k c M { nx := nx, rt := R } [some (.ref a), none, none] H := by
  refine rd_stir (tl := []) hS hm hk hM fun y H1 k1 => ?_
  refine rd_disp (xs := (ns.map absI).reverse) rfl (fun H0 R' kp r => rd_abs (SqL.keep kp (SqL.keep k1 hS)) hl fun d1 H2 n2 k2 e2 => ⟨d1, _, rfl, .inl (.of e2), fun p hp => r p _ ?_ (fun b o e => by rw [upd_ne (ne_of_none (k2 b o e) hp)]; exact k2 b o e) (by rw [upd_same, List.map_reverse])⟩) fun d c' H' h1 h2 h3 h4 h5 h6 => ?_
  · cases z : H0 p with
    | none => rfl
    | some o => rw [k2 p o z] at hp; cases hp
  have up : ∀ b, H1 b = none → H b = none := fun b e => by
    cases z : H b with
    | none => rfl
    | some o => rw [k1 b o z] at e; cases e
  exact q d c' H' h1 (up _ h2) (up _ h3) (fun b o e => h4 b o (k1 b o e)) h5 h6
end
section
variable {P : Program} {w : World} {K : PySem.W.Frag} {mg : Str → Option Value} {base : Heap} {kk : Nat} {f : Addr} {fd : FuncData} {x qual : Str} {st : Stmt} {N : List Str}
theorem fn_open {gs : List Int → G} {t : TS} (Fn : Fun K x qual st f fd) (S : FnScope N ["script"] (defScope st))
    (hbody : ∀ (cdv : Value) (A : Around) (outer : List PySem.Env) (s : Shared) (H : Hp) (E : XK), Room kk (A.deeper (envOfC qual (defScope st) s.heap.objs.size f cdv)) → A.guards = some [] →
      PSs (cxOf CX0 P w K mg base N qual (defScope st) f cdv A outer s H E).nox (defBody st) t)
    (hrd : ∀ (R : VK) (a : Addr) (ns : List Int) (H : Hp), SqL K H a (ns.map V.int) → ns.length ≤ 63 → (∀ d c' H', d ≠ c' → H d = none → H c' = none → KeepH H H' → H' d = some (srcD c' (gs ns)) → H' c' = some (.lst ((gs ns).cells.map V.int)) → R (.ref d) H') →
      t { nx := fun _ H' => R .non H', rt := R } (L2.start N [.ref a]) H) : GOk P w K mg base CX0 (kk + 1) f fd ["script"] (spO K gs) :=
  gok_of Fn S (fun vs H R E ⟨a, ns, e, _⟩ => by rw [e]; rfl) fun cdv A outer s H vs R E hr hgd ⟨a, ns, e, hS, hl, q⟩ => by
    subst e
    exact ⟨_, (hbody cdv A outer s H E hr hgd).nox, hrd R a ns H hS hl q⟩
end
end Q

set_option Elab.async false
set_option linter.all false
set_option maxRecDepth 100000
/-! QK: the pure layer: the law's own end. -/
namespace Q
open PySem PySem.Spec PyProof.Rows L2
section
variable {X : Cx} {e : Expr} {f : SE} {p p1 p2 p3 p4 pos : Pos} {st : Stmt} {rest : List Stmt} {x : Str} {k : Nat}
theorem pss_any {t : Bs → TS} (h : ∀ B, PSs X rest (t B)) : PSs X rest (fun E σ H => ∃ B, t B E σ H) := ⟨fun pins s σ H E I ⟨B, q⟩ => (h B).run pins s σ H E I q⟩
def spLaw (K : PySem.W.Frag) : Sp := fun vs H R _ => ∃ (a : Addr) (ns : List Int), vs = [.ref a] ∧ SqL K H a (ns.map V.int) ∧ ns.length ≤ 63 ∧ ∀ H', R (.bl true) H'
def tLaw (K : PySem.W.Frag) (gs : List Int → G) (O' Ob : List Nat) (b : SS) : TS := tSeq (tAsg (fun σ H R => tCons (tVar 0) tNil σ H fun vs H1 => spO K gs vs H1 R E0) (gName 1)) fun E σ H => ∃ B, tS K B (some 1) [] O' Ob b E σ H
/-- the law's body: the source is opened, the rest -/
theorem q_law {gs : List Int → G} {b : SS} {O' Ob : List Nat} (F : Kn X.prog X.w X.K X.mg X.base k x (spO X.K gs)) (hr : Room k X.A) (hgd : X.A.guards = some []) (nd : X.N.Nodup) (hb : ∀ B, PSs X rest (tS X.K B (some 1) [] O' Ob b))
    (h0 : X.N[0]? = some ("script" : Str) := by rfl) (h1 : X.N[1]? = some ("source" : Str) := by rfl) (v0 : Vis X.env.scope "script" := by first | exact Or.inl rfl | exact Or.inr (Or.inl rfl) | exact Or.inr (Or.inr rfl)) (hx : Loc X.env.scope "source" := by first | exact Or.inl rfl | exact Or.inr rfl)
    (hf : X.fn "source" = true ∨ X.env.scope.names.lookup ("source" : Str) = some .local := by first | exact .inl rfl | exact .inr rfl) (hg : Gl X x := by rfl) (hdb : (x == ("__debug__" : Str)) = false := by decide)
    (hs : swapsWith (.Call (.Name x p1) [.Name "script" p2] [] p3) (some (.Name "source" p4)) pos.line X.env = pure false := by rfl)
    (he : starEach [.Name "script" p2] X.env = (false, eval (.Name "script" p2) X.env) :: starEach [] X.env := by rfl) (hpl : (backTo p3 (starEach [] X.env)).any (·.1) = false := by rfl) :
    PSs X (.Assign [.Name "source" p4] (.Call (.Name x p1) [.Name "script" p2] [] p3) pos :: rest) (tLaw X.K gs O' Ob b) := by
  obtain ⟨fa, fd, ps, F, hm, hk, hbd⟩ := F.ex
  exact pss_cons (ps_set nd h1 hx (pe_gcall (E := E0) F hr hgd hg hm hk hbd pass0 (pa_cons (pe_var h0 v0) pa_nil he) hdb he hpl) hs hf) (pss_any hb)
end
section
variable {P : Program} {w : World} {K : PySem.W.Frag} {mg : Str → Option Value} {base : Heap} {kk : Nat} {f : Addr} {fd : FuncData} {x qual : Str} {st : Stmt} {N : List Str}
theorem fn_law {gs : List Int → G} {b : SS} {O' Ob : List Nat} (Fn : Fun K x qual st f fd) (S : FnScope N ["script"] (defScope st)) (hN : 2 ≤ N.length) (hsem : ∀ ns : List Int, ns.length ≤ 63 → ∃ g', b (List.replicate N.length none) (gs ns) = some (.rt (.bool true), g'))
    (hbody : ∀ (cdv : Value) (A : Around) (outer : List PySem.Env) (s : Shared) (H : Hp) (E : XK), Room kk (A.deeper (envOfC qual (defScope st) s.heap.objs.size f cdv)) → A.guards = some [] →
      PSs (cxOf CX0 P w K mg base N qual (defScope st) f cdv A outer s H E).nox (defBody st) (tLaw K gs O' Ob b)) : GOk P w K mg base CX0 (kk + 1) f fd ["script"] (spLaw K) :=
  gok_of Fn S (fun vs H R E ⟨a, ns, e, _⟩ => by rw [e]; rfl) fun cdv A outer s H vs R E hr hgd ⟨a, ns, e, hS, hl, q⟩ => by
    subst e
    refine ⟨_, (hbody cdv A outer s H E hr hgd).nox, ?_⟩
    obtain ⟨g', hg⟩ := hsem ns hl
    have hlen : (L2.start N [.ref a]).length = N.length := by unfold L2.start; simp; omega
    refine ⟨.ref a, rfl, a, ns, rfl, hS, hl, fun d c H' n1 n2 n3 n4 n5 n6 => ?_⟩
    refine ⟨⟨some (d, c), fun _ => False, H', fun _ => False⟩, fun _ => False, List.replicate N.length none, gs ns, _, g', SInv.raw (fun p e => ?_) (fun i e => ?_) (fun i z e => ?_) ?_, hg, fun y σ' ρ' O2 H2 F2 I2 r2 => ?_⟩
    · cases e; exact ⟨n1, n5, n6⟩
    · cases e
      refine ⟨(d, c), rfl, ?_⟩
      rw [List.getElem?_set_self (by rw [hlen]; omega)]
    · rw [List.getElem?_replicate] at e
      split at e <;> cases e
    · rw [List.length_set, hlen, List.length_replicate]; exact Nat.le_refl _
    · cases r2; exact q H2
/-- the call of the law, at the heap behind the top -/
theorem law_run {mb : Str → Option Value} {fa a : Addr} {s₁ : Shared} {vs : List Value} {ns : List Int} {k : Nat} (inK : K.In s₁.heap) (nsM : s₁.heap.Ns mainGlobals mg) (nsB : s₁.heap.Ns builtinsNs mb) (boot : ∀ z : Str, z ≠ "__name__" → mb z = bootBuiltins z) (nolim : s₁.heap.NoLimit) (nog : s₁.gens = #[])
    (scr : s₁.heap.get? a = some { cls := .type "list", data := .seq vs.toArray }) (isI : IntsAre vs ns) (most : ns.length ≤ 63) (room : Room k callerA)
    (law : ∀ B : Heap, K.In B → B.Ns mainGlobals mg → GOk P w K mg B CX0 k fa fd [x] (spLaw K)) (bnd : ∀ (s : Shared) (u : Value), BindsTo s fd ⟨[u], []⟩ [(x, u)]) :
    codeAny (model P w) callerA (.call (.ref fa) ⟨[.ref a], []⟩) (fun r s' => r = .ok (.ret (.bool true)) ∧ OldK s₁.heap s'.heap ∧ s'.os = s₁.os ∧ AllBare s'.gens) s₁ := by
  have size63 : (63 : Nat) ≤ sizeLine := by decide
  have rel := vals_ints isI
  have go : ∀ T : Hp, (∀ q u, T q = some u → q = a ∧ K.lookup a = none ∧ ∃ o ys, u = .frz o (.lst ys)) → SqL K T a (ns.map V.int) → HOk P w T s₁.heap →
      codeAny (model P w) callerA (.call (.ref fa) ⟨[.ref a], []⟩) (fun r s' => r = .ok (.ret (.bool true)) ∧ OldK s₁.heap s'.heap ∧ s'.os = s₁.os ∧ AllBare s'.gens) s₁ := by
    intro T only seq hok
    have vis : ∀ {q : Addr} {z : Obj}, s₁.heap.get? q = some z → T q = none → (hidT s₁.heap T).get? q = some z := fun g n => hidT_get g n
    have notD : ∀ {q : Addr} {z : Obj} {ents : Array DictEntry} {ver : Nat}, s₁.heap.get? q = some z → z.data = .dict ents ver → T q = none := fun {q z ents ver} g d => by
      cases c : T q with
      | none => rfl
      | some u =>
        obtain ⟨rfl, _⟩ := only q u c
        rw [scr] at g
        cases g
        cases (show Data.seq vs.toArray _ = Data.dict ents ver from d)
    have spaces : ∀ {q : Addr} {m : Str → Option Value}, s₁.heap.Ns q m → (hidT s₁.heap T).Ns q m := fun {q m} h => by
      obtain ⟨o, ents, ver, g, d, r⟩ := h
      exact ⟨o, ents, ver, vis g (notD g d), d, r⟩
    have inB : K.In (hidT s₁.heap T) := fun q z l => vis (inK q z l) (by
      cases c : T q with
      | none => rfl
      | some u =>
        obtain ⟨rfl, n, _⟩ := only q u c
        rw [n] at l; cases l)
    have mod : Mod K mg (hidT s₁.heap T) := ⟨inB, spaces nsM, ⟨mb, spaces nsB, boot⟩, by
      obtain ⟨mc, l1, l2⟩ := nolim
      exact ⟨mc, spaces l1, l2⟩⟩
    have e0 : Env0 P w K mg (hidT s₁.heap T) callerA [] s₁ T := ⟨rfl, mod, fun q z g => of_hidT g, Nat.le_of_eq (hidT_size _ _), trivial, fun q h => absurd (show q ∈ ([] : List Addr) from h) (by simp), hok, .of_eq nog⟩
    have run := (law _ inB (spaces nsM)).run callerA [] s₁ T ⟨[.ref a], []⟩ [.ref a] [.ref a] (fun v _ => v = .bl true) (fun _ _ _ => False) room rfl e0 (bnd s₁ (.ref a)) (.cons rfl .nil) ⟨a, ns, rfl, seq, most, fun _ => rfl⟩
    refine codeAny_mono run fun r s' h => ?_
    match r, h with
    | .error _, h => exact h.elim
    | .ok .next, h => exact False.elim h
    | .ok .brk, h => exact False.elim h
    | .ok .cont, h => exact False.elim h
    | .ok (.ret u), h =>
      obtain ⟨v, T', os, bare, un, hok', rv, hv⟩ := h
      subst hv
      obtain rfl : u = Value.bool true := rv
      refine ⟨rfl, OldK.of_keep fun q z g => ?_, os, bare⟩
      cases c : T q with
      | none => exact un.keep q z g c (fun m => absurd (show q ∈ ([] : List Addr) from m) (by simp)) (by simp)
      | some u =>
        obtain ⟨_, _, o, ys, rfl⟩ := only q u c
        obtain ⟨g1, _⟩ := hok q _ c
        obtain ⟨g2, _⟩ := hok' q _ (un.frzs q o _ c)
        rw [g1] at g; cases g
        exact g2
  cases lk : K.lookup a with
  | some o =>
    have g := inK a o lk
    rw [scr] at g
    cases g
    exact go (fun _ => none) (fun q u h => by cases h) (.inr ⟨_, vs.toArray, _, lk, rfl, rfl, rfl, by rw [List.size_toArray, isI.length]; exact Nat.le_trans most size63, by simpa using rel⟩) fun q u h => by cases h
  | none =>
    have at_a : ∀ q u, (if q = a then some (HO.frz { cls := .type "list", data := .seq vs.toArray } (.lst (ns.map V.int))) else none) = some u → q = a ∧ u = HO.frz { cls := .type "list", data := .seq vs.toArray } (.lst (ns.map V.int)) := fun q u h => by
      by_cases e : q = a
      · rw [if_pos e] at h; cases h; exact ⟨e, rfl⟩
      · rw [if_neg e] at h; cases h
    refine go (fun q => if q = a then some (HO.frz { cls := .type "list", data := .seq vs.toArray } (.lst (ns.map V.int))) else none) (fun q u h => ?_) (.inl (.inr ⟨{ cls := .type "list", data := .seq vs.toArray }, if_pos rfl⟩)) fun q u h => ?_
    · obtain ⟨e1, e2⟩ := at_a q u h
      exact ⟨e1, lk, _, _, e2⟩
    · obtain ⟨rfl, rfl⟩ := at_a q u h
      exact ⟨scr, by rw [List.length_map]; exact Nat.le_trans most size63, vs, _, rel, scr⟩
end
/-- the head -/
theorem law_of {l : PySem.W.OpenLaw} {k : Nat} {q : Program} {loose : List Str} {XP : (Str → Option Value) → Heap → Prop} {YP : World → Heap → Prop} {d : DefRec} {K : Params → PySem.W.Frag} {x : Str} (hn : l.most = some 63) (hdf : d.params.defaults = []) (room : Room k callerA)
    (hY : ∀ (w : World) (h : Heap), YP w h → (K w.params).In h)
    (F : ∀ (w : World) (mg : Str → Option Value) (fa : Addr) (h : Heap), (K w.params).In h → h.Ns mainGlobals mg → mg d.name = some (.ref fa) →
      ∃ fd : FuncData, (∀ (s : Shared) (u : Value), BindsTo s fd ⟨[u], []⟩ [(x, u)]) ∧ ∀ B : Heap, (K w.params).In B → B.Ns mainGlobals mg → GOk l.prog w (K w.params) mg B CX0 k fa fd [x] (spLaw (K w.params))) :
    PySem.W.WalkO q loose XP YP l.row.toRowW d [] (fun f vs => PySem.call f vs) :=
  Att.attach_call hn hdf fun w s₀ s₁ mg mb fa o pm cd doc a vs ns G Y ho hd hcd hmg hobj hints hlen hg => by
    obtain ⟨fd, hb, hF⟩ := F w mg fa _ (hY w _ Y) G.T.g hmg
    exact law_run (hY w _ Y) G.T.g G.T.b G.T.builtins G.T.nolimit hg hobj hints hlen room hF hb
end Q

set_option Elab.async false
set_option linter.all false
set_option maxRecDepth 100000
/-! QL: the pure layer is run: loops, comprehensions, the draws. -/
namespace Q
open PySem PySem.Spec
section
variable {f h k : SE} {s t : SS} {u v : ST} {fs : SL} {ρ : Ev} {i j : Int} {n m : Nat} {tg : SG} {tgs : SGs} {g : G} {xs ys : List D} {x y z : D}
@[simp] theorem u_seq : sSeq s t ρ g = (mbnd (s ρ) fun fl => match fl with
  | .nx ρ' => t ρ'
  | fl => mret fl) g := Eq.trans rfl rfl
@[simp] theorem u_next : sNext ρ g = (mret (.nx ρ)) g := Eq.trans rfl rfl
@[simp] theorem u_ret : sRet f ρ g = (mbnd (f ρ) fun d => mret (.rt d)) g := Eq.trans rfl rfl
@[simp] theorem u_retN : sRetN ρ g = (mret (.rt .none)) g := Eq.trans rfl rfl
@[simp] theorem u_if : sIf u s t ρ g = (mbnd (u ρ) fun k => if k then s ρ else t ρ) g := Eq.trans rfl rfl
@[simp] theorem u_brk : sBrk ρ g = (mret (.bk ρ)) g := Eq.trans rfl rfl
@[simp] theorem u_cnt : sCnt ρ g = (mret (.ct ρ)) g := Eq.trans rfl rfl
@[simp] theorem u_asg : sAsg n f ρ g = (mbnd (f ρ) fun d => mret (.nx (ρ.set n (some d)))) g := Eq.trans rfl rfl
@[simp] theorem u_par : sPar n m f h ρ g = (mbnd (f ρ) fun d => mbnd (h ρ) fun e => mret (.nx ((ρ.set n (some d)).set m (some e)))) g := Eq.trans rfl rfl
@[simp] theorem u_asgT : sAsgT f tg ρ g = (mbnd (f ρ) fun d => mbnd (mlift (tg d ρ)) fun ρ' => mret (.nx ρ')) g := Eq.trans rfl rfl
@[simp] theorem u_gN : gN n x ρ = some (ρ.set n (some x)) := Eq.trans rfl rfl
@[simp] theorem u_gT2 : gT 2 tgs (.tuple [x, y]) ρ = tgs [x, y] ρ := Eq.trans rfl rfl
@[simp] theorem u_gT3 : gT 3 tgs (.tuple [x, y, z]) ρ = tgs [x, y, z] ρ := Eq.trans rfl rfl
@[simp] theorem u_gsC : gsC tg tgs (x :: xs) ρ = (tg x ρ).bind fun ρ' => tgs xs ρ' := Eq.trans rfl rfl
@[simp] theorem u_gsN : gsN [] ρ = some ρ := Eq.trans rfl rfl
@[simp] theorem u_for : sFor fs tg s ρ g = (mbnd (fs ρ) fun ds => forGo tg s ds ρ) g := Eq.trans rfl rfl
@[simp] theorem u_app : sApp n f ρ g = match f ρ g with
  | some (d, g') => (match lstAt ρ n with
    | some ds => if ds.length < sizeLine then some (.nx (ρ.set n (some (.list (ds ++ [d])))), g') else none
    | none => none)
  | none => none := by
  unfold sApp mbnd
  cases f ρ g with
  | none => rfl
  | some p =>
    obtain ⟨d, g'⟩ := p
    simp only
    cases lstAt ρ n with
    | none => rfl
    | some ds =>
      by_cases q : ds.length < sizeLine
      · simp only [q, decide_true, if_true]; rfl
      · simp only [q, decide_false, if_false]; rfl
@[simp] theorem u_pop : sPop n ρ g = match lstAt ρ n with
  | some ds => if ds.isEmpty then none else some (.nx (ρ.set n (some (.list ds.dropLast))), g)
  | none => none := by
  unfold sPop
  cases lstAt ρ n with
  | none => rfl
  | some ds => cases ds <;> rfl
@[simp] theorem u_V : eV n ρ g = (mlift (ρ.getD n none)) g := Eq.trans rfl rfl
@[simp] theorem u_C : eC x ρ g = (mret x) g := Eq.trans rfl rfl
@[simp] theorem u_op {sem : D → D → Option D} : eOp sem f h ρ g = (mbnd (f ρ) fun d => mbnd (h ρ) fun e => mlift (sem d e)) g := Eq.trans rfl rfl
@[simp] theorem u_neg : eNeg f ρ g = (mbnd (f ρ) fun d => match d with
  | .int i => mret (.int (-i))
  | _ => fun _ => none) g := Eq.trans rfl rfl
@[simp] theorem u_not : eNot u ρ g = (mbnd (u ρ) fun k => mret (.bool (!k))) g := Eq.trans rfl rfl
@[simp] theorem u_eand : eAnd f h ρ g = (mbnd (f ρ) fun d => match d with
  | .bool true => h ρ
  | .bool false => mret (.bool false)
  | _ => fun _ => none) g := Eq.trans rfl rfl
@[simp] theorem u_eor : eOr f h ρ g = (mbnd (f ρ) fun d => match d with
  | .bool false => h ρ
  | .bool true => mret (.bool true)
  | _ => fun _ => none) g := Eq.trans rfl rfl
@[simp] theorem u_bool : eBool f ρ g = (mbnd (f ρ) fun d => match d with
  | .bool k => mret (.bool k)
  | _ => fun _ => none) g := Eq.trans rfl rfl
@[simp] theorem u_eif : eIf u f h ρ g = (mbnd (u ρ) fun k => if k then f ρ else h ρ) g := Eq.trans rfl rfl
@[simp] theorem u_tup : eTup fs ρ g = (mbnd (fs ρ) fun ds => mret (.tuple ds)) g := Eq.trans rfl rfl
@[simp] theorem u_lst : eLst fs ρ g = (mbnd (fs ρ) fun ds => mret (.list ds)) g := Eq.trans rfl rfl
@[simp] theorem u_cut {lo hi : SO} : eCut f lo hi ρ g = (mbnd (f ρ) fun d => mbnd (lo ρ) fun l => mbnd (hi ρ) fun h => mlift (sCut l h d)) g := Eq.trans rfl rfl
@[simp] theorem u_oN : oNone ρ g = (mret none) g := Eq.trans rfl rfl
@[simp] theorem u_oI : oInt f ρ g = (mbnd (f ρ) fun d => match d with
  | .int i => mret (some i)
  | _ => fun _ => none) g := Eq.trans rfl rfl
@[simp] theorem u_CB {sem : List D → Option D} : eCB sem fs ρ g = (mbnd (fs ρ) fun ds => mlift (sem ds)) g := Eq.trans rfl rfl
@[simp] theorem u_CP {sem : List D → Option D} : eCP sem fs ρ g = (mbnd (fs ρ) fun ds => mlift (sem ds)) g := Eq.trans rfl rfl
@[simp] theorem u_CD {sem : List D → M D} : eCD sem fs ρ g = (mbnd (fs ρ) fun ds => sem ds) g := Eq.trans rfl rfl
@[simp] theorem u_scons : sCons f fs ρ g = (mbnd (f ρ) fun d => mbnd (fs ρ) fun ds => mret (d :: ds)) g := Eq.trans rfl rfl
@[simp] theorem u_snil : sNil ρ g = (mret []) g := Eq.trans rfl rfl
@[simp] theorem u_bOf : bOf f ρ g = (mbnd (f ρ) fun d => match d with
  | .bool k => mret k
  | _ => fun _ => none) g := Eq.trans rfl rfl
@[simp] theorem u_bTru : bTru f ρ g = (mbnd (f ρ) fun d => mlift (truD d)) g := Eq.trans rfl rfl
@[simp] theorem u_band : bAnd u v ρ g = (mbnd (u ρ) fun k => if k then v ρ else mret false) g := Eq.trans rfl rfl
@[simp] theorem u_bor : bOr u v ρ g = (mbnd (u ρ) fun k => if k then mret true else v ρ) g := Eq.trans rfl rfl
@[simp] theorem u_bnot : bNot u ρ g = (mbnd (u ρ) fun k => mret (!k)) g := Eq.trans rfl rfl
@[simp] theorem u_yes : bYes ρ g = (mret true) g := Eq.trans rfl rfl
@[simp] theorem u_bnd {α β : Type} {p : M α} {q : α → M β} : mbnd p q g = (match p g with
  | some (a, g') => q a g'
  | none => none) := Eq.trans rfl rfl
@[simp] theorem u_mret {α : Type} {a : α} : mret a g = (some (a, g)) := Eq.trans rfl rfl
@[simp] theorem u_liftS {α : Type} {a : α} : mlift (some a) g = (some (a, g)) := Eq.trans rfl rfl
@[simp] theorem u_liftN {α : Type} : mlift (none : Option α) g = none := Eq.trans rfl rfl
@[simp] theorem u_gd {α : Type} {p : M α} : mguard true p g = p g := Eq.trans rfl rfl
@[simp] theorem u_endR {d : D} : endD (some (.rt d, g)) = some (d, g) := Eq.trans rfl rfl
@[simp] theorem u_endN {ρ : Ev} : endD (some (.nx ρ, g)) = some (.none, g) := Eq.trans rfl rfl
@[simp] theorem u_addI : sAdd (.int i) (.int j) = some (.int (i + j)) := Eq.trans rfl rfl
@[simp] theorem u_addT : sAdd (.tuple xs) (.tuple ys) = if xs.length + ys.length ≤ sizeLine then some (.tuple (xs ++ ys)) else none := Eq.trans rfl rfl
@[simp] theorem u_addL : sAdd (.list xs) (.list ys) = if xs.length + ys.length ≤ sizeLine then some (.list (xs ++ ys)) else none := Eq.trans rfl rfl
@[simp] theorem u_sub : sSub (.int i) (.int j) = some (.int (i - j)) := Eq.trans rfl rfl
@[simp] theorem u_mul : sMul (.int i) (.int j) = if cMul i j then some (.int (i * j)) else none := Eq.trans rfl rfl
@[simp] theorem u_mulL : sMul (.list xs) (.int j) = if j.natAbs < 2 ^ 63 ∧ xs.length * j.toNat ≤ sizeLine then some (.list (List.replicate j.toNat xs).flatten) else none := Eq.trans rfl rfl
@[simp] theorem u_div : sDiv (.int i) (.int j) = if cDiv i j then some (.int (i / j)) else none := Eq.trans rfl rfl
@[simp] theorem u_mod : sMod (.int i) (.int j) = if cMod i j then some (.int (i % j)) else none := Eq.trans rfl rfl
@[simp] theorem u_pow : sPow (.int i) (.int j) = if cPow i j then some (.int (i ^ j.toNat)) else none := Eq.trans rfl rfl
@[simp] theorem u_lt : sLt (.int i) (.int j) = some (.bool (decide (i < j))) := Eq.trans rfl rfl
@[simp] theorem u_le : sLe (.int i) (.int j) = some (.bool (decide (i ≤ j))) := Eq.trans rfl rfl
@[simp] theorem u_gt : sGt (.int i) (.int j) = some (.bool (decide (j < i))) := Eq.trans rfl rfl
@[simp] theorem u_ge : sGe (.int i) (.int j) = some (.bool (decide (j ≤ i))) := Eq.trans rfl rfl
@[simp] theorem u_lenL : sLen [.list xs] = some (.int xs.length) := Eq.trans rfl rfl
@[simp] theorem u_lenT : sLen [.tuple xs] = some (.int xs.length) := Eq.trans rfl rfl
@[simp] theorem u_listL : sList [.list xs] = some (.list xs) := Eq.trans rfl rfl
@[simp] theorem u_listT : sList [.tuple xs] = some (.list xs) := Eq.trans rfl rfl
@[simp] theorem u_tupL : sTuple [.list xs] = some (.tuple xs) := Eq.trans rfl rfl
@[simp] theorem u_tupT : sTuple [.tuple xs] = some (.tuple xs) := Eq.trans rfl rfl
@[simp] theorem u_int : sInt [.int i] = some (.int i) := Eq.trans rfl rfl
@[simp] theorem u_abs : sAbs [.int i] = some (.int (if i < 0 then -i else i)) := Eq.trans rfl rfl
@[simp] theorem u_max : sMax2 [.int i, .int j] = some (.int (if j > i then j else i)) := Eq.trans rfl rfl
@[simp] theorem u_min : sMin2 [.int i, .int j] = some (.int (if j < i then j else i)) := Eq.trans rfl rfl
@[simp] theorem u_iseq : iSeq f ρ g = (mbnd (f ρ) fun d => mlift (seqD d)) g := Eq.trans rfl rfl
@[simp] theorem u_seqL : seqD (.list xs) = some xs := Eq.trans rfl rfl
@[simp] theorem u_seqT : seqD (.tuple xs) = some xs := Eq.trans rfl rfl
@[simp] theorem u_r1 : iRange1 f ρ g = match f ρ g with
  | some (.int j, g') => if inR j then some (rangeD 0 j.toNat, g') else none
  | _ => none := by
  unfold iRange1 mbnd
  cases f ρ g with
  | none => rfl
  | some p =>
    obtain ⟨d, g'⟩ := p
    cases d with
    | int j => simp only [mguard, mret]; cases inR j <;> rfl
    | _ => rfl
@[simp] theorem u_r2 : iRange2 f h ρ g = match f ρ g with
  | some (d, g1) => (match h ρ g1 with
    | some (e, g2) => (match d, e with
      | .int i, .int j => if inR i && inR j then some (rangeD i (j - i).toNat, g2) else none
      | _, _ => none)
    | none => none)
  | none => none := by
  unfold iRange2 mbnd
  cases f ρ g with
  | none => rfl
  | some p =>
    obtain ⟨d, g1⟩ := p
    simp only
    cases h ρ g1 with
    | none => rfl
    | some p =>
      obtain ⟨e, g2⟩ := p
      cases d <;> cases e <;> simp only [mguard, mret]
      rename_i i j
      cases inR i && inR j <;> rfl
@[simp] theorem u_enum : iEnum f ρ g = (mbnd (f ρ) fun d => mlift ((seqD d).map enumD)) g := Eq.trans rfl rfl
@[simp] theorem u_zip : iZip f h ρ g = (mbnd (f ρ) fun d => mbnd (h ρ) fun e => mlift (zipOf d e)) g := Eq.trans rfl rfl
@[simp] theorem u_zipL : zipOf (.list xs) (.list ys) = some (zipD xs ys) := Eq.trans rfl rfl
@[simp] theorem u_zipT : zipOf (.tuple xs) (.tuple ys) = some (zipD xs ys) := Eq.trans rfl rfl
@[simp] theorem u_lat : lstAt ρ n = match ρ.getD n none with
  | some (.list ds) => some ds
  | _ => none := Eq.trans rfl rfl
@[simp] theorem u_src {w : G → Int} : eSrc w ρ g = some (.int (w g), g) := Eq.trans rfl rfl
@[simp] theorem u_srcS {w : Int → G → G} : sSrc w f ρ g = match f ρ g with
  | some (.int v, g') => some (.nx ρ, w v g')
  | _ => none := by
  unfold sSrc mbnd
  cases f ρ g with
  | none => rfl
  | some p => obtain ⟨d, g'⟩ := p; cases d <;> rfl
@[simp] theorem u_isi {T : String} : eIsi T f ρ g = (mbnd (f ρ) fun d => mret (.bool (isA (tyD d) T))) g := Eq.trans rfl rfl
@[simp] theorem u_truB {c : Bool} : truD (.bool c) = some c := Eq.trans rfl rfl
@[simp] theorem u_truI : truD (.int i) = some (i != 0) := Eq.trans rfl rfl
@[simp] theorem u_cmod : cMod i j = decide (0 < j) := Eq.trans rfl rfl
@[simp] theorem u_dict0 : eDict0 ρ g = (mret (.dict [])) g := Eq.trans rfl rfl
@[simp] theorem u_lc {vs : List Nat} : eLc fs vs tg u f ρ g = match fs ρ g with
  | some (ds, g1) => (match lcGo tg u f (wipeE ρ vs) ds g1 with
    | some (zs, g2) => if zs.length ≤ sizeLine then some (.list zs, g2) else none
    | none => none)
  | none => none := by
  unfold eLc mbnd
  cases fs ρ g with
  | none => rfl
  | some p =>
    obtain ⟨ds, g1⟩ := p
    simp only
    cases lcGo tg u f (wipeE ρ vs) ds g1 with
    | none => rfl
    | some p =>
      obtain ⟨zs, g2⟩ := p
      simp only [mguard, mret]
      by_cases q : zs.length ≤ sizeLine
      · simp only [q, decide_true, if_true]
      · simp only [q, decide_false, if_false]
@[simp] theorem u_wipe0 : wipeE ρ [] = ρ := Eq.trans rfl rfl
@[simp] theorem u_wipe1 {vs : List Nat} : wipeE ρ (n :: vs) = (wipeE ρ vs).set n none := Eq.trans rfl rfl
end
section
variable {α : Type} {tgt : SG} {b : SS} {ds : List D} {ρ : Ev} {g : G} {c tt : ST} {te : SE}
/-- a loop that runs to its end -/
theorem for_inv (I : Nat → Ev → G → Prop) (h0 : I 0 ρ g) (hs : ∀ i d ρ g, ds[i]? = some d → I i ρ g → ∃ ρ1 ρ2 g2, tgt d ρ = some ρ1 ∧ b ρ1 g = some (.nx ρ2, g2) ∧ I (i + 1) ρ2 g2) : ∃ ρ' g', forGo tgt b ds ρ g = some (.nx ρ', g') ∧ I ds.length ρ' g' := by
  have key : ∀ n i ρ g, n + i = ds.length → I i ρ g → ∃ ρ' g', forGo tgt b (ds.drop i) ρ g = some (.nx ρ', g') ∧ I ds.length ρ' g' := by
    intro n
    induction n with
    | zero =>
      intro i ρ g e h
      have e' : i = ds.length := by omega
      subst e'
      rw [List.drop_length]
      exact ⟨ρ, g, rfl, h⟩
    | succ n ih =>
      intro i ρ g e h
      have hi : i < ds.length := by omega
      obtain ⟨ρ1, ρ2, g2, e1, e2, h2⟩ := hs i ds[i] ρ g (List.getElem?_eq_getElem hi) h
      obtain ⟨ρ', g', e3, h3⟩ := ih (i + 1) ρ2 g2 (by omega) h2
      refine ⟨ρ', g', ?_, h3⟩
      rw [List.drop_eq_getElem_cons hi]
      unfold forGo
      simp only [mbnd, mlift, e1, e2]
      exact e3
  exact key ds.length 0 ρ g (by omega) h0
/-- a loop that may return -/
theorem for_ret (I : Nat → Ev → G → Prop) (R : D → G → Prop) (h0 : I 0 ρ g) (hs : ∀ i d ρ g, ds[i]? = some d → I i ρ g → ∃ ρ1, tgt d ρ = some ρ1 ∧ ((∃ ρ2 g2, b ρ1 g = some (.nx ρ2, g2) ∧ I (i + 1) ρ2 g2) ∨ ∃ r g2, b ρ1 g = some (.rt r, g2) ∧ R r g2)) :
    (∃ ρ' g', forGo tgt b ds ρ g = some (.nx ρ', g') ∧ I ds.length ρ' g') ∨ ∃ r g', forGo tgt b ds ρ g = some (.rt r, g') ∧ R r g' := by
  have key : ∀ n i ρ g, n + i = ds.length → I i ρ g → (∃ ρ' g', forGo tgt b (ds.drop i) ρ g = some (.nx ρ', g') ∧ I ds.length ρ' g') ∨ ∃ r g', forGo tgt b (ds.drop i) ρ g = some (.rt r, g') ∧ R r g' := by
    intro n
    induction n with
    | zero =>
      intro i ρ g e h
      have e' : i = ds.length := by omega
      subst e'
      rw [List.drop_length]
      exact .inl ⟨ρ, g, rfl, h⟩
    | succ n ih =>
      intro i ρ g e h
      have hi : i < ds.length := by omega
      obtain ⟨ρ1, e1, h1⟩ := hs i ds[i] ρ g (List.getElem?_eq_getElem hi) h
      rcases h1 with ⟨ρ2, g2, e2, h2⟩ | ⟨r, g2, e2, h2⟩
      · have q := ih (i + 1) ρ2 g2 (by omega) h2
        have e4 : forGo tgt b (ds.drop i) ρ g = forGo tgt b (ds.drop (i + 1)) ρ2 g2 := by
          rw [List.drop_eq_getElem_cons hi, forGo]
          simp only [mbnd, mlift, e1, e2]
        rw [e4]; exact q
      · refine .inr ⟨r, g2, ?_, h2⟩
        rw [List.drop_eq_getElem_cons hi, forGo]
        simp only [mbnd, mlift, e1, e2, mret]
  exact key ds.length 0 ρ g (by omega) h0
theorem while_inv (I : Nat → Ev → G → Prop) (Z : Ev → G → Prop) (n : Nat) (hn : n < fuel) (h0 : I n ρ g) (hs : ∀ m ρ g, I m ρ g → ∃ k g1, c ρ g = some (k, g1) ∧ (k = false → Z ρ g1) ∧ (k = true → ∃ m' ρ2 g2, m' < m ∧ b ρ g1 = some (.nx ρ2, g2) ∧ I m' ρ2 g2)) :
    ∃ ρ' g', sWhile c b ρ g = some (.nx ρ', g') ∧ Z ρ' g' := by
  have key : ∀ f m ρ g, m < f → I m ρ g → ∃ ρ' g', whileGo c b f ρ g = some (.nx ρ', g') ∧ Z ρ' g' := by
    intro f
    induction f with
    | zero => intro m ρ g h; omega
    | succ f ih =>
      intro m ρ g hm h
      obtain ⟨k, g1, e1, z1, z2⟩ := hs m ρ g h
      cases k with
      | false => exact ⟨ρ, g1, by unfold whileGo; simp [mbnd, e1, mret], z1 rfl⟩
      | true =>
        obtain ⟨m', ρ2, g2, lt, e2, h2⟩ := z2 rfl
        obtain ⟨ρ', g', e3, h3⟩ := ih m' ρ2 g2 (by omega) h2
        exact ⟨ρ', g', by unfold whileGo; simp [mbnd, e1, e2]; exact e3, h3⟩
  exact key fuel n ρ g hn h0
theorem lc_map (xs : List α) (dd r : α → D) (h : ∀ x, x ∈ xs → ∃ ρ1, tgt (dd x) ρ = some ρ1 ∧ te ρ1 g = some (r x, g)) : lcGo tgt bYes te ρ (xs.map dd) g = some (xs.map r, g) := by
  induction xs with
  | nil => rfl
  | cons x xs ih =>
    obtain ⟨ρ1, e1, e2⟩ := h x (by simp)
    have q := ih fun y m => h y (List.mem_cons_of_mem _ m)
    simp only [List.map_cons]
    unfold lcGo
    simp only [mbnd, mlift, e1, bYes, mret, e2]
    rw [q]
theorem lc_filter (xs : List α) (dd r : α → D) (p : α → Bool) (h : ∀ x, x ∈ xs → ∃ ρ1, tgt (dd x) ρ = some ρ1 ∧ tt ρ1 g = some (p x, g) ∧ (p x = true → te ρ1 g = some (r x, g))) : lcGo tgt tt te ρ (xs.map dd) g = some ((xs.filter p).map r, g) := by
  induction xs with
  | nil => rfl
  | cons x xs ih =>
    obtain ⟨ρ1, e1, e2, e3⟩ := h x (by simp)
    have q := ih fun y m => h y (List.mem_cons_of_mem _ m)
    simp only [List.map_cons]
    unfold lcGo
    simp only [mbnd, mlift, e1, e2]
    cases hp : p x with
    | true => simp only [mbnd, mret, e3 hp, q, List.filter_cons, hp, if_true, List.map_cons]
    | false => simp only [q, List.filter_cons, hp]; rfl
/-- what is drawn for each -/
theorem lc_draw (P : D → Prop) (h : ∀ d g, d ∈ ds → ∃ ρ1 z g2, tgt d ρ = some ρ1 ∧ te ρ1 g = some (z, g2) ∧ P z) : ∃ zs g', lcGo tgt bYes te ρ ds g = some (zs, g') ∧ zs.length = ds.length ∧ ∀ z ∈ zs, P z := by
  induction ds generalizing g with
  | nil => exact ⟨[], g, rfl, rfl, by simp⟩
  | cons d ds ih =>
    obtain ⟨ρ1, z, g2, e1, e2, hz⟩ := h d g (by simp)
    obtain ⟨zs, g', e3, e4, e5⟩ := ih (g := g2) fun d g m => h d g (List.mem_cons_of_mem _ m)
    refine ⟨z :: zs, g', ?_, by simp [e4], by simpa using ⟨hz, e5⟩⟩
    unfold lcGo
    simp only [mbnd, mlift, e1, bYes, mret, e2, e3]
end
theorem smallR {i j : Int} (h : -(2 ^ 64) < j ∧ j < 2 ^ 64) : cMul i j = true := small_mul h
theorem smallL {i j : Int} (h : -(2 ^ 64) < i ∧ i < 2 ^ 64) : cMul i j = true := by
  unfold cMul smallI
  rw [decide_eq_true (show i.natAbs < 2 ^ 64 by omega)]
  simp
theorem cDiv_ok {i j : Int} (h : 0 < j) (h2 : j < 2 ^ 64) : cDiv i j = true := by
  unfold cDiv
  have e : j.natAbs < 2 ^ 64 := by omega
  have l : j.natAbs.log2 < 9000 := by
    have : j.natAbs.log2 < 64 := (Nat.log2_lt (by omega)).mpr e
    omega
  rw [decide_eq_true h, decide_eq_true l]; rfl
/-- the draw of the laws of the second family -/
def pickA_b : SS :=
  (sSeq (sIf (bOf (eOp sLt (eV 1) (eC (.int 2))))
  (sRet (eC (.int 0)))
  sNext)
  (sSeq (sPullA 2)
  (sSeq (sAsg 3 (eSrc G.left))
  (sSeq (sIf (bOf (eOp sGt (eV 3) (eC (.int 1))))
  (sSeq (sSrc (fun v g => { g with left := v }) (eOp sDiv (eV 3) (eV 1)))
  (sRet (eOp sMod (eCB sInt (sCons (eV 3) sNil)) (eV 1))))
  sNext)
  (sSeq (sSrc (fun v g => { g with turn := v }) (eOp sAdd (eSrc G.turn) (eC (.int 1))))
  (sSeq (sAsg 4 (eSrc G.turn))
  (sSeq (sAsg 5 (eOp sMod (eCB sInt (sCons (eOp sAdd (eSrc G.mixed) (eOp sMul (eV 4) (eC (.int 104729)))) sNil)) (eC (.int 998244353))))
  (sSeq (sAsg 5 (eOp sMod (eCB sInt (sCons (eOp sAdd (eOp sMul (eV 5) (eV 5)) (eOp sMul (eV 4) (eC (.int 17)))) sNil)) (eC (.int 2147483647))))
  (sRet (eOp sMod (eCB sInt (sCons (eOp sDiv (eV 5) (eC (.int 16))) sNil)) (eV 1)))))))))))
def pickA : List D → M D := runD 6 pickA_b
theorem pickA_ok (most : Int) (hm : most < 2 ^ 62) (g : G) : ∃ r g', pickA [.int most] g = some (.int r, g') ∧ 0 ≤ r ∧ (r < most ∨ r = 0) := by
  by_cases h2 : most < 2
  · exact ⟨0, g, by simp [pickA, runD, pickA_b, h2], by omega, .inr rfl⟩
  · have hM : ∀ x : Int, 0 ≤ x % most ∧ x % most < most := fun x => ⟨Int.emod_nonneg _ (by omega), Int.emod_lt_of_pos _ (by omega)⟩
    have hd : ∀ x, cDiv x most = true := fun x => cDiv_ok (by omega) (by omega)
    by_cases hl : 1 < (pull g).left
    · refine ⟨(pull g).left % most, { pull g with left := (pull g).left / most }, ?_, (hM _).1, .inl (hM _).2⟩
      have p0 : 0 < most := by omega
      simp [pickA, runD, pickA_b, h2, sPullA, hl, hd, p0]
    · have p0 : 0 < most := by omega
      have c1 : ∀ i : Int, cMul i 104729 = true := fun i => smallR (by omega)
      have c2 : ∀ i : Int, cMul i 17 = true := fun i => smallR (by omega)
      have c3 : ∀ x : Int, cMul (x % 998244353) (x % 998244353) = true := fun x => smallR (by
        have := Int.emod_nonneg x (b := 998244353) (by omega)
        have := Int.emod_lt_of_pos x (b := 998244353) (by omega)
        omega)
      have c4 : ∀ x : Int, cDiv x 16 = true := fun x => cDiv_ok (by omega) (by omega)
      refine ⟨((((pull g).mixed + ((pull g).turn + 1) * 104729) % 998244353 * (((pull g).mixed + ((pull g).turn + 1) * 104729) % 998244353) + ((pull g).turn + 1) * 17) % 2147483647 / 16) % most, { pull g with turn := (pull g).turn + 1 }, ?_, (hM _).1, .inl (hM _).2⟩
      simp [pickA, runD, pickA_b, h2, sPullA, hl, p0, c1, c2, c3, c4]
/-- of some things one -/
def ofA_b : SS := (sRet (eOp sIx (eV 1) (eCD pickA (sCons (eCB sLen (sCons (eV 1) sNil)) sNil))))
def ofA : List D → M D := runD 2 ofA_b
theorem ofA_ok {ds : List D} (h0 : ds ≠ []) (hl : ds.length < 2 ^ 62) (g : G) : ∃ d g', ofA [.list ds] g = some (d, g') ∧ d ∈ ds := by
  obtain ⟨r, g', e, h1, h2⟩ := pickA_ok (ds.length : Int) (by omega) g
  have hp : 0 < ds.length := List.length_pos_iff.mpr h0
  have hr : r.toNat < ds.length := by omega
  have hx : L2.atI ds r = some ds[r.toNat] := by
    obtain ⟨n, rfl⟩ : ∃ n : Nat, r = n := ⟨r.toNat, by omega⟩
    have hn : n < ds.length := by omega
    exact L2.atI_nat (by simpa using List.getElem?_eq_getElem hn)
  refine ⟨ds[r.toNat], g', ?_, List.getElem_mem hr⟩
  simp [ofA, runD, ofA_b, e, sIx, hx]
end Q


set_option Elab.async false
set_option linter.all false
set_option maxRecDepth 100000
/-! QM: the pure layer is run: what is shown, what is equal. -/
namespace Q
open PySem PySem.Spec
/-! ### the length of what is shown -/
mutual
def wt : D → Nat
  | .none => 4
  | .bool _ => 5
  | .int _ => 1921
  | .str x => (reprText x).length
  | .list xs => wtAll xs + 4
  | .tuple xs => wtAll xs + 4
  | .dict _ => 0
def wtAll : List D → Nat
  | [] => 0
  | x :: xs => wt x + 2 + wtAll xs
end
theorem textFrom_up : ∀ (ts : List Str) (k : Nat) (acc : Str), (textFrom k acc ts).length ≤ acc.length + piled ts
  | [], k, acc => by show acc.length ≤ _; omega
  | t :: r, k, acc => by
    have ih := textFrom_up r (k + 1) (acc ++ (if k > 0 then ", " else "" : String) ++ t)
    have e : (acc ++ (if k > 0 then ", " else "" : String) ++ t).length ≤ acc.length + 2 + t.length := by
      rw [strLen_append, strLen_append]
      split
      · exact Nat.le_refl _
      · show acc.length + 0 + t.length ≤ _; omega
    have p : piled (t :: r) = t.length + 2 + piled r := by simp [piled]
    show (textFrom (k + 1) _ r).length ≤ _
    omega
mutual
theorem shown_le : ∀ d : D, d.canLay0 = true → d.showable = true → d.shown.length ≤ wt d
  | .none, _, _ => by show (4 : Nat) ≤ 4; omega
  | .bool b, _, _ => by
    cases b
    · show (5 : Nat) ≤ 5; omega
    · show (4 : Nat) ≤ 5; omega
  | .int i, _, h => by
    have h' : i.natAbs.log2 < 1920 := by simpa [PyData.showable] using h
    show (PySem.Str.ofString (toString i)).length ≤ 1921
    rw [PySem.ofString_length]; exact PySem.int_text_length_le (k := 1920) (by decide) h'
  | .str x, _, _ => by simp [PyData.shown, wt]
  | .list xs, h1, h2 => by
    have q := shownAll_le xs (by simpa [PyData.canLay0] using h1) (by simpa [PyData.showable] using h2)
    have u := textFrom_up (PyData.shownAll xs) 0 "["
    simp only [PyData.shown, wt, listText]
    rw [strLen_append]
    have e1 : ("[" : Str).length = 1 := rfl
    have e2 : (("]" : String) : Str).length = 1 := rfl
    omega
  | .tuple xs, h1, h2 => by
    have q := shownAll_le xs (by simpa [PyData.canLay0] using h1) (by simpa [PyData.showable] using h2)
    simp only [PyData.shown, wt, tupleText]
    rw [strLen_append, strLen_append]
    have e1 : ("(" : Str).length = 1 := rfl
    have e3 : (((if (PyData.shownAll xs).length == 1 then ",)" else ")" : String) : Str)).length ≤ 2 := by split <;> decide
    have e4 : (Str.join ", " (PyData.shownAll xs)).length ≤ piled (PyData.shownAll xs) := by
      by_cases z : PyData.shownAll xs = []
      · rw [z]; exact Nat.le_refl _
      · have := join_length_add _ z; omega
    omega
  | .dict _, h, _ => by simp [PyData.canLay0] at h
theorem shownAll_le : ∀ xs : List D, PyData.canLayAll0 xs = true → PyData.showableAll xs = true → piled (PyData.shownAll xs) ≤ wtAll xs
  | [], _, _ => Nat.le_refl _
  | x :: xs, h1, h2 => by
    simp only [PyData.canLayAll0, PyData.showableAll, Bool.and_eq_true] at h1 h2
    have q1 := shown_le x h1.1 h2.1
    have q2 := shownAll_le xs h1.2 h2.2
    have p : piled (PyData.shownAll (x :: xs)) = x.shown.length + 2 + piled (PyData.shownAll xs) := by simp [piled, PyData.shownAll]
    rw [p]
    show _ ≤ wt x + 2 + wtAll xs
    omega
end
theorem sRepr_ok {d : D} (h1 : d.canLay0 = true) (h2 : d.showable = true) (h3 : wt d ≤ 16777216) (h4 : d.depth ≤ 100) : sRepr d = some (.str d.shown) := by
  have h := shown_le d h1 h2
  unfold sRepr
  rw [h1, h2, decide_eq_true (show d.shown.length ≤ sizeLine by rw [sizeLine_eq]; omega), decide_eq_true h4]
  rfl
/-! ### rows of ints -/
def dI (i : Int) : D := .int i
theorem lay_ints (xs : List Int) : PyData.canLayAll0 (xs.map .int) = true := by
  induction xs with
  | nil => rfl
  | cons x xs ih => simpa [PyData.canLayAll0, PyData.canLay0] using ih
theorem depth_ints (xs : List Int) : PyData.depthAll (xs.map .int) = 0 := by
  induction xs with
  | nil => rfl
  | cons x xs ih => simpa [PyData.depthAll, PyData.depth] using ih
def Sm (i : Int) : Prop := i.natAbs.log2 < 1920
theorem show_ints {xs : List Int} (h : ∀ x ∈ xs, Sm x) : PyData.showableAll (xs.map .int) = true := by
  induction xs with
  | nil => rfl
  | cons x xs ih =>
    have h1 : x.natAbs.log2 < 1920 := h x (by simp)
    simpa [PyData.showableAll, PyData.showable, h1] using ih fun y m => h y (List.mem_cons_of_mem _ m)
theorem wt_ints (xs : List Int) : wtAll (xs.map .int) = 1923 * xs.length := by
  induction xs with
  | nil => rfl
  | cons x xs ih =>
    show 1921 + 2 + wtAll (xs.map .int) = _
    rw [ih, List.length_cons]; omega
theorem sm_of {i : Int} {k : Nat} (hk : k < 1920) (h : i.natAbs < 2 ^ k) : Sm i := by
  unfold Sm
  by_cases z : i = 0
  · subst z; decide
  · have := (Nat.log2_lt (by omega)).mpr h
    omega
/-! ### comparisons -/
section
variable {i j : Int} {a b : Str} {xs ys : List D}
@[simp] theorem u_neS : sNe (.str a) (.str b) = some (.bool (!decide (a = b))) := Eq.trans rfl rfl
@[simp] theorem u_eqS : sEq (.str a) (.str b) = some (.bool (decide (a = b))) := Eq.trans rfl rfl
theorem shI (i : Int) : SeqAt.shaped (.int i) = true := rfl
@[simp] theorem u_neI : sNe (.int i) (.int j) = some (.bool (!decide (i = j))) := by
  show sNeD (.int i) (.int j) = _
  unfold sNeD
  rw [shI, shI]
  simp [PyData.eqv, Bool.beq_eq_decide_eq]
@[simp] theorem u_eqI : sEq (.int i) (.int j) = some (.bool (decide (i = j))) := by
  show sEqD (.int i) (.int j) = _
  unfold sEqD
  rw [shI, shI]
  simp [PyData.eqv, Bool.beq_eq_decide_eq]
end
end Q

set_option Elab.async false
set_option linter.all false
set_option maxRecDepth 100000
/-! QN: the pure layer is run: rows of ints. -/
namespace Q
open PySem PySem.Spec
section
variable {f h k : SE} {s t : SS} {ρ ρ' : Ev} {g g1 : G} {x : Fl} {s1 s2 : D → D → Option D} {d : D} {n i j : Nat} {lo : Int}
@[simp] theorem u_chain : eChain s1 s2 f h k ρ g = (mbnd (f ρ) fun d => mbnd (h ρ) fun e => mbnd (mlift (s1 d e)) fun t => match t with
  | .bool true => mbnd (k ρ) fun z => mlift (s2 e z)
  | .bool false => mret (.bool false)
  | _ => fun _ => none) g := Eq.trans rfl rfl
@[simp] theorem u_setL : sSetL n f h ρ g = match f ρ g with
  | some (d, g1) => (match h ρ g1 with
    | some (.int j, g2) => (match lstAt ρ n with
      | some ds => (match L2.ixN ds.length j with
        | some m => some (.nx (ρ.set n (some (.list (ds.set m d)))), g2)
        | none => none)
      | none => none)
    | _ => none)
  | none => none := by
  unfold sSetL mbnd
  cases f ρ g with
  | none => rfl
  | some p =>
    obtain ⟨d, g1⟩ := p
    simp only
    cases h ρ g1 with
    | none => rfl
    | some p =>
      obtain ⟨e, g2⟩ := p
      simp only
      cases lstAt ρ n with
      | none => cases e <;> rfl
      | some ds =>
        cases e with
        | int j =>
          simp only
          cases L2.ixN ds.length j <;> rfl
        | _ => rfl
@[simp] theorem u_ext : sExt n f ρ g = match f ρ g with
  | some (.list es, g1) => (match lstAt ρ n with
    | some ds => if ds.length + es.length ≤ sizeLine then some (.nx (ρ.set n (some (.list (ds ++ es)))), g1) else none
    | none => none)
  | _ => none := by
  unfold sExt mbnd
  cases f ρ g with
  | none => rfl
  | some p =>
    obtain ⟨d, g1⟩ := p
    simp only
    cases lstAt ρ n with
    | none => cases d <;> rfl
    | some ds =>
      cases d with
      | list es =>
        simp only [mguard, mret]
        by_cases q : ds.length + es.length ≤ sizeLine
        · simp only [q, decide_true, if_true]
        · simp only [q, decide_false, if_false]
      | _ => rfl
@[simp] theorem u_ixL {xs : List D} {i : Int} : sIx (.list xs) (.int i) = L2.atI xs i := Eq.trans rfl rfl
@[simp] theorem u_ixT {xs : List D} {i : Int} : sIx (.tuple xs) (.int i) = L2.atI xs i := Eq.trans rfl rfl
@[simp] theorem u_repr1 {d : D} : sRepr1 [d] = sRepr d := Eq.trans rfl rfl
theorem seq_go {P : Fl → G → Prop} (h1 : s ρ g = some (.nx ρ', g1)) (h2 : ∃ x g', t ρ' g1 = some (x, g') ∧ P x g') : ∃ x g', sSeq s t ρ g = some (x, g') ∧ P x g' := by
  obtain ⟨x, g', e, q⟩ := h2
  exact ⟨x, g', by rw [u_seq]; simp only [mbnd, h1]; exact e, q⟩
theorem rangeD_at (hd : (rangeD lo n)[i]? = some d) : i < n ∧ d = .int (lo + i) := by
  unfold rangeD at hd
  rw [List.getElem?_map] at hd
  by_cases h : i < n
  · rw [List.getElem?_range h] at hd; cases hd; exact ⟨h, rfl⟩
  · rw [List.getElem?_eq_none (by simp; omega)] at hd; cases hd
@[simp] theorem rangeD_len : (rangeD lo n).length = n := by simp [rangeD]
theorem inR_ok {i : Int} (h1 : -(2 ^ 62) < i) (h2 : i < 2 ^ 62) : inR i = true := decide_eq_true (show i.natAbs < 2 ^ 62 by omega)
theorem inR_n {n : Nat} (h : n < 1000000) : inR (n : Int) = true := inR_ok (by omega) (by omega)
def iL (xs : List Int) : D := .list (xs.map .int)
def iT (xs : List Int) : D := .tuple (xs.map .int)
@[simp] theorem u_sum {xs : List Int} : sSum [.list (xs.map .int)] = some (.int xs.sum) := by
  show (intsD (xs.map .int)).map _ = _
  rw [intsD_map]; rfl
theorem atI_ints {xs : List Int} {x : Int} (h : xs[j]? = some x) : L2.atI (xs.map PyData.int) (j : Int) = some (.int x) := L2.atI_nat (by rw [List.getElem?_map, h]; rfl)
theorem atI_D {xs : List D} {x : D} (h : xs[j]? = some x) : L2.atI xs (j : Int) = some x := L2.atI_nat h
theorem range_at {α : Type} {f : Nat → α} (h : j < n) : ((List.range n).map f)[j]? = some (f j) := by
  rw [List.getElem?_map, List.getElem?_range h]; rfl
def sumN (n : Nat) (f : Nat → Int) : Int := ((List.range n).map f).sum
theorem sumN_zero {f : Nat → Int} : sumN 0 f = 0 := rfl
theorem sumN_succ {f : Nat → Int} : sumN (n + 1) f = sumN n f + f n := by
  unfold sumN
  rw [List.range_succ, List.map_append, List.sum_append]; simp
theorem sumN_congr {f g : Nat → Int} : ∀ {n : Nat}, (∀ i, i < n → f i = g i) → sumN n f = sumN n g
  | 0, _ => rfl
  | n + 1, h => by rw [sumN_succ, sumN_succ, sumN_congr fun i hi => h i (by omega), h n (by omega)]
theorem sumN_add {f g : Nat → Int} : ∀ n : Nat, sumN n (fun i => f i + g i) = sumN n f + sumN n g
  | 0 => rfl
  | n + 1 => by rw [sumN_succ, sumN_succ, sumN_succ, sumN_add n]; omega
theorem sumN_mul {f : Nat → Int} (c : Int) : ∀ n : Nat, sumN n (fun i => c * f i) = c * sumN n f
  | 0 => by simp [sumN]
  | n + 1 => by rw [sumN_succ, sumN_succ, sumN_mul c n, Int.mul_add]
theorem sumN_shift {f : Nat → Int} : ∀ n : Nat, sumN (n + 1) f = f 0 + sumN n (fun i => f (i + 1))
  | 0 => by simp [sumN, List.range_succ]
  | n + 1 => by rw [sumN_succ, sumN_shift n, sumN_succ]; omega
end
end Q

set_option Elab.async false
set_option linter.all false
set_option maxRecDepth 100000
/-! QO: the pure layer: numbers given in the order of the first meeting. -/
namespace Q
open PySem PySem.Spec PyProof.Rows L2
/-- the labels met, in their order -/
def metOf (ls : List Int) : List Int := ls.foldl (fun m l => if l ∈ m then m else m ++ [l]) []
def placeOf : List Int → Int → Nat
  | [], _ => 0
  | x :: r, l => if x = l then 0 else placeOf r l + 1
def partOf (ls : List Int) : List Int := ls.map fun l => (placeOf (metOf ls) l : Int)
theorem metOf_len (ls : List Int) : (metOf ls).length ≤ ls.length := by
  have key : ∀ (ls m : List Int), (ls.foldl (fun m l => if l ∈ m then m else m ++ [l]) m).length ≤ m.length + ls.length := fun ls => by
    induction ls with
    | nil => intro m; exact Nat.le_refl _
    | cons a ls ih =>
      intro m
      have := ih (if a ∈ m then m else m ++ [a])
      show (ls.foldl _ (if a ∈ m then m else m ++ [a])).length ≤ _
      have h2 : (if a ∈ m then m else m ++ [a]).length ≤ m.length + 1 := by split <;> simp
      rw [List.length_cons]; omega
  have := key ls []
  simpa [metOf] using this
theorem metOf_snoc (ls : List Int) (l : Int) : metOf (ls ++ [l]) = if l ∈ metOf ls then metOf ls else metOf ls ++ [l] := by
  unfold metOf
  rw [List.foldl_append]; rfl
theorem placeOf_len {l : Int} : ∀ {m : List Int}, l ∉ m → placeOf m l = m.length
  | [], _ => rfl
  | x :: r, h => by
    simp only [List.mem_cons, not_or] at h
    unfold placeOf
    rw [if_neg (fun e => h.1 e.symm), placeOf_len h.2]; rfl
theorem placeOf_app {l : Int} {m' : List Int} : ∀ {m : List Int}, l ∈ m → placeOf (m ++ m') l = placeOf m l
  | x :: r, h => by
    show (if x = l then 0 else placeOf (r ++ m') l + 1) = if x = l then 0 else placeOf r l + 1
    by_cases e : x = l
    · rw [if_pos e, if_pos e]
    · rw [if_neg e, if_neg e]
      rcases List.mem_cons.mp h with h | h
      · exact absurd h.symm e
      · rw [placeOf_app h]
theorem metOf_grows (ls ms : List Int) : ∃ r, metOf (ls ++ ms) = metOf ls ++ r := by
  induction ms generalizing ls with
  | nil => exact ⟨[], by simp⟩
  | cons a ms ih =>
    obtain ⟨r, hr⟩ := ih (ls ++ [a])
    rw [List.append_assoc] at hr
    have hr' : metOf (ls ++ a :: ms) = metOf (ls ++ [a]) ++ r := hr
    rw [hr', metOf_snoc]
    by_cases h : a ∈ metOf ls
    · rw [if_pos h]; exact ⟨r, rfl⟩
    · rw [if_neg h]; exact ⟨[a] ++ r, by rw [List.append_assoc]⟩
theorem mem_metOf {ls : List Int} {l : Int} (h : l ∈ ls) : l ∈ metOf ls := by
  obtain ⟨a, b, rfl⟩ := List.append_of_mem h
  obtain ⟨r, hr⟩ := metOf_grows (a ++ [l]) b
  have e : a ++ l :: b = a ++ [l] ++ b := by simp
  rw [e, hr, metOf_snoc]
  by_cases q : l ∈ metOf a
  · rw [if_pos q]; simp [q]
  · rw [if_neg q]; simp
theorem part_place {ls ms : List Int} {l : Int} : placeOf (metOf (ls ++ l :: ms)) l = if l ∈ metOf ls then placeOf (metOf ls) l else (metOf ls).length := by
  obtain ⟨r, hr⟩ := metOf_grows (ls ++ [l]) ms
  have e : ls ++ l :: ms = ls ++ [l] ++ ms := by simp
  rw [e, hr, metOf_snoc]
  by_cases q : l ∈ metOf ls
  · rw [if_pos q, if_pos q, placeOf_app q]
  · rw [if_neg q, if_neg q, placeOf_app (by simp), ]
    have : placeOf (metOf ls ++ [l]) l = (metOf ls).length := by
      have : ∀ m : List Int, l ∉ m → placeOf (m ++ [l]) l = m.length := fun m => by
        induction m with
        | nil => intro _; show (if l = l then 0 else _) = 0; rw [if_pos rfl]
        | cons x m ih =>
          intro h
          simp only [List.mem_cons, not_or] at h
          show (if x = l then 0 else placeOf (m ++ [l]) l + 1) = _
          rw [if_neg (fun e => h.1 e.symm), ih h.2]; rfl
      exact this _ q
    exact this
/-! ### the dict of the numbers -/
def kvsOf (m : List Int) : List (Key × V) := m.zipIdx.map fun p => ((.inl p.1 : Key), V.int (p.2 : Nat))
theorem kvsOf_len (m : List Int) : (kvsOf m).length = m.length := by simp [kvsOf]
theorem kvsOf_snoc (m : List Int) (l : Int) : kvsOf (m ++ [l]) = kvsOf m ++ [(.inl l, .int (m.length : Nat))] := by
  unfold kvsOf
  rw [List.zipIdx_append, List.map_append]; simp
theorem valV_kvs (m : List Int) (l : Int) : valV (kvsOf m) (.inl l) = if l ∈ m then some (.int (placeOf m l : Nat)) else none := by
  have key : ∀ (m : List Int) (k : Nat), valV ((m.zipIdx k).map fun p => ((.inl p.1 : Key), V.int (p.2 : Nat))) (.inl l) = if l ∈ m then some (.int (k + placeOf m l : Nat)) else none := fun m => by
    induction m with
    | nil => intro k; rfl
    | cons x r ih =>
      intro k
      rw [List.zipIdx_cons, List.map_cons]
      by_cases e : x = l
      · rw [valV_pos (by rw [e]), if_pos (by simp [e])]
        show some (V.int (k : Nat)) = some (V.int (k + (if x = l then 0 else _) : Nat))
        rw [if_pos e]; rfl
      · rw [valV_neg (fun z => e (Sum.inl.inj z)), ih (k + 1)]
        by_cases q : l ∈ r
        · rw [if_pos q, if_pos (List.mem_cons_of_mem _ q)]
          show _ = some (V.int (k + (if x = l then 0 else placeOf r l + 1) : Nat))
          rw [if_neg e]
          congr 2
          omega
        · rw [if_neg q, if_neg (by simp only [List.mem_cons, not_or]; exact ⟨fun z => e z.symm, q⟩)]
  have := key m 0
  rw [Nat.zero_add] at this
  exact this
def sPart : List D → Option D
  | [d] => match seqD d with
    | some ds => match intsD ds with
      | some ls => if ls.length ≤ 1000 then some (iT (partOf ls)) else none
      | none => none
    | none => none
  | _ => none
theorem sPart_some {ds : List D} {r : D} (h : sPart ds = some r) : ∃ d ls, ds = [d] ∧ seqD d = some (ls.map .int) ∧ ls.length ≤ 1000 ∧ r = iT (partOf ls) := by
  cases ds with
  | nil => cases h
  | cons d rs =>
    cases rs with
    | cons e es => cases h
    | nil =>
      have h' : (match seqD d with
        | some ds => match intsD ds with
          | some ls => if ls.length ≤ 1000 then some (iT (partOf ls)) else none
          | none => none
        | none => none) = some r := h
      cases e1 : seqD d with
      | none => rw [e1] at h'; cases h'
      | some es =>
        rw [e1] at h'
        cases e2 : intsD es with
        | none => simp only [e2] at h'; cases h'
        | some ls =>
          simp only [e2] at h'
          by_cases q : ls.length ≤ 1000
          · rw [if_pos q] at h'
            cases h'
            exact ⟨d, ls, rfl, by rw [intsD_some e2] at e1; exact e1, q, rfl⟩
          · rw [if_neg q] at h'; cases h'
section
variable {K : PySem.W.Frag} {F : Fz} {H : Hp}
/-- a frozen row is read -/
theorem Rep.seq {v : V} {d : D} {ds : List D} (r : Rep K F H v d) (e : seqD d = some ds) : ∃ a xs, v = .ref a ∧ (SqL K H a xs ∨ SqT K H a xs) ∧ RepAll K F H xs ds := by
  cases r with
  | tup h q => cases e; exact ⟨_, _, rfl, .inr h.sq, q⟩
  | lst f h q => cases e; exact ⟨_, _, rfl, .inl (.of h), q⟩
  | _ => cases e
theorem RepAll.ints2 : ∀ {xs : List V} {ls : List Int}, RepAll K F H xs (ls.map .int) → xs = ls.map V.int
  | [], [], _ => rfl
  | x :: xs, l :: ls, h => by
    cases h with
    | cons a b => cases a; rw [RepAll.ints2 b]; rfl
theorem SqT.keep {H H' : Hp} (h : KeepH H H') {a : Addr} {xs : List V} (s : SqT K H a xs) : SqT K H' a xs := s.imp (fun r => r.imp (h _ _) fun ⟨o, e⟩ => ⟨o, h _ _ e⟩) id
end
/-! ### the def -/
def lenDT (t : TE) : TE := tCB (fun xs H Q => ∃ a kvs, xs = [V.ref a] ∧ H a = some (.dK kvs) ∧ Q (.int kvs.length) H) (tCons t tNil)
def tSq (K : PySem.W.Frag) (tl : TE) : TI := fun σ H R => tl σ H fun x H1 => ∃ a, x = .ref a ∧ ((∃ xs, SqL K H1 a xs ∧ R (Itl K a) H1) ∨ ∃ xs, SqT K H1 a xs ∧ R (Itt K a) H1)
def rTup (K : PySem.W.Frag) : List V → Hp → VK → Prop := fun xs H Q => ∃ p ys, xs = [.ref p] ∧ ((SqL K H p ys ∧ ∀ l, H l = none → Q (.ref l) (upd H l (.tup ys))) ∨ (SqT K H p ys ∧ Q (.ref p) H))
def tPart (K : PySem.W.Frag) : TS := tSeq (tAsg tDNewK (gName 1)) (tRet (tCB (rTup K) (tCons (tLc (tSq K (tVar 0)) (gName 2) tYes (tDSetd (tVar 1) (tVar 2) (lenDT (tVar 1))) [2]) tNil)))
section
variable {K : PySem.W.Frag} {F : Fz} {H : Hp} {v : V} {d : D} {ls : List Int} {R : VK} {nx : L2.St → Hp → Prop}
theorem rd_part (r : Rep K F H v d) (e : seqD d = some (ls.map .int)) (hl : ls.length ≤ 1000) (q : ∀ x H', KeepH H H' → (∃ p, x = .ref p ∧ H' p = some (.tup ((partOf ls).map V.int))) → R x H') : tPart K { nx := nx, rt := R } [some v, none, none] H := by
  obtain ⟨a, xs, rfl, hs, ra⟩ := r.seq e
  have ex := ra.ints2
  subst ex
  intro p hp
  have k1 : KeepH H (upd H p (.dK [])) := fun b o z => by rw [upd_ne (ne_of_none z hp)]; exact z
  -- the walk, over lists and over tuples alike
  have walk : ∀ (J : It), (∀ i H', KeepH H H' → i < ls.length → J.go i H') → (∀ H', KeepH H H' → J.stop ls.length H') → (∀ i x H1 H2, KeepH H H1 → J.yld i H1 x H2 → H2 = H1 ∧ (ls.map V.int)[i]? = some x) →
      ∀ Dd, (upd H p (.dK [])) Dd = none → ∃ W : Nat → Nat → Hp → Prop, (∃ m, W 0 m (upd (upd H p (.dK [])) Dd (.lst []))) ∧ ∀ i m H', W i m H' →
        (J.stop i H' ∧ (∃ p ys, [V.ref Dd] = [.ref p] ∧ ((SqL K H' p ys ∧ ∀ l, H' l = none → R (.ref l) (upd H' l (.tup ys))) ∨ (SqT K H' p ys ∧ R (.ref p) H')))) ∨
        (J.go i H' ∧ ∃ Nx : Hp → Prop, (∀ H'', Nx H'' → ∃ m', m' < m ∧ W (i + 1) m' H'') ∧ ∀ x H'', J.yld i H' x H'' → gName 2 x (L2.wipe [some (.ref a), some (.ref p), none] [2]) H'' fun σ2 H2 => L2.wipe σ2 [2] = L2.wipe [some (.ref a), some (.ref p), none] [2] ∧ tYes σ2 H2 fun b H3 =>
          if b = true then tDSetd (tVar 1) (tVar 2) (lenDT (tVar 1)) σ2 H3 fun y H4 => ∃ acc, H4 Dd = some (.lst acc) ∧ acc.length < sizeLine ∧ Nx (upd H4 Dd (.lst (acc ++ [y]))) else Nx H3) := by
    intro J jgo jstop jyld Dd hD
    have hpD : p ≠ Dd := fun z => by rw [← z, upd_same] at hD; cases hD
    have hD0 : H Dd = none := by rw [upd_ne hpD.symm] at hD; exact hD
    refine ⟨fun i m H' => m = ls.length - i ∧ i ≤ ls.length ∧ KeepH H H' ∧ H' p = some (.dK (kvsOf (metOf (ls.take i)))) ∧ H' Dd = some (.lst (((partOf ls).take i).map V.int)), ⟨_, rfl, Nat.zero_le _, fun b o z => ?_, ?_, ?_⟩, fun i m H' hW => ?_⟩
    · rw [upd_ne (ne_of_none z hD0)]; exact k1 b o z
    · rw [upd_ne hpD, upd_same]; rfl
    · rw [upd_same]; rfl
    obtain ⟨rfl, hi, kp, hd1, hd2⟩ := hW
    by_cases hlt : i < ls.length
    · refine .inr ⟨jgo i H' kp hlt, fun H'' => KeepH H H'' ∧ H'' p = some (.dK (kvsOf (metOf (ls.take (i + 1))))) ∧ H'' Dd = some (.lst (((partOf ls).take (i + 1)).map V.int)), fun H'' ⟨z1, z2, z3⟩ => ⟨ls.length - (i + 1), by omega, rfl, hlt, z1, z2, z3⟩, fun x H'' hy => ?_⟩
      obtain ⟨rfl, hx⟩ := jyld i x H' H'' kp hy
      have gx : ls[i]? = some ls[i] := List.getElem?_eq_getElem hlt
      rw [List.getElem?_map, gx] at hx
      cases hx
      generalize hgl : ls[i] = l at gx ⊢
      have tk : ls.take (i + 1) = ls.take i ++ [l] := by rw [List.take_succ, gx]; rfl
      have sp : ls = ls.take i ++ l :: ls.drop (i + 1) := by
        rw [← hgl, ← List.drop_eq_getElem_cons hlt, List.take_append_drop]
      have pl : placeOf (metOf ls) l = if l ∈ metOf (ls.take i) then placeOf (metOf (ls.take i)) l else (metOf (ls.take i)).length := by
        have z := part_place (ls := ls.take i) (ms := ls.drop (i + 1)) (l := l)
        rw [← sp] at z
        exact z
      have tkp : (partOf ls).take (i + 1) = (partOf ls).take i ++ [((placeOf (metOf ls) l : Nat) : Int)] := by
        rw [List.take_succ]
        unfold partOf
        rw [List.getElem?_map, gx]; rfl
      have hmet : (metOf (ls.take i)).length ≤ 1000 := by
        have := metOf_len (ls.take i)
        rw [List.length_take] at this
        omega
      refine ⟨rfl, iteT (B := True) ⟨.ref p, rfl, p, rfl, .inl ⟨_, .inl hd1⟩, .int l, rfl, .ref p, rfl, p, _, rfl, hd1, kvsOf (metOf (ls.take i)), .inl l, hd1, rfl, by rw [kvsOf_len]; exact small1000 hmet, fun w hw => ?_, fun hn => ?_⟩⟩
      · rw [valV_kvs] at hw
        by_cases q : l ∈ metOf (ls.take i)
        · rw [if_pos q] at hw pl
          cases hw
          refine ⟨_, hd2, ?_, fun b o z => ?_, ?_, ?_⟩
          · rw [List.length_map, List.length_take]; exact Nat.lt_of_le_of_lt (Nat.min_le_left _ _) (Nat.lt_of_le_of_lt (Nat.le_trans hi hl) (by decide))
          · rw [upd_ne (ne_of_none z hD0)]; exact kp b o z
          · rw [upd_ne hpD, hd1, tk, metOf_snoc, if_pos q]
          · rw [upd_same, tkp, pl, List.map_append]; rfl
        · rw [if_neg q] at hw; cases hw
      · rw [valV_kvs] at hn
        by_cases q : l ∈ metOf (ls.take i)
        · rw [if_pos q] at hn; cases hn
        · rw [if_neg q] at pl
          refine ⟨_, by rw [upd_ne hpD.symm]; exact hd2, ?_, fun b o z => ?_, ?_, ?_⟩
          · rw [List.length_map, List.length_take]; exact Nat.lt_of_le_of_lt (Nat.min_le_left _ _) (Nat.lt_of_le_of_lt (Nat.le_trans hi hl) (by decide))
          · rw [upd_ne (ne_of_none z hD0), upd_ne (ne_of_none z hp)]; exact kp b o z
          · have nn : valV (kvsOf (metOf (ls.take i))) (.inl l) = none := by rw [valV_kvs, if_neg q]
            rw [upd_ne hpD, upd_same, putK_new _ nn, tk, metOf_snoc, if_neg q, kvsOf_snoc, kvsOf_len]
          · rw [upd_same, tkp, pl, List.map_append, kvsOf_len]; rfl
    · have e : i = ls.length := by omega
      subst e
      have full : (partOf ls).take ls.length = partOf ls := List.take_of_length_le (by simp [partOf])
      rw [full] at hd2
      refine .inl ⟨jstop H' kp, Dd, _, rfl, .inl ⟨.inl (.inl hd2), fun l hl => q _ _ (fun b o z => ?_) ⟨l, rfl, upd_same⟩⟩⟩
      rw [upd_ne (ne_of_none (kp b o z) hl)]; exact kp b o z
  refine ⟨.ref a, rfl, a, rfl, ?_⟩
  rcases hs with hs | hs
  · refine .inl ⟨_, SqL.keep k1 hs, walk (Itl K a) (fun i H' kp hi => ⟨_, _, SqL.keep kp hs, by rw [List.getElem?_map, List.getElem?_eq_getElem hi]; rfl⟩) (fun H' kp => ⟨_, SqL.keep kp hs, by simp⟩) fun i x H1 H2 kp ⟨e1, e2⟩ => ⟨e1, e2 _ (SqL.keep kp hs)⟩⟩
  · refine .inr ⟨_, SqT.keep k1 hs, walk (Itt K a) (fun i H' kp hi => ⟨_, _, SqT.keep kp hs, by rw [List.getElem?_map, List.getElem?_eq_getElem hi]; rfl⟩) (fun H' kp => ⟨_, SqT.keep kp hs, by simp⟩) fun i x H1 H2 kp ⟨e1, e2⟩ => ⟨e1, e2 _ (SqT.keep kp hs)⟩⟩
end
section
variable {P : Program} {w : World} {K : PySem.W.Frag} {mg : Str → Option Value} {base : Heap} {kk : Nat} {f : Addr} {fd : FuncData} {x qual y : Str} {st : Stmt} {N : List Str}
/-- parting_of -/
theorem fn_part (Fn : Fun K x qual st f fd) (S : FnScope N [y] (defScope st)) (hN : N.length = 3)
    (hbody : ∀ (cdv : Value) (A : Around) (outer : List PySem.Env) (s : Shared) (H : Hp) (E : XK), Room kk (A.deeper (envOfC qual (defScope st) s.heap.objs.size f cdv)) → A.guards = some [] →
      PSs (cxOf CX0 P w K mg base N qual (defScope st) f cdv A outer s H E).nox (defBody st) (tPart K)) : GOk P w K mg base CX0 (kk + 1) f fd [y] (spP K 1 sPart) :=
  gok_of Fn S (fun vs H R E ⟨F, ds, r, _, _, l, _⟩ => l) fun cdv A outer s H vs R E hr hgd ⟨F, ds, r, rep, dom, l, hs, q⟩ => by
    obtain ⟨d, ls, rfl, h1, h2, rfl⟩ := sPart_some hs
    obtain ⟨v, rfl, rv⟩ : ∃ v, vs = [v] ∧ Rep K F H v d := by
      cases rep with
      | cons a b => cases b; exact ⟨_, rfl, a⟩
    refine ⟨_, (hbody cdv A outer s H E hr hgd).nox, ?_⟩
    have e : L2.start N [v] = [some v, none, none] := by
      unfold L2.start
      rw [show N.length - [v].length = 2 by rw [hN]; rfl]; rfl
    rw [e]
    refine rd_part rv h1 h2 fun x' H' kp ⟨p, ep, hp⟩ => ?_
    subst ep
    have stay : Stay F H F H' := ⟨fun _ z => z, fun a o _ z => kp a o z, fun a xs z => kp _ _ z⟩
    refine q _ H' F stay (fun a o z => kp a o z) (fun a z => .inl z) (fun a z z2 => ?_) (.tup hp (RepAll.of_map (f := V.int) (g := PyData.int) (fun i => .int i) _))
    cases c : H a with
    | none => exact dom a z c
    | some o => rw [kp a o c] at z2; cases z2
end
end Q

set_option Elab.async false
set_option linter.all false
set_option maxRecDepth 100000
/-! QP: the pure layer: more words. -/
namespace Q
open PySem PySem.Spec PyProof.Rows L2
section
variable {X : Cx} {B : Bs} {ss : Option Nat} {O O1 O2 O3 : List Nat} {a b c e o : Expr} {es : List Expr} {f h : SE} {fs : SL} {pos p apos : Pos} {n : Nat}
/-! ### in a tuple -/
def sInT (d e : D) : Option D := match e with
  | .tuple ds => if SeqAt.shaped d && SeqAt.shaped (.tuple ds) then some (.bool (ds.any fun z => PyData.eqv z d)) else none
  | _ => none
def sNiT (d e : D) : Option D := match e with
  | .tuple ds => if SeqAt.shaped d && SeqAt.shaped (.tuple ds) then some (.bool (!ds.any fun z => PyData.eqv z d)) else none
  | _ => none
theorem shaped_room {d : D} {ds : List D} {A : Around} (hs : SeqAt.shaped (.tuple ds) = true) (hd : SeqAt.shaped d = true) (hu : A.units + 65 < cLine) : A.units + 1 + min (PyData.depthAll ds) d.depth < cLine := by
  have h1 := SeqAt.depth_of_shaped hd
  have h2 : min (PyData.depthAll ds) d.depth ≤ d.depth := Nat.min_le_right _ _
  omega
theorem op_inTup (hu : X.A.units + 65 < cLine) : OpR X (compareOp .In) (fun x y H Q => ∃ d ds, Dp X.K H x d ∧ Dp X.K H y (.tuple ds) ∧ SeqAt.shaped d = true ∧ SeqAt.shaped (.tuple ds) = true ∧ Q (.bl (ds.any fun z => PyData.eqv z d)) H) := by
  intro pins s σ H x y v u Q I rx ry h
  obtain ⟨d, ds, hd, he, sd, se, q⟩ := h
  obtain ⟨as, r1⟩ := Dp.reads I d x v hd rx
  obtain ⟨bs, r2⟩ := Dp.reads I (.tuple ds) y u he ry
  have hc : PyData.canLayAll0 ds = true := by simpa [PyData.canLay0] using SeqAt.canLay_of_shaped se
  exact SeqAt.in_tuple_reads r2 r1 hc (SeqAt.canLay_of_shaped sd) (shaped_room se sd hu) ⟨.bl _, H, I, rfl, q⟩
theorem op_niTup (hu : X.A.units + 65 < cLine) : OpR X (compareOp .NotIn) (fun x y H Q => ∃ d ds, Dp X.K H x d ∧ Dp X.K H y (.tuple ds) ∧ SeqAt.shaped d = true ∧ SeqAt.shaped (.tuple ds) = true ∧ Q (.bl (!ds.any fun z => PyData.eqv z d)) H) := by
  intro pins s σ H x y v u Q I rx ry h
  obtain ⟨d, ds, hd, he, sd, se, q⟩ := h
  obtain ⟨as, r1⟩ := Dp.reads I d x v hd rx
  obtain ⟨bs, r2⟩ := Dp.reads I (.tuple ds) y u he ry
  have hc : PyData.canLayAll0 ds = true := by simpa [PyData.canLay0] using SeqAt.canLay_of_shaped se
  exact SeqAt.notIn_tuple_reads r2 r1 hc (SeqAt.canLay_of_shaped sd) (shaped_room se sd hu) ⟨.bl _, H, I, rfl, q⟩
theorem o_inT (hu : X.A.units + 65 < cLine) : OpS X B (compareOp .In) sInT := ⟨_, op_inTup hu, fun ss O F H σ ρ g x y d e c R I rx ry hc q => by
  unfold sInT at hc
  split at hc
  · split at hc
    · rename_i hs
      cases hc
      rw [Bool.and_eq_true] at hs
      exact ⟨d, _, rx.dp (SeqAt.canLay_of_shaped hs.1), ry.dp (SeqAt.canLay_of_shaped hs.2), hs.1, hs.2, I.fin q rfl (.bl _)⟩
    · cases hc
  · cases hc⟩
theorem o_niT (hu : X.A.units + 65 < cLine) : OpS X B (compareOp .NotIn) sNiT := ⟨_, op_niTup hu, fun ss O F H σ ρ g x y d e c R I rx ry hc q => by
  unfold sNiT at hc
  split at hc
  · split at hc
    · rename_i hs
      cases hc
      rw [Bool.and_eq_true] at hs
      exact ⟨d, _, rx.dp (SeqAt.canLay_of_shaped hs.1), ry.dp (SeqAt.canLay_of_shaped hs.2), hs.1, hs.2, I.fin q rfl (.bl _)⟩
    · cases hc
  · cases hc⟩
/-- in, not in: lists and tuples -/
def sIn (d e : D) : Option D := match e with
  | .tuple _ => sInT d e
  | _ => sInL d e
def sNi (d e : D) : Option D := match e with
  | .tuple _ => sNiT d e
  | _ => sNiL d e
theorem o_in (hu : X.A.units + 65 < cLine) : OpS X B (compareOp .In) sIn := OpS.join (o_inT hu) (o_inL hu) fun d e c h => by
  unfold sIn at h
  split at h
  · exact .inl h
  · exact .inr h
theorem o_ni (hu : X.A.units + 65 < cLine) : OpS X B (compareOp .NotIn) sNi := OpS.join (o_niT hu) (o_niL hu) fun d e c h => by
  unfold sNi at h
  split at h
  · exact .inl h
  · exact .inr h
/-! ### list.index -/
def findD (d : D) : List D → Option Nat
  | [] => none
  | z :: r => if PyData.eqv z d then some 0 else (findD d r).map (· + 1)
theorem findD_some {d : D} : ∀ {ds : List D} {j : Nat}, findD d ds = some j → (∃ z, ds[j]? = some z ∧ PyData.eqv z d = true) ∧ ∀ (m : Nat) (z' : D), m < j → ds[m]? = some z' → PyData.eqv z' d = false
  | z :: r, j, hj => by
    unfold findD at hj
    split at hj
    · rename_i h
      cases hj
      exact ⟨⟨z, rfl, h⟩, fun m z' hm => by omega⟩
    · rename_i h
      cases q : findD d r with
      | none => rw [q] at hj; cases hj
      | some k =>
        rw [q] at hj
        cases hj
        obtain ⟨⟨w, h1, h2⟩, h3⟩ := findD_some q
        refine ⟨⟨w, by simpa using h1, h2⟩, fun m z' hm hz => ?_⟩
        cases m with
        | zero =>
          have : z = z' := by simpa using hz
          subst this
          exact Bool.not_eq_true _ |>.mp h
        | succ m => exact h3 m z' (Nat.lt_of_succ_lt_succ hm) (by simpa using hz)
def sIdx (d e : D) : Option D := match d with
  | .list ds => if SeqAt.shaped (.list ds) && SeqAt.shaped e then (findD e ds).map fun j => .int (j : Nat) else none
  | _ => none
/-- o.index(e), o a list -/
theorem q_idx (hu : X.A.units + 65 < cLine) (ho : PE X o (tE X.K B ss O O1 .bw f)) (he : PE X e (tE X.K B ss O1 O2 .bw h))
    (hbase : attributeBase o "index" X.env (eval o X.env) = eval o X.env := by rfl)
    (hfew : ((backTo pos (starEach [e] X.env)).all (fun x => !x.1) && (backToKw pos (keywordEach [] X.env)).all (fun x => x.1.isSome) && decide (([e] : List Expr).length + ([] : List Keyword).length + (if ([] : List Keyword).isEmpty then 0 else 1) < 30)) = true := by rfl)
    (hline : (apos.endLine == pos.line) = true := by rfl) (hs : starEach [e] X.env = (false, eval e X.env) :: starEach [] X.env := by rfl) (hplain : (backTo pos (starEach [] X.env)).any (·.1) = false := by rfl) :
    PE X (.Call (.Attribute o "index" apos) [e] [] pos) (tE X.K B ss O O2 .fr (eOp sIdx f h)) :=
  pe_imp (pe_bm PySem.F.plainAttrs_list PySem.F.slot_list_index PySem.F.type_list_index (mt_indexD hu) ho (pa_cons he pa_nil hs) hbase hfew hline hs hplain) fun σ H R ⟨F, ρ, g, d, g', I, ef, q⟩ => by
  obtain ⟨z, g1, e1, e2⟩ := mbnd_some ef
  obtain ⟨y, g2, e3, e4⟩ := mbnd_some e2
  obtain ⟨e5, rfl⟩ := mlift_some e4
  refine ⟨F, ρ, g, z, g1, I, e1, fun x' H1 F1 I1 E1 r1 => ?_⟩
  unfold sIdx at e5
  split at e5
  · rename_i ds
    split at e5
    · rename_i hs2
      rw [Bool.and_eq_true] at hs2
      cases hj : findD y ds with
      | none => rw [hj] at e5; cases e5
      | some j =>
        rw [hj] at e5
        cases e5
        obtain ⟨⟨w, w1, w2⟩, w3⟩ := findD_some hj
        have r1' : BR X.K B F1 H1 x' (.list ds) := r1
        obtain ⟨l, xs, rfl, hl, rr⟩ := r1'.list
        refine ⟨.inl ⟨rfl, xs, .of hl⟩, F1, ρ, g1, y, g', I1, e3, fun y' H2 F2 I2 E2 r2 => ?_⟩
        have r1'' : BR X.K B F2 H2 (.ref l) (.list ds) := BR.mono E2 r1'
        have r2' : BR X.K B F2 H2 y' y := r2
        exact ⟨l, y', y, ds, j, w, rfl, rfl, r1''.dp (SeqAt.canLay_of_shaped hs2.1), r2'.dp (SeqAt.canLay_of_shaped hs2.2), hs2.1, hs2.2, w1, w2, w3, I2.fin (fun x' H' F' I' E' r' => q x' H' F' I' (E1.trans (E2.trans E')) r') rfl (.int _)⟩
    · cases e5
  · cases e5
/-! ### stars in displays -/
def tFS (K : PySem.W.Frag) (B : Bs) (ss : Option Nat) (O O' : List Nat) (f : SL) : TA := fun σ H R => ∃ F ρ g ds g', SInv K B ss O F H σ ρ g ∧ f ρ g = some (ds, g') ∧ ∀ xs H' F', SInv K B ss O' F' H' σ ρ g' → Ext B.src F H F' H' → RepAll K F' H' xs ds → R xs H'
def sStar (f : SE) (fs : SL) : SL := fun ρ => mbnd (f ρ) fun d => mbnd (mlift (seqD d)) fun xs => mbnd (fs ρ) fun ds => mret (xs ++ ds)
theorem q_snilS : PA X [] (tFS X.K B ss O O sNil) := pa_imp pa_nil fun σ H R ⟨F, ρ, g, ds, g', I, ef, q⟩ => by
  cases ef; exact q [] H F I .refl .nil
theorem q_sconsS (ha : PE X e (tE X.K B ss O O1 .fz f)) (hr : PA X es (tFS X.K B ss O1 O2 fs)) (hs : starEach (e :: es) X.env = (false, eval e X.env) :: starEach es X.env := by rfl) : PA X (e :: es) (tFS X.K B ss O O2 (sCons f fs)) :=
  pa_imp (pa_cons ha hr hs) fun σ H R ⟨F, ρ, g, ds, g', I, ef, q⟩ => by
  obtain ⟨d, g1, e1, e2⟩ := mbnd_some ef
  obtain ⟨es2, g2, e3, e4⟩ := mbnd_some e2
  cases e4
  exact ⟨F, ρ, g, d, g1, I, e1, fun x' H' F' I' E' r => ⟨F', ρ, g1, es2, _, I', e3, fun xs H2 F2 I2 E2 r2 => q _ H2 F2 I2 (E'.trans E2) (.cons (Rep.mono E2.stay r) r2)⟩⟩
theorem q_sstar (ha : PE X e (tE X.K B ss O O1 .fz f)) (hr : PA X es (tFS X.K B ss O1 O2 fs)) (hs : starEach (.Starred e p :: es) X.env = (true, eval e X.env) :: starEach es X.env := by rfl) : PA X (.Starred e p :: es) (tFS X.K B ss O O2 (sStar f fs)) :=
  pa_imp (StX.pa_star ha hr hs) fun σ H R ⟨F, ρ, g, ds, g', I, ef, q⟩ => by
  obtain ⟨d, g1, e1, e2⟩ := mbnd_some ef
  obtain ⟨xs, g2, e3, e4⟩ := mbnd_some e2
  obtain ⟨e5, rfl⟩ := mlift_some e3
  obtain ⟨es2, g3, e6, e7⟩ := mbnd_some e4
  cases e7
  refine ⟨F, ρ, g, d, _, I, e1, fun x' H' F' I' E' r => ?_⟩
  obtain ⟨a, ys, rfl, hq, rr⟩ := Rep.seq r e5
  exact ⟨a, ys, rfl, hq.symm, F', ρ, _, es2, _, I', e6, fun zs H2 F2 I2 E2 r2 => q _ H2 F2 I2 (E'.trans E2) ((RepAll.mono E2.stay rr).append r2)⟩
def eTupS (fs : SL) : SE := fun ρ => mbnd (fs ρ) fun ds => mguard (decide (ds.length ≤ sizeLine)) (mret (.tuple ds))
theorem q_tupS {k} (h : PA X es (tFS X.K B ss O O1 fs)) : PE X (.Tuple es k pos) (tE X.K B ss O O1 .fr (eTupS fs)) := pe_imp (pe_tup h) fun σ H R ⟨F, ρ, g, d, g', I, ef, q⟩ => by
  obtain ⟨ds, g1, e1, e2⟩ := mbnd_some ef
  obtain ⟨hz, e3⟩ := mguard_some e2
  cases e3
  exact ⟨F, ρ, g, ds, _, I, e1, fun xs H1 F1 I1 E1 r => ⟨by rw [r.length]; exact of_decide_eq_true hz, fun p hp => I1.finT (fun x' H' F' I' E' r' => q x' H' F' I' (E1.trans E') r') r hp⟩⟩
/-! ### backwards -/
def eRev (f : SE) : SE := fun ρ => mbnd (f ρ) fun d => match d with
  | .list ds => mret (.list ds.reverse)
  | _ => fun _ => none
theorem RepAll.rev {K : PySem.W.Frag} {F : Fz} {H : Hp} : ∀ {xs : List V} {ds : List D}, RepAll K F H xs ds → RepAll K F H xs.reverse ds.reverse
  | _, _, .nil => .nil
  | _, _, .cons a r => by
    rw [List.reverse_cons, List.reverse_cons]
    exact (RepAll.rev r).append (.cons a .nil)
theorem q_rev {k : Nat} {p1 p2 p3 : Pos} (ha : PE X e (tE X.K B ss O O1 .bw f)) : PE X (.Subscript e (.Slice none none (some (.UnaryOp .USub (.Constant (.int 1) k p1) p2)) p3) pos) (tE X.K B ss O O1 .fr (eRev f)) :=
  pe_imp (pe_revL ha) fun σ H R ⟨F, ρ, g, d, g', I, ef, q⟩ => by
  obtain ⟨z, g1, e1, e2⟩ := mbnd_some ef
  refine ⟨F, ρ, g, z, g1, I, e1, fun x' H1 F1 I1 E1 r1 => ?_⟩
  cases z with
  | list ds =>
    cases e2
    have r1' : BR X.K B F1 H1 x' (.list ds) := r1
    obtain ⟨l, xs, rfl, hl, rr⟩ := r1'.list
    exact ⟨l, xs, rfl, .of hl, fun p hp => I1.finL (fun x' H' F' I' E' r' => q x' H' F' I' (E1.trans E') r') rr.rev hp⟩
  | _ => cases e2
end
end Q

set_option Elab.async false
set_option linter.all false
set_option maxRecDepth 100000
/-! QR: the pure layer: dict(pairs), len of a dict, max of ints. -/
namespace Q
open PySem PySem.Spec PyProof.Rows L2
/-! ### dicts by their pairs -/
def putD (kvs : List (Key × D)) (k : Key) (v : D) : List (Key × D) :=
  if (kvs.any fun kv => decide (kv.1 = k)) = true then kvs.map (fun kv => if kv.1 = k then (kv.1, v) else kv) else kvs ++ [(k, v)]
def mergeD (kvs more : List (Key × D)) : List (Key × D) := more.foldl (fun acc kv => putD acc kv.1 kv.2) kvs
def outD (kvs : List (Key × D)) : D := .dict (kvs.map fun p => (keyD p.1, p.2))
inductive KR (K : PySem.W.Frag) (F : Fz) (H : Hp) : List (Key × V) → List (Key × D) → Prop
  | nil : KR K F H [] []
  | cons {k : Key} {v : V} {d : D} {xs : List (Key × V)} {ys : List (Key × D)} : Rep K F H v d → KR K F H xs ys → KR K F H ((k, v) :: xs) ((k, d) :: ys)
section
variable {K : PySem.W.Frag} {F : Fz} {H : Hp}
theorem KR.any (k : Key) : ∀ {xs : List (Key × V)} {ys : List (Key × D)}, KR K F H xs ys → (xs.any fun kv => decide (kv.1 = k)) = (ys.any fun kv => decide (kv.1 = k))
  | _, _, .nil => rfl
  | _, _, .cons _ r => by rw [List.any_cons, List.any_cons, KR.any k r]
theorem KR.rep {k : Key} {v : V} {d : D} (h : Rep K F H v d) : ∀ {xs : List (Key × V)} {ys : List (Key × D)}, KR K F H xs ys → KR K F H (xs.map fun kv => if kv.1 = k then (kv.1, v) else kv) (ys.map fun kv => if kv.1 = k then (kv.1, d) else kv)
  | _, _, .nil => .nil
  | _, _, .cons (k := j) a r => by
    rw [List.map_cons, List.map_cons]
    by_cases e : j = k
    · rw [if_pos e, if_pos e]; exact .cons h (KR.rep h r)
    · rw [if_neg e, if_neg e]; exact .cons a (KR.rep h r)
theorem KR.snoc {k : Key} {v : V} {d : D} (h : Rep K F H v d) : ∀ {xs : List (Key × V)} {ys : List (Key × D)}, KR K F H xs ys → KR K F H (xs ++ [(k, v)]) (ys ++ [(k, d)])
  | _, _, .nil => .cons h .nil
  | _, _, .cons a r => .cons a (KR.snoc h r)
theorem KR.put {k : Key} {v : V} {d : D} (h : Rep K F H v d) {xs : List (Key × V)} {ys : List (Key × D)} (r : KR K F H xs ys) : KR K F H (putK xs k v) (putD ys k d) := by
  unfold putK putD
  rw [KR.any k r]
  by_cases q : (ys.any fun kv => decide (kv.1 = k)) = true
  · rw [if_pos q, if_pos q]; exact KR.rep h r
  · rw [if_neg q, if_neg q]; exact KR.snoc h r
theorem KR.merge : ∀ {ms : List (Key × V)} {ns : List (Key × D)}, KR K F H ms ns → ∀ {xs : List (Key × V)} {ys : List (Key × D)}, KR K F H xs ys → KR K F H (mergeK xs ms) (mergeD ys ns)
  | _, _, .nil, _, _, r => r
  | _, _, .cons a q, _, _, r => KR.merge q (KR.put a r)
theorem KR.keys : ∀ {xs : List (Key × V)} {ys : List (Key × D)}, KR K F H xs ys → xs.map (fun p => keyD p.1) = (ys.map fun p => (keyD p.1, p.2)).map (·.1)
  | _, _, .nil => rfl
  | _, _, .cons _ r => by simp only [List.map_cons]; rw [KR.keys r]
theorem KR.vals : ∀ {xs : List (Key × V)} {ys : List (Key × D)}, KR K F H xs ys → RepAll K F H (xs.map (·.2)) ((ys.map fun p => (keyD p.1, p.2)).map (·.2))
  | _, _, .nil => .nil
  | _, _, .cons a r => .cons a (KR.vals r)
end
def keyO : D → Option Key
  | .int i => some (.inl i)
  | .str s => some (.inr s)
  | _ => none
def pairO : D → Option (Key × D)
  | .tuple [k, v] => (keyO k).map fun k => (k, v)
  | _ => none
def pairsO : List D → Option (List (Key × D))
  | [] => some []
  | d :: r => match pairO d, pairsO r with
    | some p, some ps => some (p :: ps)
    | _, _ => none
def sDict : List D → Option D
  | [.list ds] => (pairsO ds).map fun kvs => outD (mergeD [] kvs)
  | _ => none
theorem pair_rep {K : PySem.W.Frag} {F : Fz} {H : Hp} {x : V} {d : D} {kd : Key × D} (r : Rep K F H x d) (e : pairO d = some kd) : ∃ p v, x = .ref p ∧ SqT K H p [kV kd.1, v] ∧ Rep K F H v kd.2 := by
  unfold pairO at e
  split at e
  · rename_i k v
    cases q : keyO k with
    | none => rw [q] at e; cases e
    | some kk =>
      rw [q] at e
      cases e
      cases r with
      | tup h rr =>
        cases rr with
        | cons a rr =>
          cases rr with
          | cons b rr =>
            cases rr
            unfold keyO at q
            split at q
            · cases q; cases a; exact ⟨_, _, rfl, h.sq, b⟩
            · cases q; cases a; exact ⟨_, _, rfl, h.sq, b⟩
            · cases q
  · cases e
theorem pairs_rep {K : PySem.W.Frag} {F : Fz} {H : Hp} : ∀ {xs : List V} {ds : List D} {kds : List (Key × D)}, RepAll K F H xs ds → pairsO ds = some kds → ∃ (ps : List Addr) (kvs : List (Key × V)), xs = ps.map V.ref ∧ Paired (fun p kv => SqT K H p [kV kv.1, kv.2]) ps kvs ∧ KR K F H kvs kds
  | _, [], _, .nil, e => by cases e; exact ⟨[], [], rfl, .nil, .nil⟩
  | _, d :: ds, kds, .cons a r, e => by
    unfold pairsO at e
    split at e
    · rename_i p ps e1 e2
      cases e
      obtain ⟨q, v, rfl, h1, h2⟩ := pair_rep a e1
      obtain ⟨qs, kvs, rfl, h3, h4⟩ := pairs_rep r e2
      exact ⟨q :: qs, (p.1, v) :: kvs, rfl, .cons h1 h3, .cons h2 h4⟩
    · cases e
section
variable {X : Cx} {B : Bs}
theorem f_dict (hc : X.calm = true) : CallS X B (.type "dict") sDict := ⟨_, call_dictP hc, fun ss O F H σ ρ g xs ds c R I rx hcs q => by
  unfold sDict at hcs
  split at hcs
  · rename_i es
    cases e : pairsO es with
    | none => rw [e] at hcs; cases hcs
    | some kds =>
      rw [e] at hcs
      cases hcs
      obtain ⟨x, rfl, r⟩ := rx.one
      obtain ⟨l, ys, rfl, hl, rr⟩ := r.list
      obtain ⟨ps, kvs, rfl, h1, h2⟩ := pairs_rep rr e
      refine ⟨l, ps, kvs, rfl, .inl (.inl hl), h1, fun p hp => ?_⟩
      have m := KR.merge h2 (.nil : KR X.K F H [] [])
      exact I.finO q (o := .dK (mergeK [] kvs)) ⟨m.keys, m.vals⟩ hp
  · cases hcs⟩
theorem BR.dict {K : PySem.W.Frag} {B : Bs} {F : Fz} {H : Hp} {x : V} {ds : List (D × D)} (r : BR K B F H x (.dict ds)) : ∃ a, x = .ref a ∧ ((∃ kvs, H a = some (.dK kvs) ∧ kvs.length = ds.length) ∨ ∃ kvs, H a = some (.dT kvs) ∧ kvs.length = ds.length) := by
  have len : ∀ {α : Type} {kvs : List α} {f : α → D}, kvs.map f = ds.map (·.1) → kvs.length = ds.length := fun {α kvs f} e => by
    have := congrArg List.length e
    simpa using this
  rcases r with r | ⟨a, o, e, _, ho, c⟩
  · cases r with
    | dK _ h e _ => exact ⟨_, rfl, .inl ⟨_, h, len e⟩⟩
    | dT _ h e _ => exact ⟨_, rfl, .inr ⟨_, h, len e⟩⟩
  · cases o with
    | dK kvs => exact ⟨a, e, .inl ⟨kvs, ho, len c.1⟩⟩
    | dT kvs => exact ⟨a, e, .inr ⟨kvs, ho, len c.1⟩⟩
    | _ => exact c.elim
def sLenD : List D → Option D
  | [.dict ds] => some (.int ds.length)
  | ds => sLen ds
theorem f_lenD : CallS X B (.builtin "len") sLenD := ⟨_, CallR.or (CallR.or call_len_seq call_len_str) (CallR.or call_lenD call_len_dT), fun ss O F H σ ρ g xs ds c R I rx hc q => by
  unfold sLenD at hc
  split at hc
  · cases hc
    obtain ⟨x, rfl, r⟩ := rx.one
    obtain ⟨a, rfl, h⟩ := r.dict
    rcases h with ⟨kvs, h, l⟩ | ⟨kvs, h, l⟩
    · exact .inr (.inl ⟨a, kvs, rfl, h, by rw [l]; exact I.fin q rfl (.int _)⟩)
    · exact .inr (.inr ⟨a, kvs, rfl, h, by rw [l]; exact I.fin q rfl (.int _)⟩)
  · refine .inl ?_
    unfold sLen at hc
    split at hc
    · cases hc
      obtain ⟨x, rfl, r⟩ := rx.one
      obtain ⟨l, ys, rfl, hl, rr⟩ := r.list
      exact .inl ⟨l, ys, rfl, .inl (.of hl), by rw [rr.length]; exact I.fin q rfl (.int _)⟩
    · cases hc
      obtain ⟨x, rfl, r⟩ := rx.one
      obtain ⟨l, ys, rfl, hl, rr⟩ := r.tup
      exact .inl ⟨l, ys, rfl, .inr hl.sq, by rw [rr.length]; exact I.fin q rfl (.int _)⟩
    · split at hc
      · cases hc
        obtain ⟨x, rfl, r⟩ := rx.one
        exact .inr ⟨_, by rw [r.str], by assumption, I.fin q rfl (.int _)⟩
      · cases hc
    · cases hc⟩
/-! ### max of ints -/
def sMax1 : List D → Option D
  | [d] => match (seqD d).bind intsD with
    | some (n :: ns) => some (.int (ns.foldl max n))
    | _ => none
  | _ => none
theorem alike_ints (ns : List Int) : PySem.W.AlikeAll (ns.map .int) := ⟨fun x hx y hy => by
    obtain ⟨i, _, rfl⟩ := List.mem_map.mp hx
    obtain ⟨j, _, rfl⟩ := List.mem_map.mp hy
    rfl, fun x hx z => by
    obtain ⟨i, _, rfl⟩ := List.mem_map.mp hx
    cases z⟩
theorem depthAll_ints (ns : List Int) : PyData.depthAll (ns.map .int) = 0 := by
  induction ns with
  | nil => rfl
  | cons x r ih => rw [List.map_cons]; show max 0 _ = 0; rw [ih]; rfl
theorem layAll_ints (ns : List Int) : PyData.canLayAll0 (ns.map .int) = true := by
  induction ns with
  | nil => rfl
  | cons x r ih => simpa [PyData.canLayAll0, PyData.canLay0] using ih
theorem call_max1 (hc : X.calm = true) (hu : X.A.units + 65 < cLine) : CallR X (.builtin "max") (fun xs H Q => ∃ x d n ns, xs = [x] ∧ seqD d = some ((n :: ns).map PyData.int) ∧ Dp X.K H x d ∧ Q (.int (ns.foldl max n)) H) := by
  intro pins s σ H xs us Q I r h
  obtain ⟨x, d, n, ns, rfl, hd, hp, q⟩ := h
  obtain ⟨u, rfl, rx⟩ := vals1 r
  obtain ⟨as, rd⟩ := Dp.reads I d x u hp rx
  have hu2 : X.A.units + 1 + PyData.depthAll ((n :: ns).map PyData.int) < cLine := by rw [depthAll_ints]; omega
  have fin : ∀ (v : Value) (h' : Heap) (tk : Nat) (bs : List Addr), Reads h' v (PySem.W.maxD (.int n) (ns.map .int)) bs → (∀ b o, s.heap.get? b = some o → h'.get? b = some o) → EP X pins σ Q v { s with heap := h', toks := tk } := fun v h' tk bs rv kp => by
    rw [PySem.W.maxD_ints] at rv
    cases rv
    exact ⟨.int _, H, I.kept kp, ⟨_, rfl⟩, q⟩
  cases d with
  | list ds =>
    cases hd
    cases rd with
    | list h1 h2 h3 h4 => exact PySem.W.max_list_data (I.ok.hd hc) ⟨_, h1, h2, _, h3⟩ h4 (alike_ints (n :: ns)) hu2 fun i v h' tk bs _ rv kp => fin v h' tk bs rv kp
  | tuple ds =>
    cases hd
    cases rd with
    | tuple h1 h2 h3 h4 => exact PySem.W.max_tuple_data (I.ok.hd hc) ⟨_, h1, h2, _, h3⟩ h4 (alike_ints (n :: ns)) hu2 fun i v h' tk bs _ rv kp => fin v h' tk bs rv kp
  | _ => cases hd
theorem f_max1 (hc : X.calm = true) (hu : X.A.units + 65 < cLine) : CallS X B (.builtin "max") sMax1 := ⟨_, call_max1 hc hu, fun ss O F H σ ρ g xs ds c R I rx hcs q => by
  match ds, hcs with
  | [d], hcs =>
    have h' : (match (seqD d).bind intsD with
      | some (n :: ns) => some (PyData.int (ns.foldl max n))
      | _ => none) = some c := hcs
    cases e1 : seqD d with
    | none => rw [e1] at h'; cases h'
    | some es =>
      rw [e1] at h'
      cases e2 : intsD es with
      | none => simp only [Option.bind_some, e2] at h'; cases h'
      | some ls =>
        simp only [Option.bind_some, e2] at h'
        cases ls with
        | nil => cases h'
        | cons n ns =>
          cases h'
          rw [intsD_some e2] at e1
          obtain ⟨x, rfl, r⟩ := rx.one
          have cl : d.canLay0 = true := by
            cases d with
            | list ds => cases e1; simpa [PyData.canLay0] using layAll_ints (n :: ns)
            | tuple ds => cases e1; simpa [PyData.canLay0] using layAll_ints (n :: ns)
            | _ => cases e1
          exact ⟨x, d, n, ns, rfl, e1, r.dp cl, I.fin q rfl (.int _)⟩⟩
end
end Q

set_option Elab.async false
set_option linter.all false
set_option maxRecDepth 100000
/-! QS: the pure layer: dict comprehensions. -/
namespace Q
open PySem PySem.Spec PyProof.Rows L2
def dcGo (tgt : SG) (tt : ST) (tk tv : SE) (ρ : Ev) : List D → List (Key × D) → M (List (Key × D))
  | [], acc => mret acc
  | d :: r, acc => mbnd (mlift (tgt d ρ)) fun ρ1 => mbnd (tt ρ1) fun k => match k with
    | true => mbnd (tk ρ1) fun y => mbnd (tv ρ1) fun z => mbnd (mlift (keyO y)) fun k => mguard (decide (acc.length < sizeLine)) (dcGo tgt tt tk tv ρ r (putD acc k z))
    | false => dcGo tgt tt tk tv ρ r acc
def eDc (it : SL) (vs : List Nat) (tgt : SG) (tt : ST) (tk tv : SE) : SE := fun ρ => mbnd (it ρ) fun ds => mbnd (dcGo tgt tt tk tv (wipeE ρ vs) ds []) fun kds => mret (outD kds)
theorem KR.mono {K : PySem.W.Frag} {F F' : Fz} {H H' : Hp} (x : Stay F H F' H') : ∀ {xs : List (Key × V)} {ys : List (Key × D)}, KR K F H xs ys → KR K F' H' xs ys
  | _, _, .nil => .nil
  | _, _, .cons a r => .cons (Rep.mono x a) (KR.mono x r)
theorem KR.len {K : PySem.W.Frag} {F : Fz} {H : Hp} : ∀ {xs : List (Key × V)} {ys : List (Key × D)}, KR K F H xs ys → xs.length = ys.length
  | _, _, .nil => rfl
  | _, _, .cons _ r => congrArg (· + 1) r.len
theorem keyO_rep {K : PySem.W.Frag} {B : Bs} {F : Fz} {H : Hp} {x : V} {d : D} {k : Key} (r : BR K B F H x d) (e : keyO d = some k) : x = kV k := by
  unfold keyO at e
  split at e
  · cases e; rw [r.int]; rfl
  · cases e; rw [r.str]; rfl
  · cases e
section
variable {X : Cx} {B : Bs} {ss : Option Nat} {O O1 : List Nat} {tg iter kx vx : Expr} {ifs : List Expr} {scope : Scope} {tt : ST} {tk tv : SE} {fs : SL} {pos : Pos}
def kQ (K : PySem.W.Frag) (B : Bs) (ss : Option Nat) (O : List Nat) (te : SE) : TE := fun σ H R => ∃ B', B'.src = B.src ∧ tE K B' ss O O .bw te σ H R
theorem t_dc {K : PySem.W.Frag} {js vs : List Nat} {tgt : SG} (fix : ∀ d ρ ρ', tgt d ρ = some ρ' → ∀ i, i ∉ js → ρ'[i]? = ρ[i]?) (hv : O1.all (fun i => !vs.contains i) = true) (hj : js.all (fun i => vs.contains i) = true) (hss : (ss.all fun i => !vs.contains i) = true) (σ : L2.St) (H : Hp) (R : VK)
    (h : tE K B ss O O1 .fr (eDc fs vs tgt tt tk tv) σ H R) : tDc (tI K B ss O O1 fs) (gQ K B ss O1 js tgt) (tQ K B ss O1 tt) (kQ K B ss O1 tk) (eQ K B ss O1 tv) vs σ H R := by
  obtain ⟨F, ρ, g, d, g', I, ef, q⟩ := h
  obtain ⟨ds, g1, e1, e2⟩ := mbnd_some ef
  obtain ⟨kds, g2, e3, e4⟩ := mbnd_some e2
  cases e4
  have nO : ∀ i, i ∈ O1 → i ∉ vs := fun i m z => by
    have := List.all_eq_true.mp hv i m
    rw [List.contains_iff_mem.mpr z] at this; cases this
  have nj : ∀ i, i ∉ vs → i ∉ js := fun i n z => n (List.contains_iff_mem.mp (List.all_eq_true.mp hj i z))
  have nss : ∀ i, ss = some i → i ∉ vs := fun i e z => by
    rw [e] at hss
    have : (!vs.contains i) = true := hss
    rw [List.contains_iff_mem.mpr z] at this; cases this
  refine ⟨F, ρ, g, ds, g1, I, e1, fun J F1 H1 I1 E1 W Dd hD => ?_⟩
  have hBD : B.H Dd = none := I1.freeB hD
  have nPD : ¬ B.P Dd := fun z => (I1.prot Dd z).2 hD
  have apD : ∀ i e, i ∈ O1 → ρ[i]? = some (some e) → isCont e = true → σ[i]? ≠ some (some (.ref Dd)) := fun i e m h1 h2 => I1.own_ne hD m h1 h2
  have I1' : SInv K { B with P := fun a => B.P a ∨ a = Dd } ss O1 F1 (upd H1 Dd (.dK [])) σ ρ g1 := (I1.laid hD).guard (fun f => I1.dom Dd f hD) (by rw [upd_same]; exact fun z => nomatch z) apD
  have E0 := I1.ext_new (o := .dK []) hD
  have nsD : ¬ isS B.src Dd := I1.nsOwn hBD
  refine ⟨fun i m H' => m = ds.length - i ∧ i ≤ ds.length ∧ ∃ F' g3 acc accd, SInv K { B with P := fun a => B.P a ∨ a = Dd } ss O1 F' H' σ ρ g3 ∧ Ext B.src F1 H1 F' H' ∧ H' Dd = some (.dK acc) ∧ KR K F' H' acc accd ∧ dcGo tgt tt tk tv (wipeE ρ vs) (ds.drop i) accd g3 = some (kds, g'),
    ⟨ds.length, rfl, Nat.zero_le _, F1, g1, [], [], I1', E0, upd_same, .nil, e3⟩, fun i m H' hW => ?_⟩
  obtain ⟨rfl, hi, F', g3, acc, accd, I', E', hD', ra, ev⟩ := hW
  by_cases hlt : i < ds.length
  · refine .inr ⟨W.go i F' H' E'.stay hlt, ?_⟩
    rw [List.drop_eq_getElem_cons hlt] at ev
    obtain ⟨ρ1, g4, e6, ev2⟩ := mbnd_some ev
    obtain ⟨e7, rfl⟩ := mlift_some e6
    obtain ⟨k, g5, e8, e9⟩ := mbnd_some ev2
    refine ⟨fun H2 => ∃ F2 gN acc' accd', SInv K { B with P := fun a => B.P a ∨ a = Dd } ss O1 F2 H2 σ ρ gN ∧ Ext B.src F1 H1 F2 H2 ∧ H2 Dd = some (.dK acc') ∧ KR K F2 H2 acc' accd' ∧ dcGo tgt tt tk tv (wipeE ρ vs) (ds.drop (i + 1)) accd' gN = some (kds, g'),
      fun H2 ⟨F2, gN, acc', accd', J2, X2, hD2, ra2, ev3⟩ => ⟨ds.length - (i + 1), by omega, rfl, hlt, F2, gN, acc', accd', J2, X2, hD2, ra2, ev3⟩, fun x H2 hy => ?_⟩
    obtain ⟨y1, y2⟩ := W.yld i ds[i] F' H' x H2 E'.stay (List.getElem?_eq_getElem hlt) hy
    obtain ⟨I2, E2⟩ := I'.laidS y1
    refine ⟨{ B with P := fun a => B.P a ∨ a = Dd }, rfl, F', wipeE ρ vs, g4, ds[i], ρ1, I2.wipe nss, y2 F' (fun _ h => h) E2.stay, e7, fun σ3 I3 k3 l3 => ⟨?_, ?_⟩⟩
    · exact wipe_eq (fun j n => by rw [k3 j (nj j n), wipe_at n]) (by rw [l3, wipe_length])
    · refine ⟨{ B with P := fun a => B.P a ∨ a = Dd }, rfl, F', ρ1, g4, k, g5, I3, e8, fun H4 F4 I4 E4 => ?_⟩
      have same : ∀ j, j ∈ O1 → ρ1[j]? = ρ[j]? ∧ σ3[j]? = σ[j]? := fun j m => by
        refine ⟨?_, by rw [k3 j (nj j (nO j m)), wipe_at (nO j m)]⟩
        rw [fix _ _ _ e7 j (nj j (nO j m))]
        exact wipeE_at (nO j m)
      cases k with
      | false => exact iteF ⟨F4, g5, acc, accd, I'.unwipe I4 (E2.stay.trans E4.stay) same, E'.trans (E2.trans E4), E4.keep _ _ nsD (E2.keep _ _ nsD hD'), KR.mono (E2.stay.trans E4.stay) ra, e9⟩
      | true =>
        obtain ⟨y, g6, h1, h2⟩ := mbnd_some e9
        obtain ⟨z, g7, h3, h4⟩ := mbnd_some h2
        obtain ⟨kk, g8, h5, h6⟩ := mbnd_some h4
        obtain ⟨h7, rfl⟩ := mlift_some h5
        obtain ⟨h8, h9⟩ := mguard_some h6
        refine iteT ⟨{ B with P := fun a => B.P a ∨ a = Dd }, rfl, F4, ρ1, g5, y, g6, I4, h1, fun y' H5 F5 I5 E5 r5 => ?_⟩
        have r5' : BR K { B with P := fun a => B.P a ∨ a = Dd } F5 H5 y' y := r5
        refine ⟨{ B with P := fun a => B.P a ∨ a = Dd }, rfl, F5, ρ1, g6, z, g8, I5, h3, fun z' H6 F6 I6 E6 r6 => ⟨acc, kk, keyO_rep r5' h7, E6.keep _ _ nsD (E5.keep _ _ nsD (E4.keep _ _ nsD (E2.keep _ _ nsD hD'))), ?_, ?_⟩⟩
        · rw [ra.len]; exact of_decide_eq_true h8
        · have st6 : Stay F' H' F6 H6 := E2.stay.trans (E4.stay.trans (E5.stay.trans E6.stay))
          have I7 := I'.unwipe I6 st6 same
          have hD6 : H6 Dd = some (.dK acc) := E6.keep _ _ nsD (E5.keep _ _ nsD (E4.keep _ _ nsD (E2.keep _ _ nsD hD')))
          obtain ⟨I8, st8⟩ := I7.poke (o' := .dK (putK acc kk z')) (I7.prot Dd (.inr rfl)).1 hBD hD6 (fun _ z => nomatch z) (fun _ _ z => nomatch z) apD
          have X6 := E'.trans (E2.trans (E4.trans (E5.trans E6)))
          refine ⟨F6, g8, putK acc kk z', putD accd kk z, I8, ⟨X6.stay.trans st8, fun a o n h => ?_⟩, upd_same, KR.put (Rep.mono st8 r6) (KR.mono (st6.trans st8) ra), h9⟩
          rw [upd_ne (ne_of_none h hD)]
          exact X6.keep a o n h
  · have e : i = ds.length := by omega
    subst e
    rw [List.drop_length] at ev
    cases ev
    exact .inl ⟨W.stop F' H' E'.stay, q _ H' F' (I'.unguard fun _ h => .inl h) (E1.trans E') (.inr ⟨Dd, .dK acc, rfl, (I'.prot Dd (.inr rfl)).1, nPD, hBD, hD', ⟨ra.keys, ra.vals⟩, apD⟩)⟩
/-- the parts of a dict comprehension's block -/
structure DcQ (X : Cx) (B : Bs) (ss : Option Nat) (O : List Nat) (scope : Scope) (tg kx vx : Expr) (ifs : List Expr) (js : List Nat) (tgt : SG) (tt : ST) (tk tv : SE) : Prop where
  all : ∀ (B' : Bs), B'.src = B.src → ∀ (s : Shared) (H : Hp) (C : Addr) (cl : List (Str × Addr)) (fp : List Addr), PGq (X.blk s H scope (compEnvC scope cl C X.env) fp) B' ss O O tg js tgt ∧ PTs (X.blk s H scope (compEnvC scope cl C X.env) fp) ifs (tB X.K B' ss O O tt) ∧
    PE (X.blk s H scope (compEnvC scope cl C X.env) fp) kx (tE X.K B' ss O O .bw tk) ∧ PE (X.blk s H scope (compEnvC scope cl C X.env) fp) vx (tE X.K B' ss O O .fz tv)
  fix : ∀ d ρ ρ', tgt d ρ = some ρ' → ∀ i, i ∉ js → ρ'[i]? = ρ[i]?
theorem DcQ.mk' {js : List Nat} {tgt : SG} (h : ∀ (B' : Bs), B'.src = B.src → ∀ (s : Shared) (H : Hp) (C : Addr) (cl : List (Str × Addr)) (fp : List Addr), PGq (X.blk s H scope (compEnvC scope cl C X.env) fp) B' ss O O tg js tgt ∧ PTs (X.blk s H scope (compEnvC scope cl C X.env) fp) ifs (tB X.K B' ss O O tt) ∧
    PE (X.blk s H scope (compEnvC scope cl C X.env) fp) kx (tE X.K B' ss O O .bw tk) ∧ PE (X.blk s H scope (compEnvC scope cl C X.env) fp) vx (tE X.K B' ss O O .fz tv)) : DcQ X B ss O scope tg kx vx ifs js tgt tt tk tv := ⟨h, (h B rfl { } (fun _ => none) 0 [] []).1.fix⟩
theorem q_dc {js : List Nat} {tgt : SG} {own : List (Str × Nat)} (hc : X.calm = true) (hN : X.N.Nodup) (hi : PI X tg iter (tI X.K B ss O O1 fs)) (ok : BlkOk X.N X.env.scope scope own) (q : DcQ X B ss O1 scope tg kx vx ifs js tgt tt tk tv)
    (hv : O1.all (fun i => !(own.map (·.2)).contains i) = true := by rfl) (hj : js.all (fun i => (own.map (·.2)).contains i) = true := by rfl) (hss : (ss.all fun i => !(own.map (·.2)).contains i) = true := by rfl) (hs : ∀ x, foldedSetIterable iter X.env x = pure x := by intro _; rfl) :
    PE X (.DictComp kx vx [⟨tg, iter, ifs, 0⟩] scope pos) (tE X.K B ss O O1 .fr (eDc fs (own.map (·.2)) tgt tt tk tv)) :=
  pe_imp (pe_dc (g := gQ X.K B ss O1 js tgt) (tt := tQ X.K B ss O1 tt) (tk := kQ X.K B ss O1 tk) (tv := eQ X.K B ss O1 tv) hc hN hi ok (fun s H C cl fp => pg_any fun B' hB => (q.all B' hB s H C cl fp).1.run (fun _ _ => True) trivial) (fun s H C cl fp => pts_any fun B' hB => (q.all B' hB s H C cl fp).2.1) (fun s H C cl fp => pe_any fun B' hB => (q.all B' hB s H C cl fp).2.2.1) (fun s H C cl fp => pe_any fun B' hB => (q.all B' hB s H C cl fp).2.2.2) hs)
    fun σ H R w => t_dc q.fix hv hj hss σ H R w
end
end Q

set_option Elab.async false
set_option linter.all false
set_option maxRecDepth 100000
/-! QT: the pure layer: comprehensions over a list that is owned. -/
namespace Q
open PySem PySem.Spec PyProof.Rows L2
structure WalksE (K : PySem.W.Frag) (src : Option (Addr × Addr)) (F : Fz) (H : Hp) (J : It) (ds : List D) : Prop where
  go : ∀ i F1 H1, Ext src F H F1 H1 → i < ds.length → J.go i H1
  stop : ∀ F1 H1, Ext src F H F1 H1 → J.stop ds.length H1
  yld : ∀ i d F1 H1 x H2, Ext src F H F1 H1 → ds[i]? = some d → J.yld i H1 x H2 → (H2 = H1 ∨ ∃ p o, H1 p = none ∧ H2 = upd H1 p o) ∧ ∀ F2, (∀ a, F1 a → F2 a) → Stay F1 H1 F2 H2 → Rep K F2 H2 x d
def tIE (K : PySem.W.Frag) (B : Bs) (ss : Option Nat) (O O' : List Nat) (f : SL) : TI := fun σ H R => ∃ F ρ g ds g', SInv K B ss O F H σ ρ g ∧ f ρ g = some (ds, g') ∧ ∀ J F' H', SInv K B ss O' F' H' σ ρ g' → Ext B.src F H F' H' → WalksE K B.src F' H' J ds → R J H'
section
variable {X : Cx} {B : Bs} {ss : Option Nat} {O O1 O2 O3 Ob : List Nat} {a b c e tg iter elt : Expr} {es ifs : List Expr} {f h te : SE} {u v tt : ST} {fs : SL} {pos p : Pos} {n k : Nat} {x y : Str} {st : Stmt} {rest body orelse : List Stmt} {s t : SS} {scope : Scope}
theorem q_iseqE (ha : PE X a (tE X.K B ss O O1 .bw f)) : PI X tg a (tIE X.K B ss O O1 (iSeq f)) := pi_imp (pi_seq ha) fun σ H R ⟨F, ρ, g, ds, g', I, ef, q⟩ => by
  obtain ⟨d, g1, e1, e2⟩ := mbnd_some ef
  obtain ⟨e3, rfl⟩ := mlift_some e2
  refine ⟨F, ρ, g, d, g', I, e1, fun x' H' F' I' E' r => ?_⟩
  have r' : BR X.K B F' H' x' d := r
  unfold seqD at e3
  split at e3
  · cases e3
    rcases r' with r' | ⟨l, o, rfl, ns, ho, c⟩
    · cases r' with
      | lst fa he rr =>
        have w := walks_list (K := X.K) fa he rr
        exact ⟨_, rfl, .inl ⟨_, .of he, q _ F' H' I' E' ⟨fun i F1 H1 e => w.go i F1 H1 e.stay, fun F1 H1 e => w.stop F1 H1 e.stay, fun i d F1 H1 x H2 e => w.yld i d F1 H1 x H2 e.stay⟩⟩⟩
    · cases o with
      | lst xs =>
        have rr : RepAll X.K F' H' xs _ := c
        refine ⟨l, rfl, .inl ⟨_, .of ho, q _ F' H' I' E' ⟨fun i F1 H1 e hi => ⟨xs, xs[i]'(by rw [rr.length]; exact hi), .of (e.keep _ _ ns ho), by simp [rr.length, hi]⟩, fun F1 H1 e => ⟨xs, .of (e.keep _ _ ns ho), Nat.le_of_eq rr.length⟩, fun i d F1 H1 x H2 e hd ⟨e2, y⟩ => ⟨.inl e2, fun F2 _ s2 => ?_⟩⟩⟩⟩
        obtain ⟨z, h1, h2⟩ := rr.get hd
        rw [y xs (.of (e.keep _ _ ns ho))] at h1
        cases h1
        exact Rep.mono (e.stay.trans s2) h2
      | _ => exact c.elim
  · cases e3
    obtain ⟨l, xs, rfl, he, rr⟩ := r'.tup
    have w := walks_tuple (K := X.K) he rr
    exact ⟨_, rfl, .inr ⟨_, he.sq, q _ F' H' I' E' ⟨fun i F1 H1 e => w.go i F1 H1 e.stay, fun F1 H1 e => w.stop F1 H1 e.stay, fun i d F1 H1 x H2 e => w.yld i d F1 H1 x H2 e.stay⟩⟩⟩
  · cases e3
theorem t_lcE {K : PySem.W.Frag} {js vs : List Nat} {tgt : SG} {tt : ST} {te : SE} (fix : ∀ d ρ ρ', tgt d ρ = some ρ' → ∀ i, i ∉ js → ρ'[i]? = ρ[i]?) (hv : O1.all (fun i => !vs.contains i) = true) (hj : js.all (fun i => vs.contains i) = true) (hss : (ss.all fun i => !vs.contains i) = true) (σ : L2.St) (H : Hp) (R : VK)
    (h : tE K B ss O O1 .fr (eLc fs vs tgt tt te) σ H R) : tLc (tIE K B ss O O1 fs) (gQ K B ss O1 js tgt) (tQ K B ss O1 tt) (eQ K B ss O1 te) vs σ H R := by
  obtain ⟨F, ρ, g, d, g', I, ef, q⟩ := h
  obtain ⟨ds, g1, e1, e2⟩ := mbnd_some ef
  obtain ⟨zs, g2, e3, e4⟩ := mbnd_some e2
  obtain ⟨hz, e5⟩ := mguard_some e4
  cases e5
  have hz' : zs.length ≤ sizeLine := of_decide_eq_true hz
  have nO : ∀ i, i ∈ O1 → i ∉ vs := fun i m z => by
    have := List.all_eq_true.mp hv i m
    rw [List.contains_iff_mem.mpr z] at this; cases this
  have nj : ∀ i, i ∉ vs → i ∉ js := fun i n z => n (List.contains_iff_mem.mp (List.all_eq_true.mp hj i z))
  have nss : ∀ i, ss = some i → i ∉ vs := fun i e z => by
    rw [e] at hss
    have : (!vs.contains i) = true := hss
    rw [List.contains_iff_mem.mpr z] at this; cases this
  refine ⟨F, ρ, g, ds, g1, I, e1, fun J F1 H1 I1 E1 W Dd hD => ?_⟩
  have nfD : ¬ F1 Dd := fun f => I1.dom Dd f hD
  have hBD : B.H Dd = none := I1.freeB hD
  have nPD : ¬ B.P Dd := fun z => (I1.prot Dd z).2 hD
  have apD : ∀ i e, i ∈ O1 → ρ[i]? = some (some e) → isCont e = true → σ[i]? ≠ some (some (.ref Dd)) := fun i e m h1 h2 => I1.own_ne hD m h1 h2
  have I1' : SInv K { B with P := fun a => B.P a ∨ a = Dd } ss O1 F1 (upd H1 Dd (.lst [])) σ ρ g1 := (I1.laid hD).guard nfD (by rw [upd_same]; exact fun z => nomatch z) apD
  have E0 := I1.ext_new (o := .lst []) hD
  have nsD : ¬ isS B.src Dd := I1.nsOwn hBD
  refine ⟨fun i m H' => m = ds.length - i ∧ i ≤ ds.length ∧ ∃ F' g3 acc accd rest, SInv K { B with P := fun a => B.P a ∨ a = Dd } ss O1 F' H' σ ρ g3 ∧ Ext B.src F1 H1 F' H' ∧ H' Dd = some (.lst acc) ∧ RepAll K F' H' acc accd ∧ lcGo tgt tt te (wipeE ρ vs) (ds.drop i) g3 = some (rest, g') ∧ accd ++ rest = zs,
    ⟨ds.length, rfl, Nat.zero_le _, F1, g1, [], [], zs, I1', E0, upd_same, .nil, e3, rfl⟩, fun i m H' hW => ?_⟩
  obtain ⟨rfl, hi, F', g3, acc, accd, rest, I', E', hD', ra, ev, ez⟩ := hW
  by_cases hlt : i < ds.length
  · refine .inr ⟨W.go i F' H' E' hlt, ?_⟩
    rw [List.drop_eq_getElem_cons hlt] at ev
    obtain ⟨ρ1, g4, e6, ev2⟩ := mbnd_some ev
    obtain ⟨e7, rfl⟩ := mlift_some e6
    obtain ⟨k, g5, e8, e9⟩ := mbnd_some ev2
    have step : ∃ gN accd' rest', lcGo tgt tt te (wipeE ρ vs) (ds.drop (i + 1)) gN = some (rest', g') ∧ accd' ++ rest' = zs ∧ ((k = false ∧ gN = g5 ∧ accd' = accd) ∨ ∃ z, k = true ∧ te ρ1 g5 = some (z, gN) ∧ accd' = accd ++ [z]) := by
      cases k with
      | true =>
        obtain ⟨z, g6, h1, h2⟩ := mbnd_some e9
        obtain ⟨ws, g7, h3, h4⟩ := mbnd_some h2
        cases h4
        exact ⟨g6, accd ++ [z], ws, h3, by rw [List.append_assoc]; exact ez, .inr ⟨z, rfl, h1, rfl⟩⟩
      | false => exact ⟨g5, accd, rest, e9, ez, .inl ⟨rfl, rfl, rfl⟩⟩
    obtain ⟨gN, accd', rest', hN1, hN2, hN3⟩ := step
    refine ⟨fun H2 => ∃ F2 acc', SInv K { B with P := fun a => B.P a ∨ a = Dd } ss O1 F2 H2 σ ρ gN ∧ Ext B.src F1 H1 F2 H2 ∧ H2 Dd = some (.lst acc') ∧ RepAll K F2 H2 acc' accd', fun H2 ⟨F2, acc', J2, X2, hD2, ra2⟩ => ⟨ds.length - (i + 1), by omega, rfl, hlt, F2, gN, acc', accd', rest', J2, X2, hD2, ra2, hN1, hN2⟩, fun x H2 hy => ?_⟩
    obtain ⟨y1, y2⟩ := W.yld i ds[i] F' H' x H2 E' (List.getElem?_eq_getElem hlt) hy
    obtain ⟨I2, E2⟩ := I'.laidS y1
    refine ⟨{ B with P := fun a => B.P a ∨ a = Dd }, rfl, F', wipeE ρ vs, g4, ds[i], ρ1, I2.wipe nss, y2 F' (fun _ h => h) E2.stay, e7, fun σ3 I3 k3 l3 => ⟨?_, ?_⟩⟩
    · exact wipe_eq (fun j n => by rw [k3 j (nj j n), wipe_at n]) (by rw [l3, wipe_length])
    · refine ⟨{ B with P := fun a => B.P a ∨ a = Dd }, rfl, F', ρ1, g4, k, g5, I3, e8, fun H4 F4 I4 E4 => ?_⟩
      have same : ∀ j, j ∈ O1 → ρ1[j]? = ρ[j]? ∧ σ3[j]? = σ[j]? := fun j m => by
        refine ⟨?_, by rw [k3 j (nj j (nO j m)), wipe_at (nO j m)]⟩
        rw [fix _ _ _ e7 j (nj j (nO j m))]
        exact wipeE_at (nO j m)
      rcases hN3 with ⟨rfl, rfl, rfl⟩ | ⟨z, rfl, h1, rfl⟩
      · refine iteF ⟨F4, acc, I'.unwipe I4 (E2.stay.trans E4.stay) same, E'.trans (E2.trans E4), E4.keep _ _ nsD (E2.keep _ _ nsD hD'), ra.mono (E2.stay.trans E4.stay)⟩
      · refine iteT ⟨{ B with P := fun a => B.P a ∨ a = Dd }, rfl, F4, ρ1, g5, z, gN, I4, h1, fun y H5 F5 I5 E5 r5 => ⟨acc, E5.keep _ _ nsD (E4.keep _ _ nsD (E2.keep _ _ nsD hD')), ?_, ?_⟩⟩
        · have h3 := congrArg List.length hN2
          rw [List.length_append, List.length_append] at h3
          have h4 := ra.length
          simp at h3
          omega
        · have st5 : Stay F' H' F5 H5 := E2.stay.trans (E4.stay.trans E5.stay)
          have I6 := I'.unwipe I5 st5 same
          have hD5 : H5 Dd = some (.lst acc) := E5.keep _ _ nsD (E4.keep _ _ nsD (E2.keep _ _ nsD hD'))
          obtain ⟨I7, st7⟩ := I6.poke (o' := .lst (acc ++ [y])) (I6.prot Dd (.inr rfl)).1 hBD hD5 (fun _ z => nomatch z) (fun _ _ z => nomatch z) apD
          have X5 := E'.trans (E2.trans (E4.trans E5))
          refine ⟨F5, acc ++ [y], I7, ⟨X5.stay.trans st7, fun a o n h => ?_⟩, upd_same, (ra.mono (st5.trans st7)).append (.cons (Rep.mono st7 r5) .nil)⟩
          rw [upd_ne (ne_of_none h hD)]
          exact X5.keep a o n h
  · have e : i = ds.length := by omega
    subst e
    rw [List.drop_length] at ev
    cases ev
    rw [List.append_nil] at ez
    subst ez
    exact .inl ⟨W.stop F' H' E', q _ H' F' (I'.unguard fun _ h => .inl h) (E1.trans E') (.inr ⟨Dd, .lst acc, rfl, (I'.prot Dd (.inr rfl)).1, nPD, hBD, hD', ra, apD⟩)⟩
theorem q_lcE {js : List Nat} {tgt : SG} {own : List (Str × Nat)} (hc : X.calm = true) (hN : X.N.Nodup) (hi : PI X tg iter (tIE X.K B ss O O1 fs)) (ok : BlkOk X.N X.env.scope scope own) (q : LcQ X B ss O1 scope tg elt ifs js tgt tt te)
    (hv : O1.all (fun i => !(own.map (·.2)).contains i) = true := by rfl) (hj : js.all (fun i => (own.map (·.2)).contains i) = true := by rfl) (hss : (ss.all fun i => !(own.map (·.2)).contains i) = true := by rfl) (hs : ∀ x, foldedSetIterable iter X.env x = pure x := by intro _; rfl) :
    PE X (.ListComp elt [⟨tg, iter, ifs, 0⟩] scope pos) (tE X.K B ss O O1 .fr (eLc fs (own.map (·.2)) tgt tt te)) :=
  pe_imp (pe_lc (g := gQ X.K B ss O1 js tgt) (tt := tQ X.K B ss O1 tt) (te := eQ X.K B ss O1 te) hc hN hi ok (fun s H C cl fp => pg_any fun B' hB => (q.all B' hB s H C cl fp).1.run (fun _ _ => True) trivial) (fun s H C cl fp => pts_any fun B' hB => (q.all B' hB s H C cl fp).2.1) (fun s H C cl fp => pe_any fun B' hB => (q.all B' hB s H C cl fp).2.2) hs)
    fun σ H R w => t_lcE q.fix hv hj hss σ H R w
/-- y = [.. for ..] -/
theorem q_setLcE {js : List Nat} {tgt : SG} {own : List (Str × Nat)} {py : Pos} (i : Nat) (hc : X.calm = true) (hN : X.N.Nodup) (hi : PI X tg iter (tIE X.K B ss O O1 fs)) (ok : BlkOk X.N X.env.scope scope own) (q : LcQ X B ss O1 scope tg elt ifs js tgt tt te) (hO : i :: O1.filter (· ≠ i) = O2 := by rfl) (hsi : ss ≠ some i := by decide)
    (hv : O1.all (fun i => !(own.map (·.2)).contains i) = true := by rfl) (hj : js.all (fun i => (own.map (·.2)).contains i) = true := by rfl) (hss : (ss.all fun i => !(own.map (·.2)).contains i) = true := by rfl) (hy : X.N[i]? = some y := by rfl) (hyl : X.env.scope.names.lookup y = some .local := by rfl)
    (hsw : swapsWith (.ListComp elt [⟨tg, iter, ifs, 0⟩] scope p) (some (.Name y py)) pos.line X.env = pure true := by exact sw_true rfl rfl rfl (by decide +kernel)) (hs : ∀ x, foldedSetIterable iter X.env x = pure x := by intro _; rfl) :
    PS X (.Assign [.Name y py] (.ListComp elt [⟨tg, iter, ifs, 0⟩] scope p) pos) (tS X.K B ss O O2 Ob (sAsg i (eLc fs (own.map (·.2)) tgt tt te))) :=
  ps_imp (ps_setLc (g := gQ X.K B ss O1 js tgt) (tt := tQ X.K B ss O1 tt) (te := eQ X.K B ss O1 te) hc hN hy hyl hsw hi ok (fun s H C cl fp => pg_any fun B' hB => (q.all B' hB s H C cl fp).1.run (fun _ _ => True) trivial) (fun s H C cl fp => pts_any fun B' hB => (q.all B' hB s H C cl fp).2.1) (fun s H C cl fp => pe_any fun B' hB => (q.all B' hB s H C cl fp).2.2) hs)
    fun E σ H ⟨F, ρ, g, fl, g', I, ef, w⟩ => by
  subst hO
  obtain ⟨d, g1, e1, e2⟩ := mbnd_some ef
  cases e2
  exact t_lcE q.fix hv hj hss σ H _ ⟨F, ρ, g, d, _, I, e1, fun x' H' F' I' E' r => w _ H' F' (I'.setO hsi r) E'.stay⟩

end
end Q

set_option Elab.async false
set_option linter.all false
set_option maxRecDepth 100000
/-! QU: the pure layer is run: the words of QO .. QT on ints. -/
namespace Q
open PySem PySem.Spec L2
section
variable {f h k : SE} {fs : SL} {ρ : Ev} {g : G} {xs ys : List D} {ls ms : List Int} {x y : Int} {d e : D} {n : Nat}
@[simp] theorem u_tupS : eTupS fs ρ g = match fs ρ g with
  | some (ds, g') => if ds.length ≤ sizeLine then some (.tuple ds, g') else none
  | none => none := by
  unfold eTupS mbnd
  cases fs ρ g with
  | none => rfl
  | some p =>
    obtain ⟨ds, g'⟩ := p
    simp only [mguard, mret]
    by_cases q : ds.length ≤ sizeLine
    · simp only [q, decide_true, if_true]
    · simp only [q, decide_false, if_false]
@[simp] theorem u_star : sStar f fs ρ g = (mbnd (f ρ) fun d => mbnd (mlift (seqD d)) fun xs => mbnd (fs ρ) fun ds => mret (xs ++ ds)) g := Eq.trans rfl rfl
@[simp] theorem u_revL : eRev f ρ g = (mbnd (f ρ) fun d => match d with
  | .list ds => mret (.list ds.reverse)
  | _ => fun _ => none) g := Eq.trans rfl rfl
@[simp] theorem u_lenDL : sLenD [.list xs] = some (.int xs.length) := Eq.trans rfl rfl
@[simp] theorem u_lenDT : sLenD [.tuple xs] = some (.int xs.length) := Eq.trans rfl rfl
@[simp] theorem u_lenDD {kvs : List (D × D)} : sLenD [.dict kvs] = some (.int kvs.length) := Eq.trans rfl rfl
@[simp] theorem u_dc {vs : List Nat} {tg : SG} {u : ST} : eDc fs vs tg u f h ρ g = match fs ρ g with
  | some (ds, g1) => (match dcGo tg u f h (wipeE ρ vs) ds [] g1 with
    | some (kds, g2) => some (outD kds, g2)
    | none => none)
  | none => none := by
  unfold eDc mbnd
  cases fs ρ g with
  | none => rfl
  | some p =>
    obtain ⟨ds, g1⟩ := p
    simp only
    cases dcGo tg u f h (wipeE ρ vs) ds [] g1 with
    | none => rfl
    | some q => rfl
@[simp] theorem u_cutL {lo hi : Option Int} : sCut lo hi (.list xs) = some (.list (cutD xs lo hi)) := Eq.trans rfl rfl
@[simp] theorem u_cutT {lo hi : Option Int} : sCut lo hi (.tuple xs) = some (.tuple (cutD xs lo hi)) := Eq.trans rfl rfl
theorem cut_to (xs : List α) (k : Nat) (hk : k ≤ xs.length) : cutD xs none (some (k : Int)) = xs.take k := by
  unfold cutD
  rw [HT.sIx_none, HT.sIx_nat, Nat.min_eq_left hk]; simp
theorem cut_from (xs : List α) (k : Nat) (hk : k ≤ xs.length) : cutD xs (some (k : Int)) none = xs.drop k := by
  unfold cutD
  rw [HT.sIx_none, HT.sIx_nat, Nat.min_eq_left hk]
  exact List.take_of_length_le (by simp)
theorem cut_mid (xs : List α) (j k : Nat) (hj : j ≤ k) (hk : k ≤ xs.length) : cutD xs (some (j : Int)) (some (k : Int)) = (xs.drop j).take (k - j) := by
  unfold cutD
  rw [HT.sIx_nat, HT.sIx_nat, Nat.min_eq_left hk, Nat.min_eq_left (by omega)]
/-! ### rows of ints -/
theorem lay_ints2 (ls : List Int) : PyData.canLayAll0 (ls.map .int) = true := lay_ints ls
theorem shT (ls : List Int) : SeqAt.shaped (.tuple (ls.map .int)) = true := by
  unfold SeqAt.shaped
  have h1 : PyData.canLay0 (.tuple (ls.map .int)) = true := by simpa [PyData.canLay0] using lay_ints ls
  have h2 : PyData.depth (.tuple (ls.map .int)) = 1 := by simpa [PyData.depth] using depth_ints ls
  rw [h1, h2]; rfl
theorem shL (ls : List Int) : SeqAt.shaped (.list (ls.map .int)) = true := by
  unfold SeqAt.shaped
  have h1 : PyData.canLay0 (.list (ls.map .int)) = true := by simpa [PyData.canLay0] using lay_ints ls
  have h2 : PyData.depth (.list (ls.map .int)) = 1 := by simpa [PyData.depth] using depth_ints ls
  rw [h1, h2]; rfl
theorem any_eqv (ls : List Int) (x : Int) : ((ls.map PyData.int).any fun z => PyData.eqv z (.int x)) = decide (x ∈ ls) := by
  rw [Bool.eq_iff_iff, List.any_eq_true, decide_eq_true_iff]
  constructor
  · rintro ⟨z, hz, e⟩
    obtain ⟨i, hi, rfl⟩ := List.mem_map.mp hz
    have : i = x := by simpa [PyData.eqv] using e
    rw [← this]; exact hi
  · intro h
    exact ⟨.int x, List.mem_map.mpr ⟨x, h, rfl⟩, by simp [PyData.eqv]⟩
theorem in_T (ls : List Int) (x : Int) : sIn (.int x) (.tuple (ls.map .int)) = some (.bool (decide (x ∈ ls))) := by
  simp only [sIn, sInT]
  rw [shI, shT, any_eqv]; rfl
theorem in_L (ls : List Int) (x : Int) : sIn (.int x) (.list (ls.map .int)) = some (.bool (decide (x ∈ ls))) := by
  simp only [sIn, sInL]
  rw [shI, shL, any_eqv]; rfl
theorem ni_L (ls : List Int) (x : Int) : sNi (.int x) (.list (ls.map .int)) = some (.bool (!decide (x ∈ ls))) := by
  simp only [sNi, sNiL]
  rw [shI, shL, any_eqv]; rfl
theorem findD_ints (x : Int) : ∀ {ls : List Int}, x ∈ ls → findD (.int x) (ls.map .int) = some (placeOf ls x)
  | y :: r, h => by
    rw [List.map_cons]
    unfold findD placeOf
    by_cases e : y = x
    · rw [if_pos e, if_pos (by simp [PyData.eqv, e])]
    · rw [if_neg e, if_neg (by simp [PyData.eqv, e]), findD_ints x ((List.mem_cons.mp h).resolve_left fun z => e z.symm)]; rfl
theorem idx_L {ls : List Int} {x : Int} (h : x ∈ ls) : sIdx (.list (ls.map .int)) (.int x) = some (.int (placeOf ls x : Nat)) := by
  unfold sIdx
  simp only
  rw [shL, shI, findD_ints x h]; rfl
theorem max_T (x : Int) (ls : List Int) : sMax1 [.tuple ((x :: ls).map .int)] = some (.int (ls.foldl max x)) := by
  show (match (some ((x :: ls).map PyData.int)).bind intsD with
    | some (n :: ns) => some (PyData.int (ns.foldl max n))
    | _ => none) = _
  rw [Option.bind_some, intsD_map]
/-! ### dicts that count the distinct -/
def kvD (v : D) (m : List Int) : List (Key × D) := m.map fun l => ((.inl l : Key), v)
theorem putD_kv (v : D) (m : List Int) (l : Int) : putD (kvD v m) (.inl l) v = kvD v (if l ∈ m then m else m ++ [l]) := by
  unfold putD
  have a : ((kvD v m).any fun kv => decide (kv.1 = (.inl l : Key))) = decide (l ∈ m) := by
    rw [Bool.eq_iff_iff, List.any_eq_true, decide_eq_true_iff]
    unfold kvD
    constructor
    · rintro ⟨z, hz, e⟩
      obtain ⟨i, hi, rfl⟩ := List.mem_map.mp hz
      have : i = l := Sum.inl.inj (of_decide_eq_true e)
      rw [← this]; exact hi
    · intro h
      exact ⟨_, List.mem_map.mpr ⟨l, h, rfl⟩, decide_eq_true rfl⟩
  rw [a]
  by_cases h : l ∈ m
  · rw [decide_eq_true h, if_pos rfl, if_pos h]
    unfold kvD
    rw [List.map_map]
    refine List.map_congr_left fun z _ => ?_
    show (if (.inl z : Key) = .inl l then ((.inl z : Key), v) else ((.inl z : Key), v)) = _
    split <;> rfl
  · rw [decide_eq_false h, if_neg Bool.false_ne_true, if_neg h]
    unfold kvD
    rw [List.map_append]; rfl
theorem mergeD_kv (v : D) (ls : List Int) : mergeD [] (kvD v ls) = kvD v (metOf ls) := by
  have key : ∀ (ls m : List Int), mergeD (kvD v m) (kvD v ls) = kvD v (ls.foldl (fun m l => if l ∈ m then m else m ++ [l]) m) := fun ls => by
    induction ls with
    | nil => intro m; rfl
    | cons a r ih =>
      intro m
      show mergeD (putD (kvD v m) (.inl a) v) (kvD v r) = _
      rw [putD_kv, ih]; rfl
  exact key ls []
theorem pairsO_kv (v : D) (ls : List Int) : pairsO (ls.map fun l => .tuple [.int l, v]) = some (kvD v ls) := by
  induction ls with
  | nil => rfl
  | cons a r ih => rw [List.map_cons]; unfold pairsO; rw [ih]; rfl
theorem outD_len (kvs : List (Key × D)) : sLenD [outD kvs] = some (.int kvs.length) := by
  unfold outD
  rw [u_lenDD, List.length_map]
theorem dict_kv (v : D) (ls : List Int) : sDict [.list (ls.map fun l => .tuple [.int l, v])] = some (outD (kvD v (metOf ls))) := by
  show (pairsO _).map _ = _
  rw [pairsO_kv, Option.map_some, mergeD_kv]
theorem kvD_len (v : D) (m : List Int) : (kvD v m).length = m.length := by simp [kvD]
theorem dcGo_kv {tg : SG} (v : D) (ρ : Ev) (g : G) (ls : List Int) (hl : ls.length ≤ 1000) (h : ∀ l, ∃ ρ1, tg (.int l) ρ = some ρ1 ∧ f ρ1 g = some (.int l, g) ∧ k ρ1 g = some (v, g)) :
    dcGo tg bYes f k ρ (ls.map .int) [] g = some (kvD v (metOf ls), g) := by
  have key : ∀ (ls m : List Int), ls.length + m.length ≤ 1000 → dcGo tg bYes f k ρ (ls.map .int) (kvD v m) g = some (kvD v (ls.foldl (fun m l => if l ∈ m then m else m ++ [l]) m), g) := fun ls => by
    induction ls with
    | nil => intro m _; rfl
    | cons a r ih =>
      intro m hm
      obtain ⟨ρ1, e1, e2, e3⟩ := h a
      rw [List.map_cons]
      unfold dcGo
      have z : (kvD v m).length < sizeLine := by rw [kvD_len, sizeLine_eq]; simp at hm; omega
      have hk : keyO (.int a) = some (.inl a) := rfl
      simp only [mbnd, mlift, e1, bYes, mret, e2, e3, hk, mguard, decide_eq_true z]
      have hz : (if a ∈ m then m else m ++ [a]).length ≤ m.length + 1 := by split <;> simp
      rw [putD_kv, ih _ (by rw [List.length_cons] at hm; omega)]; rfl
  exact key ls [] (by simpa using hl)
end
end Q

set_option Elab.async false
set_option linter.all false
set_option maxRecDepth 100000
/-! QV: the pure layer: three names stored at once. -/
namespace Q
open PySem PySem.Spec PyProof.Rows L2
section
variable {X : Cx} {B : Bs} {ss : Option Nat} {O O1 O2 O3 O4 Ob : List Nat} {a b c : Expr} {f h k : SE} {pos : Pos} {x y z : Str}
def sPar3 (i j l : Nat) (f h k : SE) : SS := fun ρ => mbnd (f ρ) fun d => mbnd (h ρ) fun e => mbnd (k ρ) fun w => mret (.nx (((ρ.set i (some d)).set j (some e)).set l (some w)))
theorem q_par3 {k1 k2 : Nat} {px py pz pt pt2 : Pos} (i j l : Nat) (hc : X.calm = true) (hN : X.N.Nodup) (ha : PE X a (tE X.K B ss O O1 .fz f)) (hb : PE X b (tE X.K B ss O1 O2 .fz h)) (hd : PE X c (tE X.K B ss O2 O3 .fz k)) (hO : ((O3.filter (· ≠ i)).filter (· ≠ j)).filter (· ≠ l) = O4 := by rfl)
    (hsi : ss ≠ some i := by decide) (hsj : ss ≠ some j := by decide) (hsl : ss ≠ some l := by decide)
    (hi : X.N[i]? = some x := by rfl) (hj : X.N[j]? = some y := by rfl) (hl : X.N[l]? = some z := by rfl) (hij : i ≠ j := by decide) (hil : i ≠ l := by decide) (hjl : j ≠ l := by decide)
    (hx : X.env.scope.names.lookup x = some .local := by rfl) (hy : X.env.scope.names.lookup y = some .local := by rfl) (hz : X.env.scope.names.lookup z = some .local := by rfl)
    (hw : swappedStores [.Tuple [.Name x px, .Name y py, .Name z pz] k1 pt] (.Tuple [a, b, c] k2 pt2) X.env = pure (some [x, y, z]) := by rfl)
    (hs : swapsWithSole [.Tuple [.Name x px, .Name y py, .Name z pz] k1 pt] (.Tuple [a, b, c] k2 pt2) pos.line X.env = pure false := by rfl)
    (n1 : starEach [a, b, c] X.env = (false, eval a X.env) :: starEach [b, c] X.env := by rfl) (n2 : starEach [b, c] X.env = (false, eval b X.env) :: starEach [c] X.env := by rfl) (n3 : starEach [c] X.env = (false, eval c X.env) :: starEach [] X.env := by rfl) :
    PS X (.Assign [.Tuple [.Name x px, .Name y py, .Name z pz] k1 pt] (.Tuple [a, b, c] k2 pt2) pos) (tS X.K B ss O O4 Ob (sPar3 i j l f h k)) :=
  ps_imp (ps_par3 hc hN hi hj hl hij hil hjl hx hy hz (pa_cons ha (pa_cons hb (pa_cons hd pa_nil n3) n2) n1) hw hs) fun E σ H ⟨F, ρ, g, fl, g', I, ef, q⟩ => by
  subst hO
  obtain ⟨d, g1, e1, e2⟩ := mbnd_some ef
  obtain ⟨d2, g2, e3, e4⟩ := mbnd_some e2
  obtain ⟨d3, g3, e5, e6⟩ := mbnd_some e4
  cases e6
  exact ⟨F, ρ, g, d, g1, I, e1, fun x' H' F' I' E' r => ⟨F', ρ, g1, d2, g2, I', e3, fun y' H2 F2 I2 E2 r2 => ⟨F2, ρ, g2, d3, _, I2, e5, fun z' H3 F3 I3 E3 r3 => ⟨x', y', z', rfl,
    q _ H3 F3 (((I3.set hsi (Rep.mono (E2.stay.trans E3.stay) r)).set hsj (Rep.mono E3.stay r2)).set hsl r3) (E'.stay.trans (E2.stay.trans E3.stay))⟩⟩⟩⟩
@[simp] theorem u_par3 {i j l : Nat} {ρ : Ev} {g : G} : sPar3 i j l f h k ρ g = (mbnd (f ρ) fun d => mbnd (h ρ) fun e => mbnd (k ρ) fun w => mret (.nx (((ρ.set i (some d)).set j (some e)).set l (some w)))) g := Eq.trans rfl rfl
end
end Q

set_option Elab.async false
set_option linter.all false
set_option maxRecDepth 100000
/-! QW: the pure layer: defs that call themselves, by fuel. -/
namespace Q
open PySem PySem.Spec PyProof.Rows L2
section
variable {P : Program} {w : World} {K : PySem.W.Frag} {mg : Str → Option Value} {base : Heap} {k n : Nat} {f : Addr} {fd : FuncData} {ps : List Str}
/-- without fuel nothing is promised -/
theorem gok_noneD {sem : List D → M D} (h : ∀ ds g, sem ds g = none) : GOk P w K mg base CX0 k f fd ps (spD K n sem) where
  len := fun vs H R E hs => by
    obtain ⟨F, p, g, ds, r, g', vs', _, _, _, _, _, _, _, e, _⟩ := hs
    rw [h] at e; cases e
  run := fun A outer s H args us vs R E _ _ _ _ _ hs => by
    obtain ⟨F, p, g, ds, r, g', vs', _, _, _, _, _, _, _, e, _⟩ := hs
    rw [h] at e; cases e
theorem gok_noneP {sem : List D → Option D} (h : ∀ ds, sem ds = none) : GOk P w K mg base CX0 k f fd ps (spP K n sem) where
  len := fun vs H R E hs => by
    obtain ⟨F, ds, r, _, _, _, e, _⟩ := hs
    rw [h] at e; cases e
  run := fun A outer s H args us vs R E _ _ _ _ _ hs => by
    obtain ⟨F, ds, r, _, _, _, e, _⟩ := hs
    rw [h] at e; cases e
end
end Q

set_option Elab.async false
set_option linter.all false
set_option maxRecDepth 100000
/-! QX: the pure layer: sorted of data. -/
namespace Q
open PySem PySem.Spec PyProof.Rows L2
open PySem.W (SortsAt AllAlike Sortable EachIs dataKind dataKind_some dataKind_inv dataLe dataLt alike alikeAll alike_all_cons looks_reads kas_first_eq kas_mapM)
/-! ### tuples among which some are empty -/
def fstV (h : Heap) : Value → Option Value
  | .ref a => match h.get? a with
    | some o => match o.data with
      | .seq xs _ => xs[0]?
      | _ => none
    | none => none
  | _ => none
section
variable {M : Model} {A : Around} {E : Value → Shared → Prop} {s : Shared}
theorem mapM_to {α β : Type} {f : α → Sem β} {g : α → β} : ∀ (l : List α) {Q : List β → Shared → Prop}, (∀ v ∈ l, ∀ (Q' : β → Shared → Prop), Q' (g v) s → wpAny M A (f v) Q' E s) → Q (l.map g) s → wpAny M A (l.mapM f) Q E s
  | [], _, _, h => by rw [List.mapM_nil]; exact wpAny_pure h
  | x :: l, Q, hf, h => by
    rw [List.mapM_cons]
    exact wpAny_bind (hf x (.head _) _ (wpAny_bind (mapM_to l (Q := fun bs s' => wpAny M A (pure (g x :: bs)) Q E s') (fun v hv => hf v (.tail _ hv)) (wpAny_pure h))))
theorem first_tup {v : Value} {ds : List PyData} {as : List Addr} {Q : Option Value → Shared → Prop} (r : Reads s.heap v (.tuple ds) as) (h : Q (fstV s.heap v) s) : wpAny M A (firstOfTuple' v) Q E s := by
  cases r with
  | @tuple a o vs n _ _ h1 h2 h3 h4 =>
    rw [kas_first_eq]
    refine wpAny_bind (PySem.W.Looks.here (show PySem.W.Looks M s.heap (typeOf (.ref a)) o.cls from (PySem.W.Looks.ld h1).andThen .now) ?_)
    rw [h2, if_neg (by first | decide | simp)]
    refine wpAny_bind (listItems_at h1 h3 (wpAny_pure ?_))
    have e : fstV s.heap (.ref a) = vs[0]? := by
      unfold fstV
      simp only [h1, h3]
    rw [e] at h
    exact h
theorem fst_none {h : Heap} {v : Value} {as : List Addr} (r : Reads h v (.tuple []) as) : fstV h v = none := by
  cases r with
  | @tuple a o vs n _ _ h1 h2 h3 h4 =>
    have e : vs.toList = [] := List.eq_nil_of_length_eq_zero (by simpa using SeqAt.ReadsAll.length _ _ _ h4)
    have e2 : vs = #[] := by simpa using e
    unfold fstV
    simp only [h1, h3, e2]; rfl
def mixK (h : Heap) (vs : List Value) : SortKind := if ((vs.map (fstV h)).toArray[0]?.bind id).isSome then general' else oneType'
/-- the kind of tuples of which one is empty -/
theorem kind_mixed {vs : List Value} {Q : SortKind → Shared → Prop} (h2 : 2 ≤ vs.length) (ht : ∀ v ∈ vs, ∃ ds as, Reads s.heap v (.tuple ds) as) (hm : ∃ v ∈ vs, ∃ as, Reads s.heap v (.tuple []) as) (h : Q (mixK s.heap vs) s) : wpAny M A (keyKind' vs.toArray) Q E s := by
  obtain ⟨v₁, v₂, rest, rfl⟩ : ∃ v₁ v₂ rest, vs = v₁ :: v₂ :: rest := by
    match vs, h2 with
    | [], h2 => simp at h2
    | [_], h2 => simp at h2
    | v₁ :: v₂ :: rest, _ => exact ⟨v₁, v₂, rest, rfl⟩
  rw [keyKind'_eq, List.mapM_toArray, map_eq_pure_bind]
  refine wpAny_bind (wpAny_bind (mapM_to (g := fstV s.heap) _ (fun v hv Q' hq => ?_) (wpAny_pure ?_)))
  · obtain ⟨ds, as, r⟩ := ht v hv
    exact first_tup r hq
  · have na : ¬ (((v₁ :: v₂ :: rest).map (fstV s.heap)).toArray.all fun x => x.isSome) = true := by
      simp only [List.all_toArray, List.all_map, List.all_eq_true]
      intro h
      obtain ⟨v, hv, as, r⟩ := hm
      have := h v hv
      simp only [Function.comp_apply, fst_none r] at this
      cases this
    rw [if_neg na]
    unfold mixK at h
    split
    · rename_i q; rw [if_pos q] at h; exact wpAny_pure h
    · rename_i q; rw [if_neg q] at h
      rw [oneTypeOnly'_eq, List.mapM_toArray, map_eq_pure_bind]
      refine wpAny_bind (wpAny_bind (wpAny_bind (kas_mapM (r := Value.type "tuple") _ (fun v hv Q' hq => ?_) (wpAny_pure ?_))))
      · obtain ⟨ds, as, r⟩ := ht v hv
        exact (looks_reads r).here hq
      · have hall : ((List.map (fun _ => Value.type "tuple") (v₁ :: v₂ :: rest)).toArray.all fun x => x == Value.type "tuple") = true := by
          simp only [List.all_toArray, List.all_map, List.all_eq_true]
          intro _ _
          exact beq_self_eq_true _
        have h0 : (List.map (fun _ => Value.type "tuple") (v₁ :: v₂ :: rest)).toArray[0]? = some (Value.type "tuple") := by simp
        rw [h0]
        simp only [hall, if_true]
        exact wpAny_pure (wpAny_pure h)
end
section
variable {prog : Program} {w : World} {A : Around} {E : Value → Shared → Prop} {s : Shared}
theorem call_tuple_lt {Q : Value → Shared → Prop} {l b : Addr} {items items2 : Array Value} {e r : Nat → Bool} (hl : s.heap.IsTuple l items) (hb : s.heap.IsTuple b items2)
    (he : ∀ j (h1 : j < items.size) (h2 : j < items2.size), SeqAt.EqAt A.in1 s items[j] items2[j] (e j)) (hr : ∀ j (h1 : j < items.size) (h2 : j < items2.size), e j = false → SeqAt.RcLt A.in1 s items[j] items2[j] (r j))
    (h : Q (.bool (SeqAt.firstLt e r (decide (items.size < items2.size)) (List.range (min items.size items2.size)))) s) : wpAny (model prog w) A (call (.builtin "tuple.__lt__") [.ref l, .ref b]) Q E s := by
  obtain ⟨⟨cls, dd, data, sl⟩, ho, hc, n, hd⟩ := id hl
  obtain ⟨⟨cls2, dd2, data2, sl2⟩, ho2, hc2, n2, hd2⟩ := id hb
  simp only at hc hd hc2 hd2
  subst hc hd hc2 hd2
  exact call_meets PySem.F.slot_tuple_lt ⟨_, ho, rfl⟩ PySem.F.entry_tuple_lt (PySem.F.args_tuple_lt_2 _ _) (SeqAt.tuple_ltAt l b items items2 n n2 dd dd2 sl sl2 e r) ⟨ho, ho2, he, hr, h⟩
theorem oneLt_tup {xs ys : List PyData} {a b : Value} {as bs : List Addr} {Q : Bool → Shared → Prop} (ra : Reads s.heap a (.tuple xs) as) (rb : Reads s.heap b (.tuple ys) bs) (h : alike (.tuple xs) (.tuple ys) = true)
    (hu : A.units + min (PyData.tuple xs).depth (PyData.tuple ys).depth < cLine) (hq : Q (dataLt (.tuple xs) (.tuple ys)) s) : wpAny (model prog w) A (oneLt' true a b) Q E s := by
  have hal : alikeAll xs ys = true := by simpa [alike] using h
  cases ra with
  | @tuple l o vs n _ as₁ h1 h2 h3 h4 =>
    cases rb with
    | @tuple l' o' vs' n' _ bs₁ k1 k2 k3 k4 =>
      have n1 : vs.size = xs.length := by simpa using SeqAt.ReadsAll.length _ _ _ h4
      have n2 : vs'.size = ys.length := by simpa using SeqAt.ReadsAll.length _ _ _ k4
      rw [PySem.W.dataLt_tuple, ← PySem.W.firstLt_toks xs ys hal, ← n1, ← n2] at hq
      rw [oneLt'_eq]
      simp only [if_true]
      refine wpAny_bind (wpAny_cRoomFor (SeqAt.room_here hu) ?_)
      refine wpAny_bind (wpAny_callSpecialIfBound?_slot (T := "tuple") ⟨_, h1, h2⟩ PySem.F.slot_tuple_lt (call_tuple_lt (e := SeqAt.pairEq xs ys) (r := fun j => dataLt (xs.getD j .none) (ys.getD j .none)) ⟨_, h1, h2, _, h3⟩ ⟨_, k1, k2, _, k3⟩ (fun j j1 j2 => ?_) (fun j j1 j2 hj => ?_) ?_))
      · have := PySem.W.eqAt_alikeAll xs ys A.in1 s vs.toList vs'.toList _ _ h4 k4 hal (SeqAt.room_in hu) j (by simpa using j1) (by simpa using j2)
        simpa using this
      · have := PySem.W.rcLt_alikeAll xs ys A.in1 s vs.toList vs'.toList _ _ h4 k4 hal (SeqAt.room_in hu) j (by simpa using j1) (by simpa using j2) hj
        simpa using this
      · exact wpAny_truthy_bool hq
end

section
variable {prog : Program} {w : World} {A : Around} {E : Value → Shared → Prop} {s : Shared}
theorem sorts_mixed {vs : List Value} {ds : List PyData} (e : EachIs (fun v d => ∃ as, Reads s.heap v d as) vs ds) (hal : AllAlike ds) (ht : ∀ d, d ∈ ds → ∃ xs, d = .tuple xs) (hm : PyData.tuple [] ∈ ds) (hu : ∀ d, d ∈ ds → A.units + d.depth < cLine) : SortsAt prog w A s (dataKind s.heap ds) vs := by
  have room : ∀ {d d' : PyData}, d ∈ ds → A.units + min d.depth d'.depth < cLine := fun {d d'} hd => Nat.lt_of_le_of_lt (Nat.add_le_add_left (Nat.min_le_left _ _) _) (hu d hd)
  refine ⟨fun v hv => ?_, ?_⟩
  · obtain ⟨d, hd, as, r⟩ := e.left v hv
    exact ⟨_, dataKind_some hal hd r⟩
  have hg : ∀ (b : Bool) (E : Value → Shared → Prop) x y a b' (Q : Bool → Shared → Prop), (dataKind s.heap ds).keyOf x = some a → (dataKind s.heap ds).keyOf y = some b' → Q ((dataKind s.heap ds).blt a b') s → wpAny (model prog w) A (oneLt' b x y) Q E s := by
    intro b E x y a b' Q ha hb hq
    obtain ⟨d, as, hd, ra, rfl⟩ := dataKind_inv ha
    obtain ⟨d', as', hd', rb, rfl⟩ := dataKind_inv hb
    have hdd := hal d hd d' hd'
    have hroom := room (d' := d') hd
    obtain ⟨xs, rfl⟩ := ht d hd
    obtain ⟨ys, rfl⟩ := ht d' hd'
    cases b with
    | true => exact oneLt_tup ra rb hdd hroom hq
    | false => exact PySem.W.oneLt_alike (fun z => by cases z) ra rb hdd (fun z => by cases z) hroom hq
  have tup : ∀ v ∈ vs, ∃ xs as, Reads s.heap v (.tuple xs) as := fun v hv => by
    obtain ⟨d, hd, as, r⟩ := e.left v hv
    obtain ⟨xs, rfl⟩ := ht d hd
    exact ⟨xs, as, r⟩
  have right : ∀ {vs : List Value} {ds : List PyData}, EachIs (fun v d => ∃ as, Reads s.heap v d as) vs ds → ∀ d ∈ ds, ∃ v ∈ vs, ∃ as, Reads s.heap v d as := fun {vs ds} e => by
    induction e with
    | nil => intro d h; cases h
    | cons h t ih =>
      intro d hd
      rcases List.mem_cons.mp hd with rfl | hd
      · exact ⟨_, List.mem_cons_self, h⟩
      · obtain ⟨v, hv, q⟩ := ih d hd
        exact ⟨v, List.mem_cons_of_mem _ hv, q⟩
  refine ⟨mixK s.heap vs, fun E x y a b Q ha hb hq => ?_, fun h2 E Q hq => kind_mixed h2 tup (right e _ hm) hq⟩
  unfold mixK
  split
  · exact hg false E x y a b Q ha hb hq
  · rw [keyLt'_oneType]; exact hg true E x y a b Q ha hb hq
/-- data that are alike, None apart, can be sorted -/
theorem sorts_data {vs : List Value} {ds : List PyData} (e : EachIs (fun v d => ∃ as, Reads s.heap v d as) vs ds) (hal : AllAlike ds) (hn : ∀ d ∈ ds, d ≠ .none) (hu : ∀ d, d ∈ ds → A.units + d.depth < cLine) : SortsAt prog w A s (dataKind s.heap ds) vs := by
  by_cases hm : PyData.tuple [] ∈ ds
  · refine sorts_mixed e hal (fun d hd => ?_) hm hu
    have q := hal _ hm d hd
    cases d with
    | tuple xs => exact ⟨xs, rfl⟩
    | _ => simp [alike] at q
  · by_cases h2 : ∃ xs, PyData.tuple xs ∈ ds
    · obtain ⟨xs, hx⟩ := h2
      refine SortsAt.data e hal (.inl fun d hd => ?_) hu
      have q := hal _ hx d hd
      cases d with
      | tuple ys =>
        cases ys with
        | nil => exact absurd hd hm
        | cons y r => exact ⟨y, r, rfl⟩
      | _ => simp [alike] at q
    · exact SortsAt.data e hal (.inr fun d hd => ⟨hn d hd, fun xs z => h2 ⟨xs, z ▸ hd⟩⟩) hu
end

/-! ### sorted(..) of what is collected -/
abbrev BD := V × D
section
variable {prog : Program} {w : World} {A : Around} {E : Value → Shared → Prop} {s : Shared}
theorem sorted_coll {r : Addr} {bs : List BD} {Q : Value → Shared → Prop} (hal : AllAlike (bs.map (·.2))) (hn : ∀ b ∈ bs, b.2 ≠ .none) (hL : bs.length ≤ sizeLine) (hu : ∀ b ∈ bs, A.units + 2 + b.2.depth < cLine)
    (hc : ∀ {R : List Value → Shared → Prop} {E : Value → Shared → Prop}, (∀ (h' : Heap) (tk : Nat) (vs : List Value), (∀ b o, s.heap.get? b = some o → h'.get? b = some o) → EachIs (fun v (b : BD) => RelV b.1 v) vs bs → EachIs (fun v (b : BD) => ∃ as, Reads h' v b.2 as) vs bs → R vs { s with heap := h', toks := tk }) → wpAny (model prog w) A.in1 (collect (.ref r)) R E s)
    (h : ∀ (h1 h' : Heap) (tk : Nat) (out : List Value) (n : Nat), (∀ b o, s.heap.get? b = some o → h1.get? b = some o) → (∀ b o, h1.get? b = some o → h'.get? b = some o) → h'.get? h1.objs.size = some (seqObj "list" out.toArray n) → EachIs (fun v (b : BD) => RelV b.1 v) out (bs.mergeSort (dataLe false (·.2))) → Q (.ref h1.objs.size) { s with heap := h', toks := tk }) :
    wpAny (model prog w) A (call (.builtin "sorted") [.ref r]) Q E s := by
  refine Calls.call_function_entry kind_sorted plain_sorted entry_sorted (args_sorted1 _) ?_
  unfold Builtin.«sorted»
  refine wpAny_bind (m := checkCount "sorted" 1 1 _) (wpAny_pure ?_)
  refine wpAny_bind (hc fun h1 tk vs hk er rd => ?_)
  have hl : vs.length = bs.length := er.length
  refine wpAny_bind (wpAny_newList ?_ (by rw [hl]; exact hL))
  have hoL : (h1.push (seqObj "list" vs.toArray 0)).get? h1.objs.size = some (seqObj "list" vs.toArray 0) := Heap.get?_push_size _ rfl
  show wpAny _ _ _ _ _ { s with heap := h1.push (seqObj "list" vs.toArray 0), toks := tk }
  have kp : ∀ b o, h1.get? b = some o → b ≠ h1.objs.size ∧ (h1.push (seqObj "list" vs.toArray 0)).get? b = some o := fun b o e => ⟨Nat.ne_of_lt (Heap.lt_size e), Heap.get?_push_of_some _ e⟩
  have rd2 : EachIs (fun v d => ∃ as, Reads (PySem.W.sortingHeap (h1.push (seqObj "list" vs.toArray 0)) h1.objs.size vs) v d as) vs (bs.map (·.2)) :=
    PySem.W.each_map (R := fun v d => ∃ as, Reads (PySem.W.sortingHeap (h1.push (seqObj "list" vs.toArray 0)) h1.objs.size vs) v d as) (·.2) (rd.mono fun v b ⟨as, q⟩ => ⟨as, PyProof.Rows.Reads.keeps (fun b o e => PySem.W.sortingHeap_old (Nat.ne_of_lt (Heap.lt_size e)) (Heap.get?_push_of_some _ e)) q⟩)
  have hnn : ∀ d ∈ bs.map (·.2), d ≠ .none := fun d hd => by
    obtain ⟨b, hb, rfl⟩ := List.mem_map.mp hd
    exact hn b hb
  have S := sorts_data (prog := prog) (w := w) (A := A.in1.in1) (s := { s with heap := PySem.W.sortingHeap (h1.push (seqObj "list" vs.toArray 0)) h1.objs.size vs, toks := tk }) rd2 hal hnn (PySem.W.bound_map hu)
  refine wpAny_bind (wpAny_holding (wpAny_call_entry slot_list_sort ⟨_, hoL, rfl⟩ entry_list_sort (PySem.W.list_sort_vals (s := { s with heap := h1.push (seqObj "list" vs.toArray 0), toks := tk }) hoL S (by rw [hl]; exact hL) ⟨_, rfl, ?_⟩) (args_list_sort _)))
  obtain ⟨e', he'⟩ := sortedHeap_at (vs := vs) (out := (PySem.W.sortVals (dataKind (PySem.W.sortingHeap (h1.push (seqObj "list" vs.toArray 0)) h1.objs.size vs) (bs.map (·.2))) false vs vs).toArray) hoL
  have er2 := PySem.W.sortVals_data (h' := PySem.W.sortingHeap (h1.push (seqObj "list" vs.toArray 0)) h1.objs.size vs) (enc := fun b : BD => b.2) false er (rd.mono fun v b ⟨as, q⟩ => ⟨as, PyProof.Rows.Reads.keeps (fun b o e => PySem.W.sortingHeap_old (Nat.ne_of_lt (Heap.lt_size e)) (Heap.get?_push_of_some _ e)) q⟩) hal
  refine wpAny_pure ⟨_, rfl, h h1 _ tk (PySem.W.sortVals (dataKind (PySem.W.sortingHeap (h1.push (seqObj "list" vs.toArray 0)) h1.objs.size vs) (bs.map (·.2))) false vs vs) e' hk (fun b o e => ?_) he' er2⟩
  obtain ⟨n1, n2⟩ := kp b o e
  rw [sortedHeap_old n1 (by rw [size_push']; exact Nat.lt_succ_of_lt (Heap.lt_size e))]
  exact n2
theorem collect_tuple {l : Addr} {vs : List Value} {Q : List Value → Shared → Prop} (hl : s.heap.IsTuple l vs.toArray)
    (h : Q vs { s with heap := (s.heap.push (seqObj "list" #[] 0)).update s.heap.objs.size (Obj.mapSeq (· ++ vs.toArray)) }) (hsz : vs.length ≤ sizeLine) :
    wpAny (model prog w) A (collect (.ref l)) Q E s := by
  obtain ⟨o, ho, hc, n, hd⟩ := id hl
  unfold collect
  refine wpAny_bind (wpAny_runValue (codeAny_builtin entry_proto_collect' ?_))
  show wpAny _ _ (do again (.builtin "list.__iadd__" ⟨[← newList [], .ref l], []⟩)) _ _ s
  refine wpAny_bind (wpAny_newList (wpAny_pure ⟨Code.quiet_builtin _ (by decide +kernel), codeAny_builtin entry_list_iadd' ?_⟩))
  show wpAny _ _ (Builtin.List.listExtendWith (.ref s.heap.objs.size) (.ref l) (.ref s.heap.objs.size)) _ _ { s with heap := s.heap.push (seqObj "list" #[] 0) }
  unfold Builtin.List.listExtendWith
  have ho' : (s.heap.push (seqObj "list" #[] 0)).get? l = some o := Heap.get?_push_of_some _ ho
  refine wpAny_bind (wpAny_typeOf (T := "tuple") ⟨o, ho', hc⟩ ?_)
  have ht : (Value.type "tuple" == Value.type "tuple") = true := by rfl
  rw [if_pos (by rw [ht]; simp)]
  refine wpAny_bind (listItems_at ho' hd ?_)
  refine wpAny_bind (listItems_at (xs := #[]) (n := 0) (Heap.get?_push_size _ rfl) rfl ?_)
  rw [if_neg (by simp)]
  refine wpAny_bind (listUpdate_at (xs := #[]) (n := 0) (Heap.get?_push_size _ rfl) rfl ?_ (Nat.zero_le _) (by show (#[] ++ vs.toArray).size ≤ sizeLine + 1; simp only [Array.size_append, List.size_toArray, List.length_nil]; omega))
  refine wpAny_pure ?_
  show wpAny (model prog w) A (do
      let o ← load s.heap.objs.size
      match o.data with
      | .seq xs _ => pure xs.toList
      | _ => unsupported "internal:collect") Q E { s with heap := (s.heap.push (seqObj "list" #[] 0)).update s.heap.objs.size (Obj.mapSeq (· ++ vs.toArray)) }
  refine wpAny_bind (wpAny_load (get?_update_seq (Heap.get?_push_size _ rfl) _) ?_)
  show wpAny _ _ (pure ((#[] : Array Value) ++ vs.toArray).toList) Q E _
  rw [show ((#[] : Array Value) ++ vs.toArray).toList = vs by simp]
  exact wpAny_pure h
end

def SrcS (K : PySem.W.Frag) (H : Hp) (a : Addr) (bs : List BD) : Prop := SqL K H a (bs.map (·.1)) ∨ SqT K H a (bs.map (·.1)) ∨ ∃ kvs : List (Key × V), Rd H a (.dK kvs) ∧ bs.map (·.1) = kvs.map fun q => kV q.1
def srtV (bs : List BD) : List V := (bs.mergeSort (dataLe false (·.2))).map (·.1)
theorem each_rel : ∀ {bs : List BD} {vs : List Value}, Vals (bs.map (·.1)) vs → EachIs (fun v (b : BD) => RelV b.1 v) vs bs
  | [], _, r => by cases r; exact .nil
  | b :: bs, _, r => by
    have r' : Vals (b.1 :: bs.map (·.1)) _ := r
    cases r' with
    | cons a q => exact .cons a (each_rel q)
theorem rel_each {bs : List BD} {vs : List Value} (h : EachIs (fun v (b : BD) => RelV b.1 v) vs bs) : Vals (bs.map (·.1)) vs := by
  induction h with
  | nil => exact .nil
  | cons a _ ih => exact .cons a ih
section
variable {X : Cx}
def okS (A : Around) (bs : List BD) : Prop := AllAlike (bs.map (·.2)) ∧ (∀ b ∈ bs, b.2 ≠ .none) ∧ bs.length ≤ sizeLine ∧ ∀ b ∈ bs, A.units + 2 + b.2.depth < cLine
theorem sorted_end {pins : List (Addr × Obj)} {σ : L2.St} {H : Hp} {s : Shared} {bs : List BD} {Q : VK} {h1 h' : Heap} {tk : Nat} {out : List Value} {n : Nat} (I : Inv X pins σ H s) (hL : bs.length ≤ sizeLine) (q : ∀ p, H p = none → Q (.ref p) (upd H p (.lst (srtV bs))))
    (k1 : ∀ b o, s.heap.get? b = some o → h1.get? b = some o) (k2 : ∀ b o, h1.get? b = some o → h'.get? b = some o) (ho : h'.get? h1.objs.size = some (seqObj "list" out.toArray n)) (e : EachIs (fun v (b : BD) => RelV b.1 v) out (bs.mergeSort (dataLe false (·.2)))) : EP X pins σ Q (.ref h1.objs.size) { s with heap := h', toks := tk } := by
  have I1 : Inv X pins σ H { s with heap := h1, toks := tk } := I.kept k1
  have I2 : Inv X pins σ (upd H h1.objs.size (.lst (srtV bs))) { s with heap := h', toks := tk } := I1.laid (t' := tk) k2 (Nat.le_refl _) ⟨by
    unfold srtV
    rw [List.length_map, List.length_mergeSort]
    exact hL, out, n, rel_each e, ho⟩
  exact ⟨.ref h1.objs.size, _, I2, rfl, q _ (I1.hok.fresh (Nat.le_refl _))⟩
theorem cr_sortedD (hc : X.calm = true) : CallR X (.builtin "sorted") (fun xs H Q => ∃ a bs, xs = [.ref a] ∧ SrcS X.K H a bs ∧ DpAll X.K H (bs.map (·.1)) (bs.map (·.2)) ∧ okS X.A bs ∧ ∀ p, H p = none → Q (.ref p) (upd H p (.lst (srtV bs)))) := by
  intro pins s σ H xs us Q I r h
  obtain ⟨a, bs, rfl, hs, hd, ⟨o1, o2, o3, o4⟩, q⟩ := h
  obtain ⟨u, rfl, ru⟩ := vals1 r
  obtain rfl : u = Value.ref a := ru
  refine sorted_coll o1 o2 o3 o4 (fun hR => ?_) fun h1 h' tk out n k1 k2 ho e => sorted_end I o3 q k1 k2 ho e
  have fin : ∀ vs : List Value, Vals (bs.map (·.1)) vs → EachIs (fun v (b : BD) => RelV b.1 v) vs bs ∧ EachIs (fun v (b : BD) => ∃ as, Reads s.heap v b.2 as) vs bs := fun vs rv => by
    obtain ⟨as, ra⟩ := Dp.readsAll I _ _ _ hd rv
    exact ⟨each_rel rv, PySem.W.readsAll_each (fun b : BD => b.2) ra⟩
  have up : ∀ {h' : Heap} {vs : List Value}, (∀ b o, s.heap.get? b = some o → h'.get? b = some o) → EachIs (fun v (b : BD) => ∃ as, Reads s.heap v b.2 as) vs bs → EachIs (fun v (b : BD) => ∃ as, Reads h' v b.2 as) vs bs := fun kp e => e.mono fun v b ⟨as, q⟩ => ⟨as, PyProof.Rows.Reads.keeps kp q⟩
  rcases hs with hs | hs | ⟨kvs, hs, hb⟩
  · obtain ⟨its, rv, pl, hz⟩ := I.list hs
    obtain ⟨e1, e2⟩ := fin its rv
    refine collect_list pl.isList ?_ (by rw [← rv.length]; exact hz)
    have kp : ∀ b o, s.heap.get? b = some o → ((s.heap.push (seqObj "list" #[] 0)).update s.heap.objs.size (Obj.mapSeq (· ++ its.toArray))).get? b = some o := fun b o e => by
      rw [Heap.get?_update_ne _ _ _ _ (Nat.ne_of_lt (Heap.lt_size e))]
      exact Heap.get?_push_of_some _ e
    exact hR _ s.toks its kp e1 (up kp e2)
  · obtain ⟨its, rv, pl, hz⟩ := I.tuple hs
    obtain ⟨e1, e2⟩ := fin its rv
    refine collect_tuple pl ?_ (by rw [← rv.length]; exact hz)
    have kp : ∀ b o, s.heap.get? b = some o → ((s.heap.push (seqObj "list" #[] 0)).update s.heap.objs.size (Obj.mapSeq (· ++ its.toArray))).get? b = some o := fun b o e => by
      rw [Heap.get?_update_ne _ _ _ _ (Nat.ne_of_lt (Heap.lt_size e))]
      exact Heap.get?_push_of_some _ e
    exact hR _ s.toks its kp e1 (up kp e2)
  · obtain ⟨z, lo, vs, rel, dd⟩ := dk_rd I.hok hs
    obtain ⟨ep, hat⟩ := dd.dictAt
    have hl : vs.length = bs.length := by
      have := congrArg List.length hb
      rw [List.length_map, List.length_map] at this
      rw [this, rel.length]
    refine PySem.W.kdu_collect (A := X.A.in1) (PySem.W.kdl_dict (knd := mixKind X.prog X.w) (kvs := vs) (ep := ep) lo) (I.ok.hd hc) hat (by rw [hl]; exact o3) fun h' tk acc hk hacc => ?_
    have rv : Vals (bs.map (·.1)) acc.toList := by
      have el : acc.toList.length = acc.size := by simp
      refine vals_of_at (by rw [List.length_map, el, hacc.1, hl]) fun j x w h1 h2 => ?_
      obtain ⟨k, y, hky, hi⟩ := hacc.2 j w (by rw [← Array.getElem?_toList]; exact h2)
      have e1 : (kvs.map (·.1))[j]? = some k := by
        rw [KV.keys rel, List.getElem?_map, hky] <;> rfl
      have e2 : (kvs.map fun kv => kV kv.1)[j]? = some (kV k) := by
        have e3 : (kvs.map fun kv => kV kv.1) = (kvs.map (·.1)).map kV := by rw [List.map_map] <;> rfl
        rw [e3, List.getElem?_map, e1] <;> rfl
      rw [hb, e2] at h1
      cases h1
      exact keyIs_rel hi
    obtain ⟨e1, e2⟩ := fin acc.toList rv
    exact hR h' tk acc.toList hk e1 (up hk e2)
/-- the keys' tuples, and what they are -/
def keyB (ks : List Addr) (kvs : List (List Key × V)) : List BD := List.zipWith (fun k q => (V.ref k, keyT q.1)) ks kvs
theorem keyB_fst : ∀ {ks : List Addr} {kvs : List (List Key × V)}, ks.length = kvs.length → (keyB ks kvs).map (·.1) = ks.map V.ref
  | [], [], _ => rfl
  | k :: ks, q :: kvs, h => by
    show V.ref k :: (keyB ks kvs).map (·.1) = _
    rw [keyB_fst (by simpa using h)]; rfl
theorem keyB_snd : ∀ {ks : List Addr} {kvs : List (List Key × V)}, ks.length = kvs.length → (keyB ks kvs).map (·.2) = kvs.map fun q => keyT q.1
  | [], [], _ => rfl
  | k :: ks, q :: kvs, h => by
    show keyT q.1 :: (keyB ks kvs).map (·.2) = _
    rw [keyB_snd (by simpa using h)]; rfl
theorem dpK {K : PySem.W.Frag} {H : Hp} : ∀ ks : List Key, DpAll K H (ks.map kV) (ks.map keyD)
  | [] => .nil
  | .inl i :: r => .cons (.int i) (dpK r)
  | .inr x :: r => .cons (.str x) (dpK r)
theorem dpKeys {K : PySem.W.Frag} {H : Hp} {ks : List Addr} {kvs : List (List Key × V)} (h : IsKeys H kvs ks) : DpAll K H ((keyB ks kvs).map (·.1)) ((keyB ks kvs).map (·.2)) := by
  unfold IsKeys at h
  induction h with
  | nil => exact .nil
  | cons a _ ih => exact .cons (.tup (.of a) (dpK _)) ih
theorem cr_sortedT (hc : X.calm = true) : CallR X (.builtin "sorted") (fun xs H Q => ∃ (a : Addr) (kvs : List (List Key × V)), xs = [.ref a] ∧ Rd H a (.dT kvs) ∧ (∀ ks, IsKeys H kvs ks → okS X.A (keyB ks kvs)) ∧ ∀ ks p, IsKeys H kvs ks → H p = none → Q (.ref p) (upd H p (.lst (srtV (keyB ks kvs))))) := by
  intro pins s σ H xs us Q I r h
  obtain ⟨d, kvs, rfl, hd, hok, q⟩ := h
  obtain ⟨u, rfl, rx⟩ := vals1 r
  obtain rfl : u = Value.ref d := rx
  obtain ⟨z, hs, ks, pr, o, es, ep, ho, hx, hdt, he, hn⟩ := (show ObjOk X.prog X.w H s.heap d (.dT kvs) from hd.ok I.hok)
  have l1 : es.size = ks.length := size_of_entries he
  have l2 : kvs.length = ks.length := Paired.length pr
  have ik := isKeys_of pr
  obtain ⟨o1, o2, o3, o4⟩ := hok _ ik
  have hl : (ks.map fun x => x.2.1).length = kvs.length := by rw [List.length_map]; exact l2.symm
  refine sorted_coll (bs := keyB (ks.map fun x => x.2.1) kvs) o1 o2 o3 o4 (fun hR => ?_) fun h1 h' tk out n k1 k2 ho e => sorted_end I o3 (fun p hp => q _ p ik hp) k1 k2 ho e
  refine PySem.W.kdu_collect (A := X.A.in1) (kdl_raw hs hx hdt) (I.ok.hd hc) ho (by omega) fun h' tk acc kp it => ?_
  have ea : acc.toList = ks.map fun x => Value.ref x.2.1 := by
    have hl : acc.toList.length = ks.length := by rw [Array.length_toList, it.1]; exact l1
    apply List.ext_getElem?
    intro j
    rw [List.getElem?_map]
    cases hj : acc.toList[j]? with
    | none =>
      have h1 := List.getElem?_eq_none_iff.mp hj
      rw [List.getElem?_eq_none (by omega)]
      all_goals rfl
    | some v =>
      obtain ⟨en, hen, hv⟩ := it.2 j v (by rw [← Array.getElem?_toList]; exact hj)
      have qe := entry_at he j
      rw [hen] at qe
      cases hb : ks[j]? with
      | none =>
        rw [hb] at qe
        exact nomatch (show some en = none from qe)
      | some b =>
        rw [hb] at qe
        have e2 : en = entryOfKey (tupleKind (mixKind X.prog X.w)) b := Option.some.inj qe
        rw [hv, e2]
        all_goals rfl
  have eb : acc.toList = (ks.map fun x => x.2.1).map Value.ref := by rw [ea, List.map_map]; all_goals rfl
  have rv : Vals ((keyB (ks.map fun x => x.2.1) kvs).map (·.1)) acc.toList := by
    rw [eb, keyB_fst hl]; exact vals_refs _
  obtain ⟨as, ra⟩ := Dp.readsAll I _ _ _ (dpKeys ik) rv
  exact hR h' tk acc.toList kp (each_rel rv) ((PySem.W.readsAll_each (fun b : BD => b.2) ra).mono fun v b ⟨as, q⟩ => ⟨as, PyProof.Rows.Reads.keeps kp q⟩)
end

/-! ### sorted(e) -/
def leD (a b : D) : Bool := !dataLt b a
def sortD (ds : List D) : List D := ds.mergeSort leD
def itemsD : D → Option (List D)
  | .list ds => some ds
  | .tuple ds => some ds
  | .dict kvs => some (kvs.map (·.1))
  | _ => none
def notNone : D → Bool
  | .none => false
  | _ => true
def okSort (ds : List D) : Bool := (ds.all fun d => ds.all fun e => alike d e) && ds.all notNone && PyData.canLayAll0 ds && decide (ds.length ≤ sizeLine) && ds.all fun d => decide (d.depth ≤ 50)
def sSorted : List D → Option D
  | [d] => match itemsD d with
    | some ds => if okSort ds then some (.list (sortD ds)) else none
    | none => none
  | _ => none
section
variable {K : PySem.W.Frag} {F : Fz} {H : Hp}
theorem RepAll.zipB : ∀ {xs : List V} {ds : List D}, RepAll K F H xs ds → ∃ bs : List BD, bs.map (·.1) = xs ∧ bs.map (·.2) = ds ∧ ∀ b ∈ bs, Rep K F H b.1 b.2
  | _, _, .nil => ⟨[], rfl, rfl, by simp⟩
  | _, _, .cons (v := v) (d := d) a r => by
    obtain ⟨bs, h1, h2, h3⟩ := r.zipB
    exact ⟨(v, d) :: bs, by simp [h1], by simp [h2], fun b hb => by
      rcases List.mem_cons.mp hb with rfl | hb
      · exact a
      · exact h3 b hb⟩
theorem RepAll.ofB : ∀ {bs : List BD}, (∀ b ∈ bs, Rep K F H b.1 b.2) → RepAll K F H (bs.map (·.1)) (bs.map (·.2))
  | [], _ => .nil
  | b :: bs, h => .cons (h b (by simp)) (RepAll.ofB fun b hb => h b (List.mem_cons_of_mem _ hb))
theorem srt_rep {bs : List BD} (h : ∀ b ∈ bs, Rep K F H b.1 b.2) : RepAll K F H (srtV bs) (sortD (bs.map (·.2))) := by
  have e : sortD (bs.map (·.2)) = (bs.mergeSort (dataLe false (·.2))).map (·.2) := by
    unfold sortD
    exact (List.map_mergeSort (f := fun b : BD => b.2) (fun a _ b _ => rfl)).symm
  rw [e]
  exact RepAll.ofB fun b hb => h b ((List.mergeSort_perm _ _).mem_iff.mp hb)
theorem okS_of {A : Around} {bs : List BD} {ds : List D} (e : bs.map (·.2) = ds) (h : okSort ds = true) (hu : A.units + 65 < cLine) : okS A bs ∧ PyData.canLayAll0 ds = true := by
  subst e
  unfold okSort at h
  rw [Bool.and_eq_true, Bool.and_eq_true, Bool.and_eq_true, Bool.and_eq_true] at h
  obtain ⟨⟨⟨⟨h1, h2⟩, h3⟩, h4⟩, h5⟩ := h
  refine ⟨⟨fun d hd d' hd' => List.all_eq_true.mp (List.all_eq_true.mp h1 d hd) d' hd', fun b hb z => ?_, ?_, fun b hb => ?_⟩, h3⟩
  · have := List.all_eq_true.mp h2 b.2 (List.mem_map.mpr ⟨b, hb, rfl⟩)
    rw [z] at this; cases this
  · simpa using of_decide_eq_true h4
  · have := of_decide_eq_true (List.all_eq_true.mp h5 b.2 (List.mem_map.mpr ⟨b, hb, rfl⟩))
    omega
theorem keyV_rep (k : Key) : Rep K F H (kV k) (keyD k) := by
  cases k with
  | inl i => exact .int i
  | inr x => exact .str x
theorem keyB_rep {ks : List Addr} {kvs : List (List Key × V)} (h : IsKeys H kvs ks) : ∀ b ∈ keyB ks kvs, Rep K F H b.1 b.2 := by
  unfold IsKeys at h
  induction h with
  | nil => intro b hb; cases hb
  | cons a _ ih =>
    intro b hb
    rcases List.mem_cons.mp hb with rfl | hb
    · exact .tup (.of a) (RepAll.of_map keyV_rep _)
    · exact ih b hb
end
section
variable {X : Cx} {B : Bs}
theorem f_sorted (hc : X.calm = true) (hu : X.A.units + 65 < cLine) : CallS X B (.builtin "sorted") sSorted := ⟨_, CallR.or (cr_sortedD hc) (cr_sortedT hc), fun ss O F H σ ρ g xs ds c R I rx hcs q => by
  unfold sSorted at hcs
  split at hcs
  · rename_i d
    split at hcs
    · rename_i es he
      split at hcs
      · rename_i hok
        cases hcs
        obtain ⟨x, rfl, r⟩ := rx.one
        have seq : ∀ {a : Addr} {ys : List V}, (SqL X.K H a ys ∨ SqT X.K H a ys) → RepAll X.K F H ys es → ∃ a2 bs, [V.ref a] = [.ref a2] ∧ SrcS X.K H a2 bs ∧ DpAll X.K H (bs.map (·.1)) (bs.map (·.2)) ∧ okS X.A bs ∧ ∀ p, H p = none → R (.ref p) (upd H p (.lst (srtV bs))) := fun {a ys} hs rr => by
          obtain ⟨bs, h1, h2, h3⟩ := rr.zipB
          obtain ⟨o1, o2⟩ := okS_of h2 hok hu
          refine ⟨a, bs, rfl, by rw [← h1] at hs; exact hs.imp id .inl, by rw [h1, h2]; exact RepAll.dp rr o2, o1, fun p hp => ?_⟩
          have := srt_rep h3
          rw [h2] at this
          exact I.finL q this hp
        cases d with
        | list zs =>
          cases he
          obtain ⟨l, ys, rfl, hl, rr⟩ := r.list
          exact .inl (seq (.inl (.of hl)) rr)
        | tuple zs =>
          cases he
          obtain ⟨l, ys, rfl, hl, rr⟩ := r.tup
          exact .inl (seq (.inr hl.sq) rr)
        | dict zs =>
          have he' : es = zs.map (·.1) := by cases he; rfl
          have dk : ∀ {a : Addr} {kvs : List (Key × V)}, H a = some (.dK kvs) → kvs.map (fun p => keyD p.1) = zs.map (·.1) → ∃ a2 bs, [V.ref a] = [.ref a2] ∧ SrcS X.K H a2 bs ∧ DpAll X.K H (bs.map (·.1)) (bs.map (·.2)) ∧ okS X.A bs ∧ ∀ p, H p = none → R (.ref p) (upd H p (.lst (srtV bs))) := fun {a kvs} ha ek => by
            have e2 : (kvs.map fun p => ((kV p.1, keyD p.1) : BD)).map (·.2) = es := by rw [List.map_map, he', ← ek]; rfl
            have e1 : (kvs.map fun p => ((kV p.1, keyD p.1) : BD)).map (·.1) = kvs.map fun p => kV p.1 := by rw [List.map_map]; rfl
            obtain ⟨o1, o2⟩ := okS_of e2 hok hu
            have h3 : ∀ b ∈ kvs.map (fun p => ((kV p.1, keyD p.1) : BD)), Rep X.K F H b.1 b.2 := fun b hb => by
              obtain ⟨p, _, rfl⟩ := List.mem_map.mp hb
              exact keyV_rep p.1
            refine ⟨a, _, rfl, .inr (.inr ⟨kvs, .inl ha, e1⟩), RepAll.dp (RepAll.ofB h3) (by rw [e2]; exact o2), o1, fun p hp => ?_⟩
            have := srt_rep h3
            rw [e2] at this
            exact I.finL q this hp
          have dt : ∀ {a : Addr} {kvs : List (List Key × V)}, H a = some (.dT kvs) → kvs.map (fun p => keyT p.1) = zs.map (·.1) → ∃ (a2 : Addr) (kvs : List (List Key × V)), [V.ref a] = [.ref a2] ∧ Rd H a2 (.dT kvs) ∧ (∀ ks, IsKeys H kvs ks → okS X.A (keyB ks kvs)) ∧ ∀ ks p, IsKeys H kvs ks → H p = none → R (.ref p) (upd H p (.lst (srtV (keyB ks kvs)))) := fun {a kvs} ha ek => by
            have e2 : ∀ ks, IsKeys H kvs ks → (keyB ks kvs).map (·.2) = es := fun ks ik => by rw [keyB_snd (Paired.length ik).symm, he', ← ek]
            refine ⟨a, kvs, rfl, .inl ha, fun ks ik => (okS_of (e2 ks ik) hok hu).1, fun ks p ik hp => ?_⟩
            have := srt_rep (keyB_rep (K := X.K) (F := F) ik)
            rw [e2 ks ik] at this
            exact I.finL q this hp
          rcases r with r | ⟨a, o, rfl, _, ho, c⟩
          · cases r with
            | dK _ h e _ => exact .inl (dk h e)
            | dT _ h e _ => exact .inr (dt h e)
          · cases o with
            | dK kvs => exact .inl (dk ho c.1)
            | dT kvs => exact .inr (dt ho c.1)
            | _ => exact c.elim
        | _ => cases he
      · cases hcs
    · cases hcs
  · cases hcs⟩
end
end Q

set_option Elab.async false
set_option linter.all false
set_option maxRecDepth 100000
/-! QY: the pure layer: dicts read and stored to, keys ints, texts or tuples of them. -/
namespace Q
open PySem PySem.Spec PyProof.Rows L2
/-! ### an empty dict is of both kinds -/
section
variable {X : Cx} {pins : List (Addr × Obj)} {σ : L2.St} {H : Hp} {s : Shared} {a b : Addr} {y v d : V} {u r : Value} {o : Option V} {A : Around} {E : Value → Shared → Prop} {k : Key} {ks : List Key}
theorem Inv.toT (I : Inv X pins σ H s) (e : H a = some (.dK [])) : Inv X pins σ (upd H a (.dT [])) s := by
  obtain ⟨_, hd, vs, rel, o, es, ep, h1, h2, h3, h4, h5, h6⟩ := dk_of I.hok e
  cases rel
  have ee : es.toList = [] := by generalize es.toList = l at h5; cases h5; rfl
  exact I.write (x := a) (e := a) (t' := s.toks) (h' := s.heap) (by rw [e]; trivial) (.inl rfl) (fun b u _ h => h) ⟨o, h1⟩ ⟨Nat.zero_le _, hd, [], .nil, o, es, ep, h1, h2, h3, ee, List.nodup_nil⟩
theorem Inv.toK (I : Inv X pins σ H s) (e : H a = some (.dT [])) : Inv X pins σ (upd H a (.dK [])) s := by
  obtain ⟨_, hd, xs, rel, o, es, ep, h1, h2, h3, h4, h5, h6⟩ := dt_of I.hok e
  cases rel
  have ee : es.toList = [] := h4
  refine I.write (x := a) (e := a) (t' := s.toks) (h' := s.heap) (by rw [e]; trivial) (.inl rfl) (fun b u _ h => h) ⟨o, h1⟩ ⟨Nat.zero_le _, hd, [], .nil, o, es, ep, h1, h2, h3, fun e' he => ?_, by rw [ee]; exact .nil, List.nodup_nil⟩
  have : e' ∈ es.toList := by simpa using he
  rw [ee] at this; cases this
theorem upd_back {o1 o2 : HO} (e : H a = some o1) : upd (upd H a o2) a o1 = H := by
  funext z
  by_cases q : z = a
  · rw [q, upd_same, e]
  · rw [upd_ne q, upd_ne q]
/-- what a dict holds at a key; an empty one is of both kinds -/
def DGetE (H : Hp) (a : Addr) (y : V) (o : Option V) : Prop := DGet H a y o ∨ (o = none ∧ H a = some (.dK []) ∧ ∃ (b : Addr) (ks : List Key), y = .ref b ∧ b ≠ a ∧ H b = some (.tup (ks.map kV))) ∨ (o = none ∧ H a = some (.dT []) ∧ ∃ k : Key, y = kV k)
theorem d_get2E {Q : Value → Shared → Prop} (hu : A.units + 1 < cLine) (I : Inv X pins σ H s) (g : DGetE H a y o) (ry : RelV y u) (rd : RelV d r) (h : ∀ w' s', Inv X pins σ H s' → RelV (o.getD d) w' → Q w' s') :
    wpAny (model X.prog X.w) A (call (.builtin "dict.get") [.ref a, u, r]) Q E s := by
  rcases g with g | ⟨rfl, e, b, ks, rfl, nb, eb⟩ | ⟨rfl, e, k, rfl⟩
  · exact d_get2 hu I g ry rd h
  · refine d_get2 hu (Inv.toT I e) (DGet.t (k := ks) upd_same (by rw [upd_ne nb]; exact eb)) ry rd fun w' s' I' rw' => h w' s' ?_ rw'
    have := Inv.toK I' upd_same
    rwa [upd_back e] at this
  · refine d_get2 hu (Inv.toK I e) (DGet.k (k := k) upd_same) ry rd fun w' s' I' rw' => h w' s' ?_ rw'
    have := Inv.toT I' upd_same
    rwa [upd_back e] at this
theorem d_get1E {Q : Value → Shared → Prop} (hu : A.units + 1 < cLine) (I : Inv X pins σ H s) (g : DGetE H a y o) (ry : RelV y u) (h : ∀ w' s', Inv X pins σ H s' → RelV (o.getD .non) w' → Q w' s') :
    wpAny (model X.prog X.w) A (call (.builtin "dict.get") [.ref a, u]) Q E s := by
  rcases g with g | ⟨rfl, e, b, ks, rfl, nb, eb⟩ | ⟨rfl, e, k, rfl⟩
  · exact d_get1 hu I g ry h
  · refine d_get1 hu (Inv.toT I e) (DGet.t (k := ks) upd_same (by rw [upd_ne nb]; exact eb)) ry fun w' s' I' rw' => h w' s' ?_ rw'
    have := Inv.toK I' upd_same
    rwa [upd_back e] at this
  · refine d_get1 hu (Inv.toK I e) (DGet.k (k := k) upd_same) ry fun w' s' I' rw' => h w' s' ?_ rw'
    have := Inv.toT I' upd_same
    rwa [upd_back e] at this
theorem d_inE {Q : Value → Shared → Prop} (hu : A.units + 1 < cLine) (I : Inv X pins σ H s) (g : DGetE H a y o) (ry : RelV y u) (h : ∀ s', Inv X pins σ H s' → Q (.bool o.isSome) s') :
    wpAny (model X.prog X.w) A (compareOp .In u (.ref a)) Q E s := by
  rcases g with g | ⟨rfl, e, b, ks, rfl, nb, eb⟩ | ⟨rfl, e, k, rfl⟩
  · exact d_in hu I g ry h
  · refine d_in hu (Inv.toT I e) (DGet.t (k := ks) upd_same (by rw [upd_ne nb]; exact eb)) ry fun s' I' => h s' ?_
    have := Inv.toK I' upd_same
    rwa [upd_back e] at this
  · refine d_in hu (Inv.toK I e) (DGet.k (k := k) upd_same) ry fun s' I' => h s' ?_
    have := Inv.toT I' upd_same
    rwa [upd_back e] at this
theorem d_notInE {Q : Value → Shared → Prop} (hu : A.units + 1 < cLine) (I : Inv X pins σ H s) (g : DGetE H a y o) (ry : RelV y u) (h : ∀ s', Inv X pins σ H s' → Q (.bool (!o.isSome)) s') :
    wpAny (model X.prog X.w) A (compareOp .NotIn u (.ref a)) Q E s := by
  rcases g with g | ⟨rfl, e, b, ks, rfl, nb, eb⟩ | ⟨rfl, e, k, rfl⟩
  · exact d_notIn hu I g ry h
  · refine d_notIn hu (Inv.toT I e) (DGet.t (k := ks) upd_same (by rw [upd_ne nb]; exact eb)) ry fun s' I' => h s' ?_
    have := Inv.toK I' upd_same
    rwa [upd_back e] at this
  · refine d_notIn hu (Inv.toK I e) (DGet.k (k := k) upd_same) ry fun s' I' => h s' ?_
    have := Inv.toT I' upd_same
    rwa [upd_back e] at this
def DPutE (H : Hp) (a : Addr) (y v : V) (o' : HO) : Prop := DPut H a y v (upd H a o') ∨ (H a = some (.dK []) ∧ ∃ (b : Addr) (ks : List Key), y = .ref b ∧ b ≠ a ∧ H b = some (.tup (ks.map kV)) ∧ o' = .dT [(ks, v)]) ∨ (H a = some (.dT []) ∧ ∃ k : Key, y = kV k ∧ o' = .dK [(k, v)])
theorem d_setItemE {o' : HO} {Q : Unit → Shared → Prop} (hu : A.units + 1 < cLine) (I : Inv X pins σ H s) (g : DPutE H a y v o') (ry : RelV y u) (rv : RelV v r) (h : ∀ s', Inv X pins σ (upd H a o') s' → Q () s') :
    wpAny (model X.prog X.w) A (setItem (.ref a) u r) Q E s := by
  have two : ∀ (o1 o2 : HO), upd (upd H a o1) a o2 = upd H a o2 := fun o1 o2 => by
    funext z
    by_cases q : z = a
    · rw [q, upd_same, upd_same]
    · rw [upd_ne q, upd_ne q, upd_ne q]
  rcases g with g | ⟨e, b, ks, rfl, nb, eb, rfl⟩ | ⟨e, k, rfl, rfl⟩
  · exact d_setItem hu I g ry rv h
  · refine d_setItem hu (Inv.toT I e) (DPut.t (kvs := []) (k := ks) (v := v) upd_same (by rw [upd_ne nb]; exact eb) (by show 0 < sizeLine; rw [sizeLine_eq]; omega)) ry rv fun s' I' => h s' ?_
    rw [two] at I'; exact I'
  · refine d_setItem hu (Inv.toK I e) (DPut.k (kvs := []) (k := k) (v := v) upd_same (by show 0 < sizeLine; rw [sizeLine_eq]; omega)) ry rv fun s' I' => h s' ?_
    rw [two] at I'; exact I'
theorem d_getItemE {Q : Value → Shared → Prop} (hu : A.units + 1 < cLine) (I : Inv X pins σ H s) (g : DGetE H a y (some v)) (ry : RelV y u) (h : ∀ w' s', Inv X pins σ H s' → RelV v w' → Q w' s') :
    wpAny (model X.prog X.w) A (getItem (.ref a) u) Q E s := by
  rcases g with g | ⟨z, _⟩ | ⟨z, _⟩
  · exact d_getItem hu I g ry h
  · cases z
  · cases z
end
section
variable {X : Cx} {o i e f value : Expr} {pos pos' tpos apos cpos : Pos} {td ty tv tx : TE}
def tGet1E (td ty : TE) : TE := fun σ H Q => td σ H fun x H1 => ∃ a, x = .ref a ∧ IsD H1 a ∧ ty σ H1 fun y H2 => ∃ o, DGetE H2 a y o ∧ Q (o.getD .non) H2
def tGet2E (td ty tx : TE) : TE := fun σ H Q => td σ H fun x H1 => ∃ a, x = .ref a ∧ IsD H1 a ∧ ty σ H1 fun y H2 => tx σ H2 fun z H3 => ∃ o, DGetE H3 a y o ∧ Q (o.getD z) H3
def tInE (ty td : TE) : TE := fun σ H Q => ty σ H fun y H1 => td σ H1 fun x H2 => ∃ a o, x = .ref a ∧ DGetE H2 a y o ∧ Q (.bl o.isSome) H2
def tNotInE (ty td : TE) : TE := fun σ H Q => ty σ H fun y H1 => td σ H1 fun x H2 => ∃ a o, x = .ref a ∧ DGetE H2 a y o ∧ Q (.bl (!o.isSome)) H2
def sPutE (td ty tv : TE) : TS := fun D σ H => tv σ H fun v H1 => td σ H1 fun x H2 => ty σ H2 fun y H3 => ∃ a o', x = .ref a ∧ DPutE H3 a y v o' ∧ D.nx σ (upd H3 a o')
theorem pe_get1E (hu : X.A.units + 1 < cLine) (ho : PE X o td) (he : PE X e ty) (m : M1 X o "get" apos e cpos) : PE X (.Call (.Attribute o "get" apos) [e] [] cpos) (tGet1E td ty) := by
  refine ⟨fun pins s σ H Q I h => ?_⟩
  refine wpAny_Call_method m.base m.few m.line PySem.F.plainAttrs_dict PySem.F.slot_dict_get PySem.F.type_dict_get (thn (ho.run pins s σ H _ I h) fun u s1 ⟨x, H1, I1, rx, a, ex, d, q1⟩ => ?_)
  subst ex
  obtain rfl : u = Value.ref a := rx
  obtain ⟨t1, t2, _⟩ := isD_at I1 d
  refine ⟨t1, t2, ?_⟩
  rw [m.trees]
  refine Calls.callWith_builtin rfl (Calls.evalArgs_plain (Calls.spliced_cons (thn (he.run pins s1 σ H1 _ I1 q1) fun iv s2 ⟨y, H2, I2, ry, ov, g, q2⟩ => Calls.spliced_nil ?_)))
  exact d_get1E hu I2 g ry fun w' s3 I3 rw' => ⟨_, H2, I3, rw', q2⟩
theorem pe_get2E (hu : X.A.units + 1 < cLine) (ho : PE X o td) (he : PE X e ty) (hf : PE X f tx) (m : M2 X o "get" apos e f cpos) : PE X (.Call (.Attribute o "get" apos) [e, f] [] cpos) (tGet2E td ty tx) := by
  refine ⟨fun pins s σ H Q I h => ?_⟩
  refine wpAny_Call_method m.base m.few m.line PySem.F.plainAttrs_dict PySem.F.slot_dict_get PySem.F.type_dict_get (thn (ho.run pins s σ H _ I h) fun u s1 ⟨x, H1, I1, rx, a, ex, d, q1⟩ => ?_)
  subst ex
  obtain rfl : u = Value.ref a := rx
  obtain ⟨t1, t2, _⟩ := isD_at I1 d
  refine ⟨t1, t2, ?_⟩
  rw [m.trees]
  refine Calls.callWith_builtin rfl (Calls.evalArgs_plain (Calls.spliced_cons (thn (he.run pins s1 σ H1 _ I1 q1) fun iv s2 ⟨y, H2, I2, ry, q2⟩ =>
    Calls.spliced_cons (thn (hf.run pins s2 σ H2 _ I2 q2) fun fv s3 ⟨z, H3, I3, rz, ov, g, q3⟩ => Calls.spliced_nil ?_))))
  exact d_get2E hu I3 g ry rz fun w' s4 I4 rw' => ⟨_, H3, I4, rw', q3⟩
theorem ps_putE (hu : X.A.units + 1 < cLine) (ho : PE X o td) (hi : PE X i ty) (hv : PE X value tv) (hs : swapsWith value (some (.Subscript o i pos')) pos.line X.env = pure false) :
    PS X (.Assign [.Subscript o i pos'] value pos) (sPutE td ty tv) := by
  refine ⟨fun pins s σ H D I h => ?_⟩
  refine wpAny_Assign_Subscript (thn (hv.run pins s σ H _ I h) fun r s1 ⟨v, H1, I1, rv, q1⟩ => thn (ho.run pins s1 σ H1 _ I1 q1) fun u s2 ⟨x, H2, I2, rx, q2⟩ => thn (hi.run pins s2 σ H2 _ I2 q2) fun iv s3 ⟨y, H3, I3, ry, a, o', ex, g, q3⟩ => ?_) hs
  subst ex
  obtain rfl : u = Value.ref a := rx
  exact d_setItemE hu I3 g ry rv fun s4 I4 => ⟨σ, _, I4, q3⟩
end
end Q

set_option Elab.async false
set_option linter.all false
set_option maxRecDepth 100000
/-! QZ: the pure layer: d.get, d[k], d[k] = v, k in d. -/
namespace Q
open PySem PySem.Spec PyProof.Rows L2
/-! ### a dict's pairs by their keys -/
def keysO : List D → Option (List Key)
  | [] => some []
  | d :: r => match keyO d, keysO r with
    | some k, some ks => some (k :: ks)
    | _, _ => none
def keyTO : D → Option (List Key)
  | .tuple ds => keysO ds
  | _ => none
def kvsO : List (D × D) → Option (List (Key × D))
  | [] => some []
  | p :: r => match keyO p.1, kvsO r with
    | some k, some ks => some ((k, p.2) :: ks)
    | _, _ => none
def tvsO : List (D × D) → Option (List (List Key × D))
  | [] => some []
  | p :: r => match keyTO p.1, tvsO r with
    | some k, some ks => some ((k, p.2) :: ks)
    | _, _ => none
section
variable {κ : Type} [DecidableEq κ]
def lookX (m : List (κ × D)) (k : κ) : Option D := (m.find? fun p => decide (p.1 = k)).map (·.2)
def putX (m : List (κ × D)) (k : κ) (v : D) : List (κ × D) := if (m.any fun p => decide (p.1 = k)) = true then m.map (fun p => if p.1 = k then (p.1, v) else p) else m ++ [(k, v)]
end
def outT (m : List (List Key × D)) : D := .dict (m.map fun p => (keyT p.1, p.2))
def dLook (d y : D) : Option (Option D) := match d with
  | .dict kvs => match keyO y with
    | some k => (kvsO kvs).map fun m => lookX m k
    | none => match keyTO y with
      | some k => (tvsO kvs).map fun m => lookX m k
      | none => none
  | _ => none
def dStore (d y v : D) : Option D := match d with
  | .dict kvs => match keyO y with
    | some k => (kvsO kvs).bind fun m => if kvs.length < sizeLine then some (outD (putX m k v)) else none
    | none => match keyTO y with
      | some k => (tvsO kvs).bind fun m => if kvs.length < sizeLine then some (outT (putX m k v)) else none
      | none => none
  | _ => none
theorem keyO_keyD (k : Key) : keyO (keyD k) = some k := by cases k <;> rfl
theorem keysO_keyD : ∀ ks : List Key, keysO (ks.map keyD) = some ks
  | [] => rfl
  | k :: r => by rw [List.map_cons]; unfold keysO; rw [keyO_keyD, keysO_keyD r]
theorem keyO_keyT (k : List Key) : keyO (keyT k) = none := rfl
theorem keyTO_keyT (k : List Key) : keyTO (keyT k) = some k := keysO_keyD k
theorem keyTO_keyD (k : Key) : keyTO (keyD k) = none := by cases k <;> rfl
theorem keyO_some {d : D} {k : Key} (h : keyO d = some k) : d = keyD k := by
  unfold keyO at h
  split at h <;> cases h <;> rfl
theorem keysO_some : ∀ {ds : List D} {ks : List Key}, keysO ds = some ks → ds = ks.map keyD
  | [], ks, h => by cases h; rfl
  | d :: r, ks, h => by
    unfold keysO at h
    split at h
    · rename_i k ks' e1 e2
      cases h
      rw [keyO_some e1, keysO_some e2]; rfl
    · cases h
theorem keyTO_some {d : D} {k : List Key} (h : keyTO d = some k) : d = keyT k := by
  unfold keyTO at h
  split at h
  · rw [keysO_some h]; rfl
  · cases h
/-! ### what stands for what -/
inductive KG {κ : Type} (K : PySem.W.Frag) (F : Fz) (H : Hp) : List (κ × V) → List (κ × D) → Prop
  | nil : KG K F H [] []
  | cons {k : κ} {v : V} {d : D} {xs : List (κ × V)} {ys : List (κ × D)} : Rep K F H v d → KG K F H xs ys → KG K F H ((k, v) :: xs) ((k, d) :: ys)
section
variable {κ : Type} [DecidableEq κ] {K : PySem.W.Frag} {F : Fz} {H : Hp}
theorem KG.len : ∀ {xs : List (κ × V)} {ys : List (κ × D)}, KG K F H xs ys → xs.length = ys.length
  | _, _, .nil => rfl
  | _, _, .cons _ r => congrArg (· + 1) r.len
theorem KG.mono {F' : Fz} {H' : Hp} (x : Stay F H F' H') : ∀ {xs : List (κ × V)} {ys : List (κ × D)}, KG K F H xs ys → KG K F' H' xs ys
  | _, _, .nil => .nil
  | _, _, .cons a r => .cons (Rep.mono x a) (KG.mono x r)
theorem KG.look {k : κ} : ∀ {xs : List (κ × V)} {ys : List (κ × D)}, KG K F H xs ys → (valV xs k = none ∧ lookX ys k = none) ∨ ∃ v d, valV xs k = some v ∧ lookX ys k = some d ∧ Rep K F H v d
  | _, _, .nil => .inl ⟨rfl, rfl⟩
  | _, _, .cons (k := j) (v := v) (d := d) (xs := xs) (ys := ys) a r => by
    by_cases e : j = k
    · exact .inr ⟨v, d, valV_pos e, by simp [lookX, List.find?_cons, e], a⟩
    · have h1 : valV ((j, v) :: xs) k = valV xs k := valV_neg e
      have h2 : lookX ((j, d) :: ys) k = lookX ys k := by simp [lookX, List.find?_cons, e]
      rw [h1, h2]
      exact KG.look r
theorem KG.any (k : κ) : ∀ {xs : List (κ × V)} {ys : List (κ × D)}, KG K F H xs ys → (xs.any fun kv => decide (kv.1 = k)) = (ys.any fun kv => decide (kv.1 = k))
  | _, _, .nil => rfl
  | _, _, .cons _ r => by rw [List.any_cons, List.any_cons, KG.any k r]
theorem KG.rep {k : κ} {v : V} {d : D} (h : Rep K F H v d) : ∀ {xs : List (κ × V)} {ys : List (κ × D)}, KG K F H xs ys → KG K F H (xs.map fun kv => if kv.1 = k then (kv.1, v) else kv) (ys.map fun kv => if kv.1 = k then (kv.1, d) else kv)
  | _, _, .nil => .nil
  | _, _, .cons (k := j) a r => by
    rw [List.map_cons, List.map_cons]
    by_cases e : j = k
    · rw [if_pos e, if_pos e]; exact .cons h (KG.rep h r)
    · rw [if_neg e, if_neg e]; exact .cons a (KG.rep h r)
theorem KG.snoc {k : κ} {v : V} {d : D} (h : Rep K F H v d) : ∀ {xs : List (κ × V)} {ys : List (κ × D)}, KG K F H xs ys → KG K F H (xs ++ [(k, v)]) (ys ++ [(k, d)])
  | _, _, .nil => .cons h .nil
  | _, _, .cons a r => .cons a (KG.snoc h r)
theorem KG.put {k : κ} {v : V} {d : D} (h : Rep K F H v d) {xs : List (κ × V)} {ys : List (κ × D)} (r : KG K F H xs ys) : KG K F H (putK xs k v) (putX ys k d) := by
  unfold putK putX
  rw [KG.any k r]
  by_cases q : (ys.any fun kv => decide (kv.1 = k)) = true
  · rw [if_pos q, if_pos q]; exact KG.rep h r
  · rw [if_neg q, if_neg q]; exact KG.snoc h r
end
section
variable {K : PySem.W.Frag} {F : Fz} {H : Hp}
theorem KG.keysK : ∀ {xs : List (Key × V)} {ys : List (Key × D)}, KG K F H xs ys → xs.map (fun p => keyD p.1) = (ys.map fun p => (keyD p.1, p.2)).map (·.1)
  | _, _, .nil => rfl
  | _, _, .cons _ r => by simp only [List.map_cons]; rw [KG.keysK r]
theorem KG.keysT : ∀ {xs : List (List Key × V)} {ys : List (List Key × D)}, KG K F H xs ys → xs.map (fun p => keyT p.1) = (ys.map fun p => (keyT p.1, p.2)).map (·.1)
  | _, _, .nil => rfl
  | _, _, .cons _ r => by simp only [List.map_cons]; rw [KG.keysT r]
theorem KG.vals {κ : Type} {g : κ → D} : ∀ {xs : List (κ × V)} {ys : List (κ × D)}, KG K F H xs ys → RepAll K F H (xs.map (·.2)) ((ys.map fun p => (g p.1, p.2)).map (·.2))
  | _, _, .nil => .nil
  | _, _, .cons a r => .cons a (KG.vals r)
theorem KG.contK {xs : List (Key × V)} {ys : List (Key × D)} (r : KG K F H xs ys) : Cont K F H (.dK xs) (outD ys) := ⟨r.keysK, r.vals⟩
theorem KG.contT {xs : List (List Key × V)} {ys : List (List Key × D)} (r : KG K F H xs ys) : Cont K F H (.dT xs) (outT ys) := ⟨r.keysT, r.vals⟩
theorem kvs_of : ∀ {xs : List (Key × V)} {kvs : List (D × D)} {m : List (Key × D)}, xs.map (fun p => keyD p.1) = kvs.map (·.1) → RepAll K F H (xs.map (·.2)) (kvs.map (·.2)) → kvsO kvs = some m → KG K F H xs m
  | [], [], m, _, _, h => by cases h; exact .nil
  | [], p :: r, m, e, _, _ => by cases e
  | x :: xs, [], m, e, _, _ => by cases e
  | x :: xs, p :: r, m, e, a, h => by
    simp only [List.map_cons, List.cons.injEq] at e
    obtain ⟨e1, e2⟩ := e
    have a' : RepAll K F H (x.2 :: xs.map (·.2)) (p.2 :: r.map (·.2)) := a
    cases a' with
    | cons a1 a2 =>
      unfold kvsO at h
      rw [← e1, keyO_keyD] at h
      split at h
      · rename_i k ks h1 h2
        cases h1; cases h
        exact .cons a1 (kvs_of e2 a2 h2)
      · cases h
theorem tvs_of : ∀ {xs : List (List Key × V)} {kvs : List (D × D)} {m : List (List Key × D)}, xs.map (fun p => keyT p.1) = kvs.map (·.1) → RepAll K F H (xs.map (·.2)) (kvs.map (·.2)) → tvsO kvs = some m → KG K F H xs m
  | [], [], m, _, _, h => by cases h; exact .nil
  | [], p :: r, m, e, _, _ => by cases e
  | x :: xs, [], m, e, _, _ => by cases e
  | x :: xs, p :: r, m, e, a, h => by
    simp only [List.map_cons, List.cons.injEq] at e
    obtain ⟨e1, e2⟩ := e
    have a' : RepAll K F H (x.2 :: xs.map (·.2)) (p.2 :: r.map (·.2)) := a
    cases a' with
    | cons a1 a2 =>
      unfold tvsO at h
      rw [← e1, keyTO_keyT] at h
      split at h
      · rename_i k ks h1 h2
        cases h1; cases h
        exact .cons a1 (tvs_of e2 a2 h2)
      · cases h
/-- a dict by its kind -/
theorem cont_kvs {o : HO} {kvs : List (D × D)} {m : List (Key × D)} (c : Cont K F H o (.dict kvs)) (h : kvsO kvs = some m) : (∃ xs, o = .dK xs ∧ KG K F H xs m) ∨ (o = .dT [] ∧ m = []) := by
  cases o with
  | dK xs => exact .inl ⟨xs, rfl, kvs_of c.1 c.2 h⟩
  | dT xs =>
    cases xs with
    | nil =>
      cases kvs with
      | nil => cases h; exact .inr ⟨rfl, rfl⟩
      | cons p r => cases c.1
    | cons x xs =>
      cases kvs with
      | nil => cases c.1
      | cons p r =>
        have e := c.1
        simp only [List.map_cons, List.cons.injEq] at e
        unfold kvsO at h
        rw [← e.1, keyO_keyT] at h
        cases h
  | _ => exact c.elim
theorem cont_tvs {o : HO} {kvs : List (D × D)} {m : List (List Key × D)} (c : Cont K F H o (.dict kvs)) (h : tvsO kvs = some m) : (∃ xs, o = .dT xs ∧ KG K F H xs m) ∨ (o = .dK [] ∧ m = []) := by
  cases o with
  | dT xs => exact .inl ⟨xs, rfl, tvs_of c.1 c.2 h⟩
  | dK xs =>
    cases xs with
    | nil =>
      cases kvs with
      | nil => cases h; exact .inr ⟨rfl, rfl⟩
      | cons p r => cases c.1
    | cons x xs =>
      cases kvs with
      | nil => cases c.1
      | cons p r =>
        have e := c.1
        simp only [List.map_cons, List.cons.injEq] at e
        unfold tvsO at h
        rw [← e.1, keyTO_keyD] at h
        cases h
  | _ => exact c.elim
end
theorem keys_rep {K : PySem.W.Frag} {F : Fz} {H : Hp} : ∀ {xs : List V} {ks : List Key}, RepAll K F H xs (ks.map keyD) → xs = ks.map kV
  | [], [], _ => rfl
  | x :: xs, k :: ks, h => by
    cases h with
    | cons a b =>
      rw [keys_rep b]
      cases k with
      | inl i => cases a; rfl
      | inr z => cases a; rfl
theorem cont_ne {K : PySem.W.Frag} {F : Fz} {H : Hp} {a b : Addr} {o : HO} {d : D} {xs : List V} (ha : H a = some o) (c : Cont K F H o d) (hb : H b = some (.tup xs)) : b ≠ a := fun z => by
  rw [z, ha] at hb
  cases hb
  cases d <;> exact c.elim
theorem cont_get {K : PySem.W.Frag} {B : Bs} {F : Fz} {H : Hp} {a : Addr} {o : HO} {y : V} {d yd : D} {od : Option D} (ha : H a = some o) (c : Cont K F H o d) (ry : BR K B F H y yd) (hl : dLook d yd = some od) :
    ∃ ov, DGetE H a y ov ∧ ((ov = none ∧ od = none) ∨ ∃ v z, ov = some v ∧ od = some z ∧ Rep K F H v z) := by
  unfold dLook at hl
  split at hl
  · rename_i kvs
    split at hl
    · rename_i k hk
      obtain rfl := keyO_rep ry hk
      cases hm : kvsO kvs with
      | none => rw [hm] at hl; cases hl
      | some m =>
        rw [hm] at hl; cases hl
        rcases cont_kvs c hm with ⟨xs, rfl, kg⟩ | ⟨rfl, rfl⟩
        · exact ⟨_, .inl (DGet.k (k := k) ha), kg.look⟩
        · exact ⟨none, .inr (.inr ⟨rfl, ha, k, rfl⟩), .inl ⟨rfl, rfl⟩⟩
    · split at hl
      · rename_i k hk
        have e := keyTO_some hk
        subst e
        obtain ⟨b, ys, rfl, hb, rr⟩ := ry.tup
        have hb' := (show H b = some (.tup ys) from hb)
        rw [keys_rep rr] at hb'
        cases hm : tvsO kvs with
        | none => rw [hm] at hl; cases hl
        | some m =>
          rw [hm] at hl; cases hl
          rcases cont_tvs c hm with ⟨xs, rfl, kg⟩ | ⟨rfl, rfl⟩
          · exact ⟨_, .inl (DGet.t (k := k) ha hb'), kg.look⟩
          · exact ⟨none, .inr (.inl ⟨rfl, ha, b, k, rfl, cont_ne ha c hb', hb'⟩), .inl ⟨rfl, rfl⟩⟩
      · cases hl
  · cases hl
theorem cont_put {K : PySem.W.Frag} {B : Bs} {F : Fz} {H : Hp} {a : Addr} {o : HO} {y v : V} {d yd vd d' : D} (ha : H a = some o) (c : Cont K F H o d) (ry : BR K B F H y yd) (rv : Rep K F H v vd) (hl : dStore d yd vd = some d') :
    ∃ o', DPutE H a y v o' ∧ Cont K F H o' d' := by
  unfold dStore at hl
  split at hl
  · rename_i kvs
    have len : ∀ {xs : List V}, RepAll K F H xs (kvs.map (·.2)) → xs.length = kvs.length := fun r => by rw [r.length, List.length_map]
    split at hl
    · rename_i k hk
      obtain rfl := keyO_rep ry hk
      cases hm : kvsO kvs with
      | none => rw [hm] at hl; cases hl
      | some m =>
        rw [hm, Option.bind_some] at hl
        split at hl
        · rename_i hz
          cases hl
          rcases cont_kvs c hm with ⟨xs, rfl, kg⟩ | ⟨rfl, rfl⟩
          · exact ⟨_, .inl (DPut.k (k := k) ha (by have := len c.2; rw [List.length_map] at this; rw [this]; exact hz)), (KG.put rv kg).contK⟩
          · exact ⟨_, .inr (.inr ⟨ha, k, rfl, rfl⟩), KG.contK (xs := [(k, v)]) (.cons rv .nil)⟩
        · cases hl
    · split at hl
      · rename_i k hk
        have e := keyTO_some hk
        subst e
        obtain ⟨b, ys, rfl, hb, rr⟩ := ry.tup
        have hb' := (show H b = some (.tup ys) from hb)
        rw [keys_rep rr] at hb'
        cases hm : tvsO kvs with
        | none => rw [hm] at hl; cases hl
        | some m =>
          rw [hm, Option.bind_some] at hl
          split at hl
          · rename_i hz
            cases hl
            rcases cont_tvs c hm with ⟨xs, rfl, kg⟩ | ⟨rfl, rfl⟩
            · exact ⟨_, .inl (DPut.t (k := k) ha hb' (by have := len c.2; rw [List.length_map] at this; rw [this]; exact hz)), (KG.put rv kg).contT⟩
            · exact ⟨_, .inr (.inl ⟨ha, b, k, rfl, cont_ne ha c hb', hb', rfl⟩), KG.contT (xs := [(k, v)]) (.cons rv .nil)⟩
          · cases hl
      · cases hl
  · cases hl
/-! ### the rules -/
theorem BR.dictC {K : PySem.W.Frag} {B : Bs} {F : Fz} {H : Hp} {x : V} {ds : List (D × D)} (r : BR K B F H x (.dict ds)) : ∃ a o, x = .ref a ∧ H a = some o ∧ Cont K F H o (.dict ds) := by
  rcases r with r | ⟨a, o, e, _, ho, c⟩
  · cases r with
    | dK _ h e q => exact ⟨_, _, rfl, h, e, q⟩
    | dT _ h e q => exact ⟨_, _, rfl, h, e, q⟩
  · exact ⟨a, o, e, ho, c⟩
theorem dLook_dict {d y : D} {o : Option D} (h : dLook d y = some o) : ∃ kvs, d = .dict kvs := by
  unfold dLook at h
  split at h
  · exact ⟨_, rfl⟩
  · cases h
theorem cont_isD {K : PySem.W.Frag} {F : Fz} {H : Hp} {a : Addr} {o : HO} {ds : List (D × D)} (ha : H a = some o) (c : Cont K F H o (.dict ds)) : IsD H a := by
  cases o with
  | dK xs => exact .inl ⟨xs, .inl ha⟩
  | dT xs => exact .inr ⟨xs, .inl ha⟩
  | _ => exact c.elim
section
variable {X : Cx} {B : Bs} {ss : Option Nat} {O O1 O2 O3 Ob : List Nat} {a b c e : Expr} {f h k : SE} {pos p p2 ap : Pos} {x : Str}
def eGet1 (f h : SE) : SE := fun ρ => mbnd (f ρ) fun d => mbnd (h ρ) fun y => mlift ((dLook d y).map fun o => o.getD .none)
def eGet2 (f h k : SE) : SE := fun ρ => mbnd (f ρ) fun d => mbnd (h ρ) fun y => mbnd (k ρ) fun z => mlift ((dLook d y).map fun o => o.getD z)
theorem q_get1 (hu : X.A.units + 1 < cLine) (ha : PE X a (tE X.K B ss O O1 .bw f)) (hb : PE X b (tE X.K B ss O1 O2 .bw h)) (m : M1 X a "get" ap b pos := by exact ⟨rfl, rfl, rfl, rfl⟩) : PE X (.Call (.Attribute a "get" ap) [b] [] pos) (tE X.K B ss O O2 .fz (eGet1 f h)) :=
  pe_imp (pe_get1E hu ha hb m) fun σ H R ⟨F, ρ, g, d, g', I, ef, q⟩ => by
  obtain ⟨x, g1, e1, e2⟩ := mbnd_some ef
  obtain ⟨y, g2, e3, e4⟩ := mbnd_some e2
  obtain ⟨e5, rfl⟩ := mlift_some e4
  obtain ⟨od, e6, rfl⟩ := Option.map_eq_some_iff.mp e5
  obtain ⟨kvs, rfl⟩ := dLook_dict e6
  refine ⟨F, ρ, g, _, g1, I, e1, fun xv H1 F1 I1 E1 r1 => ?_⟩
  obtain ⟨l, o, rfl, ho, ct⟩ := BR.dictC r1
  refine ⟨l, rfl, cont_isD ho ct, F1, ρ, g1, y, _, I1, e3, fun yv H2 F2 I2 E2 r2 => ?_⟩
  obtain ⟨l', o', el, ho', ct'⟩ := BR.dictC (BR.mono E2 r1)
  cases el
  obtain ⟨ov, hg, hr⟩ := cont_get ho' ct' r2 e6
  refine ⟨ov, hg, ?_⟩
  rcases hr with ⟨rfl, rfl⟩ | ⟨v, z, rfl, rfl, rr⟩
  · exact q _ H2 F2 I2 (E1.trans E2) .non
  · exact q _ H2 F2 I2 (E1.trans E2) rr
theorem q_get2 (hu : X.A.units + 1 < cLine) (ha : PE X a (tE X.K B ss O O1 .bw f)) (hb : PE X b (tE X.K B ss O1 O2 .bw h)) (hc : PE X c (tE X.K B ss O2 O3 .fz k)) (m : M2 X a "get" ap b c pos := by exact ⟨rfl, rfl, rfl, rfl⟩) : PE X (.Call (.Attribute a "get" ap) [b, c] [] pos) (tE X.K B ss O O3 .fz (eGet2 f h k)) :=
  pe_imp (pe_get2E hu ha hb hc m) fun σ H R ⟨F, ρ, g, d, g', I, ef, q⟩ => by
  obtain ⟨x, g1, e1, e2⟩ := mbnd_some ef
  obtain ⟨y, g2, e3, e4⟩ := mbnd_some e2
  obtain ⟨z, g3, e7, e8⟩ := mbnd_some e4
  obtain ⟨e5, rfl⟩ := mlift_some e8
  obtain ⟨od, e6, rfl⟩ := Option.map_eq_some_iff.mp e5
  obtain ⟨kvs, rfl⟩ := dLook_dict e6
  refine ⟨F, ρ, g, _, g1, I, e1, fun xv H1 F1 I1 E1 r1 => ?_⟩
  obtain ⟨l, o, rfl, ho, ct⟩ := BR.dictC r1
  refine ⟨l, rfl, cont_isD ho ct, F1, ρ, g1, y, _, I1, e3, fun yv H2 F2 I2 E2 r2 => ⟨F2, ρ, _, z, _, I2, e7, fun zv H3 F3 I3 E3 r3 => ?_⟩⟩
  obtain ⟨l', o', el, ho', ct'⟩ := BR.dictC (BR.mono (E2.trans E3) r1)
  cases el
  obtain ⟨ov, hg, hr⟩ := cont_get ho' ct' (BR.mono E3 r2) e6
  refine ⟨ov, hg, ?_⟩
  rcases hr with ⟨rfl, rfl⟩ | ⟨v, z', rfl, rfl, rr⟩
  · exact q _ H3 F3 I3 (E1.trans (E2.trans E3)) r3
  · exact q _ H3 F3 I3 (E1.trans (E2.trans E3)) rr
/-! d[k], of anything -/
theorem pe_either {t t' : TE} (h1 : PE X e t) (h2 : PE X e t') : PE X e (fun σ H R => t σ H R ∨ t' σ H R) := ⟨fun pins s σ H R I q => q.elim (h1.run pins s σ H R I) (h2.run pins s σ H R I)⟩
def sIxA (d y : D) : Option D := match d with
  | .dict kvs => (dLook (.dict kvs) y).bind id
  | d => sIx d y
theorem q_ixA (hu : X.A.units + 1 < cLine) (ha : PE X a (tE X.K B ss O O1 .bw f)) (hb : PE X b (tE X.K B ss O1 O2 .bw h)) (hs : PlainIx b := by exact fun _ _ => rfl) (hs2 : NoSl b := by exact fun _ _ => rfl) : PE X (.Subscript a b pos) (tE X.K B ss O O2 .fz (eOp sIxA f h)) :=
  pe_imp (pe_either (q_ix (ss := ss) ha hb hs) (pe_dget hu ha hb hs2)) fun σ H R ⟨F, ρ, g, d, g', I, ef, q⟩ => by
  obtain ⟨x, g1, e1, e2⟩ := mbnd_some ef
  obtain ⟨y, g2, e3, e4⟩ := mbnd_some e2
  obtain ⟨e5, rfl⟩ := mlift_some e4
  have lst : sIx x y = some d → tE X.K B ss O O2 .fz (eOp sIx f h) σ H R := fun z => ⟨F, ρ, g, d, _, I, by
    show mbnd (f ρ) (fun d => mbnd (h ρ) fun e => mlift (sIx d e)) g = _
    simp only [mbnd, e1, e3, mlift, z], q⟩
  cases x with
  | dict kvs =>
    refine .inr ⟨F, ρ, g, _, g1, I, e1, fun xv H1 F1 I1 E1 r1 => ?_⟩
    refine ⟨F1, ρ, g1, y, _, I1, e3, fun yv H2 F2 I2 E2 r2 => ?_⟩
    obtain ⟨l', o', rfl, ho', ct'⟩ := BR.dictC (BR.mono E2 r1)
    have e5' : (dLook (.dict kvs) y).bind id = some d := e5
    cases hl : dLook (.dict kvs) y with
    | none => rw [hl] at e5'; cases e5'
    | some od =>
      rw [hl] at e5'
      have e6 : od = some d := e5'
      subst e6
      obtain ⟨ov, hg, hr⟩ := cont_get ho' ct' r2 hl
      rcases hr with ⟨_, z⟩ | ⟨v, z, rfl, ez, rr⟩
      · cases z
      · cases ez
        rcases hg with hg | ⟨z, _⟩ | ⟨z, _⟩
        · exact ⟨l', v, rfl, hg, q _ H2 F2 I2 (E1.trans E2) rr⟩
        · cases z
        · cases z
  | _ => exact .inl (lst e5)
/-! k in d -/
def sInD (y d : D) : Option D := (dLook d y).map fun o => .bool o.isSome
def sNiD (y d : D) : Option D := (dLook d y).map fun o => .bool (!o.isSome)
theorem o_inD (hu : X.A.units + 1 < cLine) : OpS X B (compareOp .In) sInD := ⟨fun y x H R => ∃ a o, x = .ref a ∧ DGetE H a y o ∧ R (.bl o.isSome) H, fun pins s σ H y x v u R I ry rx ⟨a, o, ex, g, q⟩ => by
  subst ex
  obtain rfl : u = Value.ref a := rx
  exact d_inE hu I g ry fun s3 I3 => ⟨.bl o.isSome, H, I3, rfl, q⟩, fun ss O F H σ ρ g y x yd d c R I ry rx hc q => by
  obtain ⟨od, e, rfl⟩ := Option.map_eq_some_iff.mp hc
  obtain ⟨kvs, rfl⟩ := dLook_dict e
  obtain ⟨l, o, rfl, ho, ct⟩ := BR.dictC rx
  obtain ⟨ov, hg, hr⟩ := cont_get ho ct ry e
  refine ⟨l, ov, rfl, hg, ?_⟩
  rcases hr with ⟨rfl, rfl⟩ | ⟨v, z, rfl, rfl, rr⟩
  · exact I.fin q rfl (.bl _)
  · exact I.fin q rfl (.bl _)⟩
theorem o_niD (hu : X.A.units + 1 < cLine) : OpS X B (compareOp .NotIn) sNiD := ⟨fun y x H R => ∃ a o, x = .ref a ∧ DGetE H a y o ∧ R (.bl (!o.isSome)) H, fun pins s σ H y x v u R I ry rx ⟨a, o, ex, g, q⟩ => by
  subst ex
  obtain rfl : u = Value.ref a := rx
  exact d_notInE hu I g ry fun s3 I3 => ⟨.bl (!o.isSome), H, I3, rfl, q⟩, fun ss O F H σ ρ g y x yd d c R I ry rx hc q => by
  obtain ⟨od, e, rfl⟩ := Option.map_eq_some_iff.mp hc
  obtain ⟨kvs, rfl⟩ := dLook_dict e
  obtain ⟨l, o, rfl, ho, ct⟩ := BR.dictC rx
  obtain ⟨ov, hg, hr⟩ := cont_get ho ct ry e
  refine ⟨l, ov, rfl, hg, ?_⟩
  rcases hr with ⟨rfl, rfl⟩ | ⟨v, z, rfl, rfl, rr⟩
  · exact I.fin q rfl (.bl _)
  · exact I.fin q rfl (.bl _)⟩
def sInA (y d : D) : Option D := match d with
  | .dict kvs => sInD y (.dict kvs)
  | d => sIn y d
def sNiA (y d : D) : Option D := match d with
  | .dict kvs => sNiD y (.dict kvs)
  | d => sNi y d
theorem o_inA (hu : X.A.units + 65 < cLine) : OpS X B (compareOp .In) sInA := OpS.join (o_inD (by omega)) (o_in hu) fun d e c h => by
  unfold sInA at h
  split at h
  · exact .inl h
  · exact .inr h
theorem o_niA (hu : X.A.units + 65 < cLine) : OpS X B (compareOp .NotIn) sNiA := OpS.join (o_niD (by omega)) (o_ni hu) fun d e c h => by
  unfold sNiA at h
  split at h
  · exact .inl h
  · exact .inr h
/-! d[k] = v -/
def sPutD (i : Nat) (f h : SE) : SS := fun ρ => mbnd (f ρ) fun v => mbnd (h ρ) fun y => match ρ.getD i none with
  | some d => mbnd (mlift (dStore d y v)) fun d' => mret (.nx (ρ.set i (some d')))
  | none => fun _ => none
theorem getD_some {ρ : Ev} {i : Nat} {d : D} (h : ρ.getD i none = some d) : ρ[i]? = some (some d) := by
  rw [List.getD_eq_getElem?_getD] at h
  cases q : ρ[i]? with
  | none => rw [q] at h; cases h
  | some o => rw [q] at h; have : o = some d := h; rw [this]
theorem q_putD {px : Pos} (i : Nat) (hu : X.A.units + 1 < cLine) (ha : PE X e (tE X.K B ss O O1 .fz f)) (hb : PE X b (tE X.K B ss O1 O2 .bw h)) (hO : O2.contains i = true := by rfl) (hO1 : O1.contains i = true := by rfl) (hi : X.N[i]? = some x := by rfl) (hv : Vis X.env.scope x := by first | exact Or.inl rfl | exact Or.inr (Or.inl rfl) | exact Or.inr (Or.inr rfl))
    (hdb : (x == ("__debug__" : Str)) = false := by decide) (hcd : (x == ("__classdict__" : Str)) = false := by decide) (hs : swapsWith e (some (.Subscript (.Name x px) b p2)) pos.line X.env = pure false := by rfl) :
    PS X (.Assign [.Subscript (.Name x px) b p2] e pos) (tS X.K B ss O O2 Ob (sPutD i f h)) :=
  ps_imp (ps_putE hu (pe_var hi hv hdb hcd) hb ha hs) fun E σ H ⟨F, ρ, g, fl, g', I, ef, q⟩ => by
  obtain ⟨d, g1, e1, e2⟩ := mbnd_some ef
  obtain ⟨y, g2, e3, e4⟩ := mbnd_some e2
  cases hd : ρ.getD i none with
  | none => simp only [hd] at e4; cases e4
  | some dd =>
    simp only [hd] at e4
    obtain ⟨d', g3, e5, e6⟩ := mbnd_some e4
    obtain ⟨e7, rfl⟩ := mlift_some e5
    cases e6
    have hρ := getD_some hd
    have hc : isCont dd = true := by
      unfold dStore at e7
      split at e7
      · rfl
      · cases e7
    refine ⟨F, ρ, g, d, g1, I, e1, fun x' H' F' I' E' r => ?_⟩
    obtain ⟨l, o, s1, _⟩ := I'.mut (d' := d') (mem_of_contains hO1) hρ hc
    refine ⟨_, s1, F', ρ, g1, y, _, I', e3, fun y' H2 F2 I2 E2 r2 => ?_⟩
    obtain ⟨l', o2, t1, t2, t3, _, t5⟩ := I2.mut (d' := d') (mem_of_contains hO) hρ hc
    rw [s1] at t1; cases t1
    obtain ⟨o', w1, w2⟩ := cont_put t2 t3 r2 (Rep.mono E2.stay r) e7
    obtain ⟨I3, st⟩ := t5 o' w2
    exact ⟨l, o', rfl, w1, q σ _ F2 I3 (E'.stay.trans (E2.stay.trans st))⟩
end
end Q

set_option Elab.async false
set_option linter.all false
set_option maxRecDepth 100000
/-! QAA: the pure layer: tuples backwards, max with a default, tuple.count, gcd, stars in lists. -/
namespace Q
open PySem PySem.Spec PyProof.Rows L2
/-! ### t[::-1] -/
section
variable {prog : Program} {w : World} {A : Around} {E : Value → Shared → Prop} {s : Shared}
theorem sliceRev {sl : Addr} {vs : Value} {n : Nat} {Q : Int × Int × Nat → Shared → Prop} (hs : s.heap.IsSliceOf sl .none .none vs) (ps : IsPart vs (some (-1)))
    (h : Q ((n : Int) - 1, -1, n) s) : wpAny (model prog w) A (Builtin.Slice.sliceApplied (.ref sl) (pure (n : Int))) Q E s := by
  obtain ⟨os, hos, hcs, hds⟩ := id hs
  unfold Builtin.Slice.sliceApplied Builtin.Slice.sliceFields
  refine wpAny_bind (wpAny_bind (wpAny_field hos hds (x := .none) rfl (wpAny_bind (wpAny_field hos hds (x := .none) rfl (wpAny_bind (wpAny_field hos hds (x := vs) rfl (wpAny_pure ?_)))))))
  refine wpAny_bind (HT.slicePart_ ps ?_)
  show wpAny _ _ (if ((-1 : Int) == 0) = true then _ else _) _ _ s
  rw [if_neg (by decide)]
  refine wpAny_bind (HT.slicePart_ .none (wpAny_bind (HT.slicePart_ .none (wpAny_bind (wpAny_pure ?_)))))
  show wpAny _ _ (match Builtin.Slice.sliceAdjust none none (-1) (n : Int) with | (lo, hi) => pure (lo, (-1 : Int), Builtin.Slice.slicePlaces lo hi (-1))) _ _ s
  have e : Builtin.Slice.sliceAdjust none none (-1) (n : Int) = ((n : Int) - 1, -1) := rfl
  rw [e]
  show wpAny _ _ (pure ((n : Int) - 1, (-1 : Int), Builtin.Slice.slicePlaces ((n : Int) - 1) (-1) (-1))) _ _ s
  have e2 : Builtin.Slice.slicePlaces ((n : Int) - 1) (-1) (-1) = n := by
    unfold Builtin.Slice.slicePlaces
    have h1 : ¬ ((-1 : Int) > 0) := by omega
    have h2 : -(-1 : Int) = 1 := rfl
    simp only [h1, if_false, h2, Int.ediv_one]
    split <;> omega
  rw [e2]
  exact wpAny_pure h
theorem pick_rev (l : List Value) : (List.range l.length).filterMap (fun (k : Nat) => l.toArray[(((l.toArray.size : Nat) : Int) - 1 + (k : Int) * -1).toNat]?) = l.reverse := by
  apply List.ext_getElem?
  intro i
  have key : ∀ k, k < l.length → l.toArray[(((l.toArray.size : Nat) : Int) - 1 + (k : Int) * -1).toNat]? = some (l.reverse.getD k .none) := fun k hk => by
    have e : (((l.toArray.size : Nat) : Int) - 1 + (k : Int) * -1).toNat = l.length - 1 - k := by rw [List.size_toArray]; omega
    rw [e, List.getElem?_toArray, List.getD_eq_getElem?_getD, List.getElem?_reverse hk]
    have : l.length - 1 - k < l.length := by omega
    rw [List.getElem?_eq_getElem this]; rfl
  have e : (List.range l.length).filterMap (fun (k : Nat) => l.toArray[(((l.toArray.size : Nat) : Int) - 1 + (k : Int) * -1).toNat]?) = (List.range l.length).map fun k => l.reverse.getD k .none := by
    have go : ∀ xs : List Nat, (∀ k ∈ xs, k < l.length) → xs.filterMap (fun (k : Nat) => l.toArray[(((l.toArray.size : Nat) : Int) - 1 + (k : Int) * -1).toNat]?) = xs.map fun k => l.reverse.getD k .none := fun xs => by
      induction xs with
      | nil => intro _; rfl
      | cons x r ih => intro h; rw [List.filterMap_cons, key x (h x (by simp)), List.map_cons, ih fun k hk => h k (List.mem_cons_of_mem _ hk)]
    exact go _ fun k hk => List.mem_range.mp hk
  rw [e, List.getElem?_map]
  by_cases hi : i < l.length
  · rw [List.getElem?_range hi, Option.map_some, List.getD_eq_getElem?_getD, List.getElem?_eq_getElem (by simpa using hi)]; rfl
  · rw [List.getElem?_eq_none (by simpa using hi), List.getElem?_eq_none (by simpa using hi)]; rfl
theorem getItem_tuple_rev {t sl : Addr} {its : List Value} {vs : Value} {Q : Value → Shared → Prop} (ht : IsTup s.heap t its.toArray) (hs : s.heap.IsSliceOf sl .none .none vs) (ps : IsPart vs (some (-1)))
    (h : Q (.ref s.heap.objs.size) { s with heap := s.heap.push { cls := .type "tuple", data := .seq its.reverse.toArray } }) (hsz : its.length ≤ sizeLine) : wpAny (model prog w) A (getItem (.ref t) (.ref sl)) Q E s := by
  obtain ⟨os, hos, hcs, hds⟩ := id hs
  have hTs : s.TypeIs (.ref sl) "slice" := ⟨os, hos, hcs⟩
  unfold getItem
  try with_reducible refine wpAny_holding ?_
  first | refine wpAny_bind (wpAny_pure ?_) | skip
  refine wpAny_bind (wpAny_sequenceKey ht.typeIs (by decide) ?_)
  refine wpAny_bind (wpAny_callSpecial?_slot (name := Str.ofString "__getitem__") ht.typeIs PyProof.Rows.slot_tuple_getitem
    (wpAny_call_entry PyProof.Rows.slot_tuple_getitem ht.typeIs entry_tuple_getitem ?_ (args_tuple_getitem _ _)))
  show wpAny _ _ (Builtin.Tuple.tupleItemsOf (.ref t) >>= _) _ _ s
  refine wpAny_bind (tupleItemsOf_ ht ?_)
  refine wpAny_bind (wpAny_typeOf hTs ?_)
  rw [if_pos (by decide)]
  refine wpAny_bind (sliceRev hs ps ?_)
  have hno : ¬ ((((its.toArray.size : Nat) : Int) - 1 == 0 && (-1 : Int) == 1 && its.toArray.size == its.toArray.size) = true) := by
    intro q
    rw [Bool.and_eq_true, Bool.and_eq_true] at q
    exact absurd q.1.2 (by decide)
  show wpAny _ _ (if ((((its.toArray.size : Nat) : Int) - 1 == 0 && (-1 : Int) == 1 && its.toArray.size == its.toArray.size) = true) then _ else _) _ _ s
  rw [if_neg hno]
  have hp := pick_rev its
  have e0 : ((List.range its.toArray.size).filterMap fun (k : Nat) => its.toArray[(((its.toArray.size : Nat) : Int) - 1 + (k : Int) * -1).toNat]?) = its.reverse := by
    have : its.toArray.size = its.length := by simp
    rw [this] at hp ⊢; exact hp
  show wpAny _ _ (Builtin.Tuple.tupleExact ((List.range its.toArray.size).filterMap fun (k : Nat) => its.toArray[(((its.toArray.size : Nat) : Int) - 1 + (k : Int) * -1).toNat]?).toArray >>= _) _ _ s
  rw [e0]
  have htake : sizeOk (.seq its.reverse.toArray) := by
    show its.reverse.toArray.size ≤ sizeLine
    rw [List.size_toArray, List.length_reverse]; exact hsz
  first
    | exact wpAny_bind (m := Builtin.Tuple.tupleExact _) (wpAny_newObj_type (wpAny_pure ⟨_, rfl, wpAny_pure h⟩) htake)
    | exact wpAny_bind (m := Builtin.Tuple.tupleExact _) (wpAny_newObj_type (wpAny_bind (wpAny_pure (wpAny_pure ⟨_, rfl, wpAny_pure h⟩))) htake)
    | exact wpAny_bind (wpAny_bind (m := Builtin.Tuple.tupleExact _) (wpAny_newObj_type (wpAny_pure (wpAny_pure ⟨_, rfl, wpAny_pure h⟩)) htake))
    | exact wpAny_bind (wpAny_bind (m := Builtin.Tuple.tupleExact _) (wpAny_newObj_type (wpAny_pure ⟨_, rfl, wpAny_pure h⟩) htake))
end

def tRevT (K : PySem.W.Frag) (te : TE) : TE := fun σ H Q => te σ H fun x H1 => ∃ a xs, x = .ref a ∧ SqT K H1 a xs ∧ ∀ p, H1 p = none → Q (.ref p) (upd H1 p (.tup xs.reverse))
section
variable {X : Cx} {B : Bs} {ss : Option Nat} {O O1 O2 O3 Ob : List Nat} {a b c e : Expr} {es : List Expr} {f h k : SE} {fs : SL} {pos p p2 ap : Pos} {x : Str} {te : TE}
theorem pe_revT {k : Nat} {p1 p2 p3 pos : Pos} (he : PE X e te) : PE X (.Subscript e (.Slice none none (some (.UnaryOp .USub (.Constant (.int 1) k p1) p2)) p3) pos) (tRevT X.K te) := by
  refine ⟨fun pins s σ H Q I h => ?_⟩
  refine Subscript_ (thn (he.run pins s σ H _ I h) fun v s1 ⟨x, H1, I1, r1, q1⟩ => ?_)
  obtain ⟨a, xs, ex, hx, q⟩ := q1
  subst ex
  cases r1
  have hst : PO X (some (.UnaryOp .USub (.Constant (.int 1) k p1) p2)) (L2.tPart (tUn (rU fun i => .int (-i)) (tC (.int 1)))) := po_some (pe_un un_neg pe_int)
  refine wpAny_Slice (thn (po_none.run pins s1 σ H1 (fun o H2 => o = none ∧ H2 = H1) I1 ⟨rfl, rfl⟩) fun vl s2 ⟨l, H2, I2, pl, el, e2⟩ => ?_)
  subst el e2
  refine thn (po_none.run pins s2 σ H2 (fun o H3 => o = none ∧ H3 = H2) I2 ⟨rfl, rfl⟩) fun vu s3 ⟨u, H3, I3, pu, eu, e3⟩ => ?_
  subst eu e3
  refine thn (hst.run pins s3 σ H3 (fun o H4 => o = some (-1) ∧ H4 = H3) I3 ⟨1, rfl, -1, rfl, rfl, rfl⟩) fun vs s4 ⟨o, H4, I4, ps, eo, e4⟩ => ?_
  subst eo e4
  have I5 : Inv X pins σ H4 { s4 with heap := s4.heap.push { cls := .type "slice", data := .fields #[vl, vu, vs] } } := I4.kept (t' := s4.toks) fun b ob q => Heap.get?_push_of_some _ q
  obtain ⟨its, r, ht, hz⟩ := I5.tuple hx
  have hlen := r.length
  cases pl
  cases pu
  show wpAny (model X.prog X.w) X.A (subscriptTail e (.Slice none none (some (.UnaryOp .USub (.Constant (.int 1) k p1) p2)) p3) (.ref a) (.ref s4.heap.objs.size)) (EP X pins σ Q) X.xe { s4 with heap := s4.heap.push { cls := .type "slice", data := .fields #[.none, .none, vs] } }
  refine tail_any (ops := [.ref a, .ref s4.heap.objs.size]) ht.typeIs (PyProof.Rows.slot_tuple_getitem.lookup) ?_ (by with_unfolding_all rfl)
  refine getItem_tuple_rev ht (Heap.IsSliceOf.new _ .none .none vs) ps ?_ (by omega)
  refine ⟨.ref _, _, I5.laid (t' := s4.toks) (o := .tup xs.reverse) (fun b ob q => Heap.get?_push_of_some _ q) (Nat.le_refl _) ?_, rfl, q _ (I5.hok.fresh (Nat.le_refl _))⟩
  exact ⟨by rw [List.length_reverse]; exact hz, _, r.reverse, IsTup.new _ _⟩
def eRevA (f : SE) : SE := fun ρ => mbnd (f ρ) fun d => match d with
  | .list ds => mret (.list ds.reverse)
  | .tuple ds => mret (.tuple ds.reverse)
  | _ => fun _ => none
theorem q_revA {k : Nat} {p1 p2 p3 : Pos} (ha : PE X e (tE X.K B ss O O1 .bw f)) : PE X (.Subscript e (.Slice none none (some (.UnaryOp .USub (.Constant (.int 1) k p1) p2)) p3) pos) (tE X.K B ss O O1 .fr (eRevA f)) :=
  pe_imp (pe_either (pe_revL ha) (pe_revT ha)) fun σ H R ⟨F, ρ, g, d, g', I, ef, q⟩ => by
  obtain ⟨z, g1, e1, e2⟩ := mbnd_some ef
  cases z with
  | list ds =>
    cases e2
    refine .inl ⟨F, ρ, g, _, _, I, e1, fun x' H1 F1 I1 E1 r1 => ?_⟩
    have r1' : BR X.K B F1 H1 x' (.list ds) := r1
    obtain ⟨l, xs, rfl, hl, rr⟩ := r1'.list
    exact ⟨l, xs, rfl, .of hl, fun p hp => I1.finL (fun x' H' F' I' E' r' => q x' H' F' I' (E1.trans E') r') rr.rev hp⟩
  | tuple ds =>
    cases e2
    refine .inr ⟨F, ρ, g, _, _, I, e1, fun x' H1 F1 I1 E1 r1 => ?_⟩
    have r1' : BR X.K B F1 H1 x' (.tuple ds) := r1
    obtain ⟨l, xs, rfl, hl, rr⟩ := r1'.tup
    exact ⟨l, xs, rfl, hl.sq, fun p hp => I1.finT (fun x' H' F' I' E' r' => q x' H' F' I' (E1.trans E') r') rr.rev hp⟩
  | _ => cases e2
/-! ### [*a, *b] -/
def eLstS (fs : SL) : SE := fun ρ => mbnd (fs ρ) fun ds => mguard (decide (ds.length ≤ sizeLine)) (mret (.list ds))
theorem q_lstS (h : PA X es (tFS X.K B ss O O1 fs)) : PE X (.List es pos) (tE X.K B ss O O1 .fr (eLstS fs)) := pe_imp (pe_lst h) fun σ H R ⟨F, ρ, g, d, g', I, ef, q⟩ => by
  obtain ⟨ds, g1, e1, e2⟩ := mbnd_some ef
  obtain ⟨hz, e3⟩ := mguard_some e2
  cases e3
  exact ⟨F, ρ, g, ds, _, I, e1, fun xs H1 F1 I1 E1 r => ⟨by rw [r.length]; exact of_decide_eq_true hz, fun p hp => I1.finL (fun x' H' F' I' E' r' => q x' H' F' I' (E1.trans E') r') r hp⟩⟩
/-! ### gcd -/
def sGcd : List D → Option D
  | [.int i, .int j] => some (.int ((Nat.gcd i.natAbs j.natAbs : Nat) : Int))
  | _ => none
theorem f_gcd : CallS X B (.builtin "math.gcd") sGcd := ⟨_, cr_gcd, fun ss O F H σ ρ g xs ds c R I rx hc q => by
  unfold sGcd at hc
  split at hc
  · cases hc
    obtain ⟨x, y, rfl, r1, r2⟩ := rx.two
    exact ⟨_, _, by rw [r1.int, r2.int], I.fin q rfl (.int _)⟩
  · cases hc⟩
theorem q_callBf {sem : List D → Option D} {id : String} (hc : CallS X B (.builtin id) sem) (hm : X.mg x = some (.builtin id)) (ha : PA X (e :: es) (tA X.K B ss O O1 fs)) (hg : Gl X x := by rfl) (hdb : (x == ("__debug__" : Str)) = false := by decide)
    (he : starEach (e :: es) X.env = (false, eval e X.env) :: starEach es X.env := by rfl) (hpl : (backTo pos (starEach es X.env)).any (·.1) = false := by rfl) : PE X (.Call (.Name x p) (e :: es) [] pos) (tE X.K B ss O O1 .fr (eCB sem fs)) := by
  obtain ⟨r, h1, h2⟩ := t_callS (ss := ss) (O := O) (O1 := O1) hc
  exact pe_imp (pe_callBfun h1 hg hm ha hdb he hpl) fun σ H R q => h2 fs σ H R q
/-! ### max(.., default=..) -/
def sMaxD (d z : D) : Option D := match (seqD d).bind intsD with
  | some [] => some z
  | some (n :: ns) => some (.int (ns.foldl max n))
  | none => none
theorem call_maxD (hc : X.calm = true) (hu : X.A.units + 65 < cLine) : CallRK X (.builtin "max") [Str.ofString "default"] (fun xs zs H Q => ∃ x z d ls, xs = [x] ∧ zs = [z] ∧ seqD d = some (ls.map PyData.int) ∧ Dp X.K H x d ∧ (ls = [] → Q z H) ∧ ∀ n ns, ls = n :: ns → Q (.int (ns.foldl max n)) H) := by
  intro pins s σ H xs zs us ws Q I r rz h
  obtain ⟨x, z, d, ls, rfl, rfl, hd, hp, q0, q1⟩ := h
  obtain ⟨u, rfl, rx⟩ := vals1 r
  obtain ⟨v, rfl, rv⟩ := vals1 rz
  obtain ⟨as, rd⟩ := Dp.reads I d x u hp rx
  have hu2 : X.A.units + 1 + PyData.depthAll (ls.map PyData.int) < cLine := by rw [depthAll_ints]; omega
  have fin0 : ls.map PyData.int = [] → ∀ (h' : Heap) (tk : Nat), (∀ b o, s.heap.get? b = some o → h'.get? b = some o) → EP X pins σ Q v { s with heap := h', toks := tk } := fun e h' tk kp => ⟨z, H, I.kept kp, rv, q0 (List.map_eq_nil_iff.mp e)⟩
  have fin : ∀ (y : PyData) (ys : List PyData) (v : Value) (h' : Heap) (tk : Nat) (bs : List Addr), ls.map PyData.int = y :: ys → Reads h' v (PySem.W.maxD y ys) bs → (∀ b o, s.heap.get? b = some o → h'.get? b = some o) → EP X pins σ Q v { s with heap := h', toks := tk } := fun y ys v h' tk bs e rv kp => by
    cases ls with
    | nil => cases e
    | cons n ns =>
      rw [List.map_cons] at e
      cases e
      rw [PySem.W.maxD_ints] at rv
      cases rv
      exact ⟨.int _, H, I.kept kp, ⟨_, rfl⟩, q1 n ns rfl⟩
  cases d with
  | list ds =>
    cases hd
    cases rd with
    | list h1 h2 h3 h4 => exact PySem.W.max_list_default (I.ok.hd hc) ⟨_, h1, h2, _, h3⟩ h4 (alike_ints ls) hu2 fin0 fun y ys i v h' tk bs e _ rv kp => fin y ys v h' tk bs e rv kp
  | tuple ds =>
    cases hd
    cases rd with
    | tuple h1 h2 h3 h4 => exact PySem.W.max_tuple_default (I.ok.hd hc) ⟨_, h1, h2, _, h3⟩ h4 (alike_ints ls) hu2 fin0 fun y ys i v h' tk bs e _ rv kp => fin y ys v h' tk bs e rv kp
  | _ => cases hd
theorem layD_ints {d : D} {ls : List Int} (h : seqD d = some (ls.map PyData.int)) : d.canLay0 = true := by
  cases d with
  | list ds => cases h; simpa [PyData.canLay0] using layAll_ints ls
  | tuple ds => cases h; simpa [PyData.canLay0] using layAll_ints ls
  | _ => cases h
def eMaxD (f h : SE) : SE := fun ρ => mbnd (f ρ) fun d => mbnd (h ρ) fun z => mlift (sMaxD d z)
theorem q_maxD {kp : Pos} (hc : X.calm = true) (hu : X.A.units + 65 < cLine) (hm : X.mg "max" = none) (ha : PE X a (tE X.K B ss O O1 .bw f)) (hb : PE X b (tE X.K B ss O1 O2 .fz h)) (hg : Gl X "max" := by rfl) (n1 : starEach [a] X.env = (false, eval a X.env) :: starEach [] X.env := by rfl)
    (he : backTo pos (starEach [a] X.env) = (false, eval a X.env) :: backTo pos (starEach [] X.env) := by rfl) (hpl : (backTo pos (starEach [a] X.env)).any (·.1) = false := by rfl)
    (hall : (backToKw pos (keywordEach [⟨some "default", b, kp⟩] X.env)).all (·.1.isSome) = true := by rfl) (hnone : (backToKw pos (keywordEach [⟨some "default", b, kp⟩] X.env)).any (·.1.isNone) = false := by rfl) (hks : (backToKw pos (keywordEach [⟨some "default", b, kp⟩] X.env)).filterMap (·.1) = [Str.ofString "default"] := by rfl) :
    PE X (.Call (.Name "max" p) [a] [⟨some "default", b, kp⟩] pos) (tE X.K B ss O O2 .fz (eMaxD f h)) :=
  pe_imp (pe_callBK (call_maxD hc hu) hg hm (by decide +kernel) (pa_cons ha pa_nil n1) (pk_cons hb pk_nil) (by decide) (by decide) he hpl hall hnone hks) fun σ H R ⟨F, ρ, g, d, g', I, ef, q⟩ => by
  obtain ⟨y, g1, e1, e2⟩ := mbnd_some ef
  obtain ⟨z, g2, e3, e4⟩ := mbnd_some e2
  obtain ⟨e5, rfl⟩ := mlift_some e4
  refine ⟨F, ρ, g, y, g1, I, e1, fun xv H1 F1 I1 E1 r1 => ⟨F1, ρ, g1, z, _, I1, e3, fun zv H2 F2 I2 E2 r2 => ?_⟩⟩
  have r1' : BR X.K B F2 H2 xv y := BR.mono E2 r1
  unfold sMaxD at e5
  cases e6 : seqD y with
  | none => rw [e6] at e5; cases e5
  | some es =>
    rw [e6, Option.bind_some] at e5
    cases e7 : intsD es with
    | none => rw [e7] at e5; cases e5
    | some ls =>
      rw [e7] at e5
      rw [intsD_some e7] at e6
      refine ⟨xv, zv, y, ls, rfl, rfl, e6, r1'.dp (layD_ints e6), fun z0 => ?_, fun n ns z0 => ?_⟩
      · subst z0
        cases e5
        exact q _ H2 F2 I2 (E1.trans E2) r2
      · subst z0
        cases e5
        exact q _ H2 F2 I2 (E1.trans E2) (.int _)
end
end Q

set_option Elab.async false
set_option linter.all false
set_option maxRecDepth 100000
/-! QAB: the pure layer: names stored at once, one of them owned. -/
namespace Q
open PySem PySem.Spec PyProof.Rows L2
section
variable {X : Cx} {B : Bs} {ss : Option Nat} {O O1 O2 O3 O4 Ob : List Nat} {a b c : Expr} {f h k : SE} {pos : Pos} {x y z : Str}
/-- what is new stays so behind a store of what is frozen -/
theorem fr_set {K : PySem.W.Frag} {F : Fz} {H : Hp} {σ : L2.St} {ρ : Ev} {i : Nat} {v w : V} {d e : D} (r : KRep K B O F H σ ρ .fr v d) : KRep K B (O.filter (· ≠ i)) F H (σ.set i (some w)) (ρ.set i (some e)) .fr v d := by
  refine r.imp id fun ⟨a2, o2, e2, nf2, np2, hb2, ho2, c2, ap2⟩ => ⟨a2, o2, e2, nf2, np2, hb2, ho2, c2, fun l e' hl he hc' hσ => ?_⟩
  obtain ⟨m, n⟩ := List.mem_filter.mp hl
  have n' : l ≠ i := by simpa using n
  rw [List.getElem?_set_ne (Ne.symm n')] at he hσ
  exact ap2 l e' m he hc' hσ
/-- x, y = e1, [] -/
theorem q_parFO {k1 k2 : Nat} {px py pt pt2 : Pos} (i j : Nat) (hc : X.calm = true) (hN : X.N.Nodup) (ha : PE X a (tE X.K B ss O O1 .fz f)) (hb : PE X b (tE X.K B ss O1 O2 .fr h)) (hO : (j :: (O2.filter (· ≠ i)).filter (· ≠ j)) = O3 := by rfl) (hsi : ss ≠ some i := by decide) (hsj : ss ≠ some j := by decide)
    (hi : X.N[i]? = some x := by rfl) (hj : X.N[j]? = some y := by rfl) (hij : i ≠ j := by decide) (hx : X.env.scope.names.lookup x = some .local := by rfl) (hy : X.env.scope.names.lookup y = some .local := by rfl)
    (hw : swappedStores [.Tuple [.Name x px, .Name y py] k1 pt] (.Tuple [a, b] k2 pt2) X.env = pure (some [x, y]) := by rfl) (hs : swapsWithSole [.Tuple [.Name x px, .Name y py] k1 pt] (.Tuple [a, b] k2 pt2) pos.line X.env = pure false := by rfl)
    (n1 : starEach [a, b] X.env = (false, eval a X.env) :: starEach [b] X.env := by rfl) (n2 : starEach [b] X.env = (false, eval b X.env) :: starEach [] X.env := by rfl) :
    PS X (.Assign [.Tuple [.Name x px, .Name y py] k1 pt] (.Tuple [a, b] k2 pt2) pos) (tS X.K B ss O O3 Ob (sPar i j f h)) :=
  ps_imp (ps_par hc hN hi hj hij hx hy (pa_cons ha (pa_cons hb pa_nil n2) n1) hw hs) fun E σ H ⟨F, ρ, g, fl, g', I, ef, q⟩ => by
  subst hO
  obtain ⟨d, g1, e1, e2⟩ := mbnd_some ef
  obtain ⟨d2, g2, e3, e4⟩ := mbnd_some e2
  cases e4
  exact ⟨F, ρ, g, d, g1, I, e1, fun x' H' F' I' E' r => ⟨F', ρ, g1, d2, _, I', e3, fun y' H2 F2 I2 E2 r2 => ⟨x', y', rfl, q _ H2 F2 ((I2.set hsi (Rep.mono E2.stay r)).setO hsj (fr_set r2)) (E'.stay.trans E2.stay)⟩⟩⟩
/-- x, y, z = e1, e2, [] -/
theorem q_par3FO {k1 k2 : Nat} {px py pz pt pt2 : Pos} (i j l : Nat) (hc : X.calm = true) (hN : X.N.Nodup) (ha : PE X a (tE X.K B ss O O1 .fz f)) (hb : PE X b (tE X.K B ss O1 O2 .fz h)) (hd : PE X c (tE X.K B ss O2 O3 .fr k)) (hO : (l :: ((O3.filter (· ≠ i)).filter (· ≠ j)).filter (· ≠ l)) = O4 := by rfl)
    (hsi : ss ≠ some i := by decide) (hsj : ss ≠ some j := by decide) (hsl : ss ≠ some l := by decide)
    (hi : X.N[i]? = some x := by rfl) (hj : X.N[j]? = some y := by rfl) (hl : X.N[l]? = some z := by rfl) (hij : i ≠ j := by decide) (hil : i ≠ l := by decide) (hjl : j ≠ l := by decide)
    (hx : X.env.scope.names.lookup x = some .local := by rfl) (hy : X.env.scope.names.lookup y = some .local := by rfl) (hz : X.env.scope.names.lookup z = some .local := by rfl)
    (hw : swappedStores [.Tuple [.Name x px, .Name y py, .Name z pz] k1 pt] (.Tuple [a, b, c] k2 pt2) X.env = pure (some [x, y, z]) := by rfl)
    (hs : swapsWithSole [.Tuple [.Name x px, .Name y py, .Name z pz] k1 pt] (.Tuple [a, b, c] k2 pt2) pos.line X.env = pure false := by rfl)
    (n1 : starEach [a, b, c] X.env = (false, eval a X.env) :: starEach [b, c] X.env := by rfl) (n2 : starEach [b, c] X.env = (false, eval b X.env) :: starEach [c] X.env := by rfl) (n3 : starEach [c] X.env = (false, eval c X.env) :: starEach [] X.env := by rfl) :
    PS X (.Assign [.Tuple [.Name x px, .Name y py, .Name z pz] k1 pt] (.Tuple [a, b, c] k2 pt2) pos) (tS X.K B ss O O4 Ob (sPar3 i j l f h k)) :=
  ps_imp (ps_par3 hc hN hi hj hl hij hil hjl hx hy hz (pa_cons ha (pa_cons hb (pa_cons hd pa_nil n3) n2) n1) hw hs) fun E σ H ⟨F, ρ, g, fl, g', I, ef, q⟩ => by
  subst hO
  obtain ⟨d, g1, e1, e2⟩ := mbnd_some ef
  obtain ⟨d2, g2, e3, e4⟩ := mbnd_some e2
  obtain ⟨d3, g3, e5, e6⟩ := mbnd_some e4
  cases e6
  exact ⟨F, ρ, g, d, g1, I, e1, fun x' H' F' I' E' r => ⟨F', ρ, g1, d2, g2, I', e3, fun y' H2 F2 I2 E2 r2 => ⟨F2, ρ, g2, d3, _, I2, e5, fun z' H3 F3 I3 E3 r3 => ⟨x', y', z', rfl,
    q _ H3 F3 (((I3.set hsi (Rep.mono (E2.stay.trans E3.stay) r)).set hsj (Rep.mono E3.stay r2)).setO hsl (fr_set (fr_set r3))) (E'.stay.trans (E2.stay.trans E3.stay))⟩⟩⟩⟩
/-- x, y = [], e2 -/
theorem q_parOF {k1 k2 : Nat} {px py pt pt2 : Pos} (i j : Nat) (hc : X.calm = true) (hN : X.N.Nodup) (ha : PE X a (tE X.K B ss O O .fr f)) (hb : ∀ B' : Bs, B'.src = B.src → PE X b (tE X.K B' ss O O .fz h)) (hO : ((i :: O.filter (· ≠ i)).filter (· ≠ j)) = O3 := by rfl) (hsi : ss ≠ some i := by decide) (hsj : ss ≠ some j := by decide)
    (hi : X.N[i]? = some x := by rfl) (hj : X.N[j]? = some y := by rfl) (hij : i ≠ j := by decide) (hx : X.env.scope.names.lookup x = some .local := by rfl) (hy : X.env.scope.names.lookup y = some .local := by rfl)
    (hw : swappedStores [.Tuple [.Name x px, .Name y py] k1 pt] (.Tuple [a, b] k2 pt2) X.env = pure (some [x, y]) := by rfl) (hs : swapsWithSole [.Tuple [.Name x px, .Name y py] k1 pt] (.Tuple [a, b] k2 pt2) pos.line X.env = pure false := by rfl)
    (n1 : starEach [a, b] X.env = (false, eval a X.env) :: starEach [b] X.env := by rfl) (n2 : starEach [b] X.env = (false, eval b X.env) :: starEach [] X.env := by rfl) :
    PS X (.Assign [.Tuple [.Name x px, .Name y py] k1 pt] (.Tuple [a, b] k2 pt2) pos) (tS X.K B ss O O3 Ob (sPar i j f h)) :=
  ps_imp (ps_par hc hN hi hj hij hx hy (pa_cons ha (pa_cons (pe_any (t := fun B' => tE X.K B' ss O O .fz h) hb) pa_nil n2) n1) hw hs) fun E σ H ⟨F, ρ, g, fl, g', I, ef, q⟩ => by
  subst hO
  obtain ⟨d, g1, e1, e2⟩ := mbnd_some ef
  obtain ⟨d2, g2, e3, e4⟩ := mbnd_some e2
  cases e4
  refine ⟨F, ρ, g, d, g1, I, e1, fun x' H' F' I' E' r => ?_⟩
  rcases r with ⟨z, r⟩ | ⟨a1, o1, ea, nf, np, hb1, ho, c1, ap⟩
  · refine ⟨B, rfl, F', ρ, g1, d2, _, I', e3, fun y' H2 F2 I2 E2 r2 => ⟨x', y', rfl, ?_⟩⟩
    exact q _ H2 F2 ((I2.setO hsi (.inl ⟨z, Rep.mono E2.stay r⟩)).set hsj r2) (E'.stay.trans E2.stay)
  · subst ea
    refine ⟨{ B with P := fun a => B.P a ∨ a = a1 }, rfl, F', ρ, g1, d2, _, I'.guard nf (by rw [ho]; exact fun z => nomatch z) ap, e3, fun y' H2 F2 I2 E2 r2 => ⟨_, y', rfl, ?_⟩⟩
    have E2' : Ext B.src F' H' F2 H2 := E2
    exact q _ H2 F2 (((I2.unguard (B := B) fun _ h => .inl h).setO hsi (.inr ⟨a1, o1, rfl, (I2.prot a1 (.inr rfl)).1, np, hb1, E2'.keep a1 o1 (I'.nsOwn hb1) ho, c1.mono E2'.stay, ap⟩)).set hsj r2) (E'.stay.trans E2'.stay)
/-- a new object that nobody looks at -/
theorem fr_laid {K : PySem.W.Frag} {F : Fz} {H : Hp} {σ : L2.St} {ρ : Ev} {g : G} (I : SInv K B ss O F H σ ρ g) {p : Addr} {u : HO} (hp : H p = none) {v : V} {d : D} (r : KRep K B O F H σ ρ .fr v d) : KRep K B O F (upd H p u) σ ρ .fr v d := by
  have E := I.ext_new (o := u) hp
  refine r.imp (fun ⟨z, r⟩ => ⟨z, Rep.mono E.stay r⟩) fun ⟨a2, o2, e2, nf2, np2, hb2, ho2, c2, ap2⟩ => ⟨a2, o2, e2, nf2, np2, hb2, E.keep a2 o2 (I.nsOwn hb2) ho2, c2.mono E.stay, ap2⟩
/-- x, y = e1, [], a cell among them -/
theorem q_asgFO {k1 k2 : Nat} {px py pt pt2 : Pos} (i j : Nat) (hc : X.calm = true) (hN : X.N.Nodup) (ha : PE X a (tE X.K B ss O O1 .fz f)) (hb : PE X b (tE X.K B ss O1 O2 .fr h)) (hO : (j :: (O2.filter (· ≠ i)).filter (· ≠ j)) = O3 := by rfl) (hsi : ss ≠ some i := by decide) (hsj : ss ≠ some j := by decide)
    (hi : X.N[i]? = some x := by rfl) (hj : X.N[j]? = some y := by rfl) (hxx : Loc X.env.scope x := by first | exact Or.inl rfl | exact Or.inr rfl) (hfx : X.fn x = true ∨ X.env.scope.names.lookup x = some .local := by first | exact .inl rfl | exact .inr rfl) (hxy : Loc X.env.scope y := by first | exact Or.inl rfl | exact Or.inr rfl) (hfy : X.fn y = true ∨ X.env.scope.names.lookup y = some .local := by first | exact .inl rfl | exact .inr rfl)
    (hs : swapsWithSole [.Tuple [.Name x px, .Name y py] k1 pt] (.Tuple [a, b] k2 pt2) pos.line X.env = pure false := by rfl) (hw : swappedStores [.Tuple [.Name x px, .Name y py] k1 pt] (.Tuple [a, b] k2 pt2) X.env = pure none := by rfl)
    (h1 : (assignEach [.Tuple [.Name x px, .Name y py] k1 pt] X.env).map (·.2) = [assign (.Tuple [.Name x px, .Name y py] k1 pt) X.env] := by rfl)
    (hn : (assignEach [.Name x px, .Name y py] X.env).length = 2 := by rfl) (hst : (assignEach [.Name x px, .Name y py] X.env).findIdx? (·.1) = none := by rfl)
    (s1 : (assignEach [.Name x px, .Name y py] X.env).map (·.2) = assign (.Name x px) X.env :: (assignEach [.Name y py] X.env).map (·.2) := by rfl) (s2 : (assignEach [.Name y py] X.env).map (·.2) = assign (.Name y py) X.env :: (assignEach [] X.env).map (·.2) := by rfl)
    (n1 : starEach [a, b] X.env = (false, eval a X.env) :: starEach [b] X.env := by rfl) (n2 : starEach [b] X.env = (false, eval b X.env) :: starEach [] X.env := by rfl) :
    PS X (.Assign [.Tuple [.Name x px, .Name y py] k1 pt] (.Tuple [a, b] k2 pt2) pos) (tS X.K B ss O O3 Ob (sPar i j f h)) :=
  ps_imp (ps_asg (pe_tup (pa_cons ha (pa_cons hb pa_nil n2) n1)) (pg_tup hc (pgs_cons (pg_name hN hi hxx hfx) (pgs_cons (pg_name hN hj hxy hfy) pgs_nil s2) s1) hn hst) hs hw h1) fun E σ H ⟨F, ρ, g, fl, g', I, ef, q⟩ => by
  subst hO
  obtain ⟨d, g1, e1, e2⟩ := mbnd_some ef
  obtain ⟨d2, g2, e3, e4⟩ := mbnd_some e2
  cases e4
  refine ⟨F, ρ, g, d, g1, I, e1, fun x' H' F' I' E' r => ⟨F', ρ, g1, d2, _, I', e3, fun y' H2 F2 I2 E2 r2 => ⟨by show 2 ≤ sizeLine; rw [sizeLine_eq]; omega, fun p hp => ⟨p, _, rfl, .of upd_same, rfl, x', _, rfl, y', _, rfl, rfl, ?_⟩⟩⟩⟩
  have I3 := I2.laid (o := .tup [x', y']) hp
  have E3 := I2.ext_new (o := .tup [x', y']) hp
  exact q _ _ F2 ((I3.set hsi (Rep.mono (E2.stay.trans E3.stay) r)).setO hsj (fr_set (fr_laid I2 hp r2))) (E'.stay.trans (E2.stay.trans E3.stay))
/-- x, y, z = e1, e2, [], a cell among them -/
theorem q_asg3FO {k1 k2 : Nat} {px py pz pt pt2 : Pos} (i j l : Nat) (hc : X.calm = true) (hN : X.N.Nodup) (ha : PE X a (tE X.K B ss O O1 .fz f)) (hb : PE X b (tE X.K B ss O1 O2 .fz h)) (hd : PE X c (tE X.K B ss O2 O3 .fr k)) (hO : (l :: ((O3.filter (· ≠ i)).filter (· ≠ j)).filter (· ≠ l)) = O4 := by rfl)
    (hsi : ss ≠ some i := by decide) (hsj : ss ≠ some j := by decide) (hsl : ss ≠ some l := by decide)
    (hi : X.N[i]? = some x := by rfl) (hj : X.N[j]? = some y := by rfl) (hl : X.N[l]? = some z := by rfl) (hxx : Loc X.env.scope x := by first | exact Or.inl rfl | exact Or.inr rfl) (hfx : X.fn x = true ∨ X.env.scope.names.lookup x = some .local := by first | exact .inl rfl | exact .inr rfl) (hxy : Loc X.env.scope y := by first | exact Or.inl rfl | exact Or.inr rfl) (hfy : X.fn y = true ∨ X.env.scope.names.lookup y = some .local := by first | exact .inl rfl | exact .inr rfl) (hxz : Loc X.env.scope z := by first | exact Or.inl rfl | exact Or.inr rfl) (hfz : X.fn z = true ∨ X.env.scope.names.lookup z = some .local := by first | exact .inl rfl | exact .inr rfl)
    (hs : swapsWithSole [.Tuple [.Name x px, .Name y py, .Name z pz] k1 pt] (.Tuple [a, b, c] k2 pt2) pos.line X.env = pure false := by rfl) (hw : swappedStores [.Tuple [.Name x px, .Name y py, .Name z pz] k1 pt] (.Tuple [a, b, c] k2 pt2) X.env = pure none := by rfl)
    (h1 : (assignEach [.Tuple [.Name x px, .Name y py, .Name z pz] k1 pt] X.env).map (·.2) = [assign (.Tuple [.Name x px, .Name y py, .Name z pz] k1 pt) X.env] := by rfl)
    (hn : (assignEach [.Name x px, .Name y py, .Name z pz] X.env).length = 3 := by rfl) (hst : (assignEach [.Name x px, .Name y py, .Name z pz] X.env).findIdx? (·.1) = none := by rfl)
    (s1 : (assignEach [.Name x px, .Name y py, .Name z pz] X.env).map (·.2) = assign (.Name x px) X.env :: (assignEach [.Name y py, .Name z pz] X.env).map (·.2) := by rfl) (s2 : (assignEach [.Name y py, .Name z pz] X.env).map (·.2) = assign (.Name y py) X.env :: (assignEach [.Name z pz] X.env).map (·.2) := by rfl) (s3 : (assignEach [.Name z pz] X.env).map (·.2) = assign (.Name z pz) X.env :: (assignEach [] X.env).map (·.2) := by rfl)
    (n1 : starEach [a, b, c] X.env = (false, eval a X.env) :: starEach [b, c] X.env := by rfl) (n2 : starEach [b, c] X.env = (false, eval b X.env) :: starEach [c] X.env := by rfl) (n3 : starEach [c] X.env = (false, eval c X.env) :: starEach [] X.env := by rfl) :
    PS X (.Assign [.Tuple [.Name x px, .Name y py, .Name z pz] k1 pt] (.Tuple [a, b, c] k2 pt2) pos) (tS X.K B ss O O4 Ob (sPar3 i j l f h k)) :=
  ps_imp (ps_asg (pe_tup (pa_cons ha (pa_cons hb (pa_cons hd pa_nil n3) n2) n1)) (pg_tup hc (pgs_cons (pg_name hN hi hxx hfx) (pgs_cons (pg_name hN hj hxy hfy) (pgs_cons (pg_name hN hl hxz hfz) pgs_nil s3) s2) s1) hn hst) hs hw h1) fun E σ H ⟨F, ρ, g, fl, g', I, ef, q⟩ => by
  subst hO
  obtain ⟨d, g1, e1, e2⟩ := mbnd_some ef
  obtain ⟨d2, g2, e3, e4⟩ := mbnd_some e2
  obtain ⟨d3, g3, e5, e6⟩ := mbnd_some e4
  cases e6
  refine ⟨F, ρ, g, d, g1, I, e1, fun x' H' F' I' E' r => ⟨F', ρ, g1, d2, g2, I', e3, fun y' H2 F2 I2 E2 r2 => ⟨F2, ρ, g2, d3, _, I2, e5, fun z' H3 F3 I3 E3 r3 => ⟨by show 3 ≤ sizeLine; rw [sizeLine_eq]; omega, fun p hp => ⟨p, _, rfl, .of upd_same, rfl, x', _, rfl, y', _, rfl, z', _, rfl, rfl, ?_⟩⟩⟩⟩⟩
  have I4 := I3.laid (o := .tup [x', y', z']) hp
  have E4 := I3.ext_new (o := .tup [x', y', z']) hp
  exact q _ _ F3 (((I4.set hsi (Rep.mono (E2.stay.trans (E3.stay.trans E4.stay)) r)).set hsj (Rep.mono (E3.stay.trans E4.stay) r2)).setO hsl (fr_set (fr_set (fr_laid I3 hp r3)))) (E'.stay.trans (E2.stay.trans (E3.stay.trans E4.stay)))
end
end Q

set_option Elab.async false
set_option linter.all false
set_option maxRecDepth 100000
/-! QAC: the pure layer: repr of data that hold {}. -/
namespace Q
open PySem PySem.Spec PyProof.Rows L2
/-! ### data whose dicts are all empty -/
mutual
def layE : D → Bool
  | .none => true
  | .bool _ => true
  | .int _ => true
  | .str _ => true
  | .list xs => layEs xs
  | .tuple xs => layEs xs
  | .dict kvs => kvs.isEmpty
def layEs : List D → Bool
  | [] => true
  | x :: r => layE x && layEs r
end
/-! what stands in the heap, the places of dicts apart from that of the modules -/
mutual
inductive RdS (h : Heap) : Value → D → Prop
  | none : RdS h .none .none
  | bool (b : Bool) : RdS h (.bool b) (.bool b)
  | int (i : Int) (t : Tok) : RdS h (.int i t) (.int i)
  | str (x : Str) (t : Tok) : RdS h (.str x t) (.str x)
  | list {a : Addr} {o : Obj} {vs : Array Value} {n : Nat} {xs : List D} : h.get? a = some o → o.cls = .type "list" → o.data = .seq vs n → RdSs h vs.toList xs → RdS h (.ref a) (.list xs)
  | tuple {a : Addr} {o : Obj} {vs : Array Value} {n : Nat} {xs : List D} : h.get? a = some o → o.cls = .type "tuple" → o.data = .seq vs n → RdSs h vs.toList xs → RdS h (.ref a) (.tuple xs)
  | dict {a : Addr} {o : Obj} {es : Array DictEntry} {n : Nat} : h.get? a = some o → o.cls = .type "dict" → o.data = .dict es n → es.toList = [] → (a == sysModules) = false → RdS h (.ref a) (.dict [])
inductive RdSs (h : Heap) : List Value → List D → Prop
  | nil : RdSs h [] []
  | cons {v : Value} {vs : List Value} {d : D} {ds : List D} : RdS h v d → RdSs h vs ds → RdSs h (v :: vs) (d :: ds)
end
section
variable {h : Heap}
mutual
theorem RdS.reads : ∀ {v : Value} {d : D}, RdS h v d → ∃ as, Reads h v d as
  | _, _, .none => ⟨_, .none⟩
  | _, _, .bool b => ⟨_, .bool b⟩
  | _, _, .int i t => ⟨_, .int i t⟩
  | _, _, .str x t => ⟨_, .str x t⟩
  | _, _, .list a b c r => let ⟨_, q⟩ := RdSs.reads r; ⟨_, .list a b c q⟩
  | _, _, .tuple a b c r => let ⟨_, q⟩ := RdSs.reads r; ⟨_, .tuple a b c q⟩
  | _, _, .dict a b c e _ => ⟨_, .dict a b c (kvs := []) (as := []) (bs := []) (by rw [e]; exact .nil) (by rw [e]; exact .nil)⟩
theorem RdSs.reads : ∀ {v : List Value} {d : List D}, RdSs h v d → ∃ as, ReadsAll h v d as
  | _, _, .nil => ⟨_, .nil⟩
  | _, _, .cons a r => let ⟨_, q1⟩ := RdS.reads a; let ⟨_, q2⟩ := RdSs.reads r; ⟨_, .cons q1 q2⟩
end
end
section
variable {prog : Program} {w : World} {h : Heap}
mutual
theorem RdS.shows : ∀ {v : Value} {d : D}, RdS h v d → d.showable = true → d.shown.length ≤ sizeLine → ∃ bs, ReadAtMost h d.depth bs ∧ ReprK prog w bs h d.depth v d.shown
  | _, _, .none, hs, hz => ReprK.of_reads .none hs (fun z => by simp [PyData.hasDict] at z) hz
  | _, _, .bool b, hs, hz => ReprK.of_reads (.bool b) hs (fun z => by simp [PyData.hasDict] at z) hz
  | _, _, .int i t, hs, hz => ReprK.of_reads (.int i t) hs (fun z => by simp [PyData.hasDict] at z) hz
  | _, _, .str x t, hs, hz => ReprK.of_reads (.str x t) hs (fun z => by simp [PyData.hasDict] at z) hz
  | _, _, .list (a := a) (vs := vs) (xs := xs) q1 q2 q3 r, hs, hz => by
    have z1 : PyData.showableAll xs = true := by simpa [PyData.showable] using hs
    have z2 : (listText (PyData.shownAll xs)).length ≤ sizeLine := by simpa only [PyData.shown] using hz
    obtain ⟨bs, hb, hk⟩ := RdSs.shows r z1 (fun t ht => Nat.le_trans (listText_mem_le ht) z2)
    obtain ⟨as, ra⟩ := RdSs.reads r
    have rr : Reads h (.ref a) (.list xs) _ := .list q1 q2 q3 ra
    have hd : PyData.depthAll xs < (PyData.list xs).depth := by simp only [PyData.depth]; omega
    have na : a ∉ bs := not_mem_of_deeper rr hd hb
    have bd := ReadAtMost.cons rr (Nat.le_refl _) (hb.mono (Nat.le_of_lt hd))
    refine ⟨a :: bs, bd, ?_⟩
    have e1 : (PyData.list xs).depth = PyData.depthAll xs + 1 := by simp only [PyData.depth]
    have e2 : (PyData.list xs).shown = listText (PyData.shownAll xs) := by simp only [PyData.shown]
    rw [e1, e2]
    obtain ⟨l⟩ := vs
    match l, r, q3, hk with
    | [], r, q3, _ =>
      cases xs with
      | nil => exact ReprK.listEmpty q1 q2 q3
      | cons _ _ => exact nomatch (show RdSs h [] (_ :: _) from r)
    | x :: l, r, q3, hk => exact ReprK.list q1 q2 q3 na (by simpa using hk.length_eq) (fun i y e => hk.item i y (by simpa using e))
  | _, _, .tuple (a := a) (xs := xs) q1 q2 q3 r, hs, hz => by
    have z1 : PyData.showableAll xs = true := by simpa [PyData.showable] using hs
    have z2 : (tupleText (PyData.shownAll xs)).length ≤ sizeLine := by simpa only [PyData.shown] using hz
    obtain ⟨bs, hb, hk⟩ := RdSs.shows r z1 (fun t ht => Nat.le_trans (tupleText_mem_le ht) z2)
    obtain ⟨as, ra⟩ := RdSs.reads r
    have rr : Reads h (.ref a) (.tuple xs) _ := .tuple q1 q2 q3 ra
    have hd : PyData.depthAll xs < (PyData.tuple xs).depth := by simp only [PyData.depth]; omega
    have na : a ∉ bs := not_mem_of_deeper rr hd hb
    refine ⟨a :: bs, ReadAtMost.cons rr (Nat.le_refl _) (hb.mono (Nat.le_of_lt hd)), ?_⟩
    have e1 : (PyData.tuple xs).depth = PyData.depthAll xs + 1 := by simp only [PyData.depth]
    have e2 : (PyData.tuple xs).shown = tupleText (PyData.shownAll xs) := by simp only [PyData.shown]
    rw [e1, e2]
    exact ReprK.tuple q1 q2 q3 na hk
  | _, _, .dict (a := a) q1 q2 q3 e sm, hs, hz => by
    have rr : Reads h (.ref a) (.dict []) _ := .dict q1 q2 q3 (kvs := []) (as := []) (bs := []) (by rw [e]; exact .nil) (by rw [e]; exact .nil)
    refine ⟨[a], ReadAtMost.cons rr (Nat.le_refl _) (fun b hb => nomatch hb), ?_⟩
    have e1 : (PyData.dict []).depth = 0 + 1 := by simp [PyData.depth, PyData.depthKv]
    have e2 : (PyData.dict []).shown = dictText [] := by simp [PyData.shown, PyData.shownKv]
    rw [e1, e2]
    exact ReprK.dict q1 q2 q3 sm (by simp) (by rw [e]; exact .nil)
theorem RdSs.shows : ∀ {v : List Value} {d : List D}, RdSs h v d → PyData.showableAll d = true → (∀ t ∈ PyData.shownAll d, t.length ≤ sizeLine) → ∃ bs, ReadAtMost h (PyData.depthAll d) bs ∧ ReprAllK prog w bs h (PyData.depthAll d) v (PyData.shownAll d)
  | _, _, .nil, _, _ => ⟨[], (fun _ z => nomatch z), by simp only [PyData.shownAll]; exact .nil⟩
  | _, _, .cons (d := d) (ds := ds) a r, hs, hz => by
    have z : d.showable = true ∧ PyData.showableAll ds = true := by simpa [PyData.showableAll] using hs
    have y : PyData.shownAll (d :: ds) = d.shown :: PyData.shownAll ds := by simp only [PyData.shownAll]
    rw [y] at hz
    obtain ⟨b1, hb1, k1⟩ := RdS.shows a z.1 (hz _ List.mem_cons_self)
    obtain ⟨b2, hb2, k2⟩ := RdSs.shows r z.2 (fun t ht => hz t (List.mem_cons_of_mem _ ht))
    have e1 : PyData.depthAll (d :: ds) = max d.depth (PyData.depthAll ds) := by simp only [PyData.depthAll]
    rw [y, e1]
    refine ⟨b1 ++ b2, (hb1.mono (Nat.le_max_left _ _)).append (hb2.mono (Nat.le_max_right _ _)), ?_⟩
    exact .cons ((k1.more fun b hb => List.mem_append_left _ hb).level_le (Nat.le_max_left _ _)) (k2.more_le (fun b hb => List.mem_append_right _ hb) (Nat.le_max_right _ _))
end
end

section
variable {prog : Program} {w : World} {h : Heap}
theorem shows_by {a : Addr} {d : D} (r : RdS h (.ref a) d) (hs : d.showable = true) (hz : d.shown.length ≤ sizeLine) : ∃ T idr, ShowsBy prog w h a d T idr := by
  cases r with
  | @list _ o vs n xs q1 q2 q3 r =>
    have z1 : PyData.showableAll xs = true := by simpa [PyData.showable] using hs
    have z2 : (listText (PyData.shownAll xs)).length ≤ sizeLine := by simpa only [PyData.shown] using hz
    obtain ⟨bs, hb, hk⟩ := RdSs.shows (prog := prog) (w := w) r z1 (fun t ht => Nat.le_trans (listText_mem_le ht) z2)
    obtain ⟨as, ra⟩ := RdSs.reads r
    have hd : PyData.depthAll xs < (PyData.list xs).depth := by simp only [PyData.depth]; omega
    have na : a ∉ bs := not_mem_of_deeper (.list q1 q2 q3 ra) hd hb
    refine ⟨"list", "list.__repr__", PySem.F.slot_list_repr.toG, PySem.F.slot_list_str, PySem.F.slot_list_format, fun s k0 => ⟨o, k0 _ _ q1, q2⟩, fun A E s Q hg hu k0 hQ => ?_⟩
    have e1 : (PyData.list xs).depth = PyData.depthAll xs + 1 := by simp only [PyData.depth]
    have e2 : (PyData.list xs).shown = listText (PyData.shownAll xs) := by simp only [PyData.shown]
    rw [e1] at hu
    rw [e2] at hQ
    obtain ⟨l⟩ := vs
    match l, r, q3, hk with
    | [], r, q3, _ =>
      cases xs with
      | nil => exact call_list_repr_empty ⟨o, k0 _ _ q1, q2⟩ (k0 _ _ q1) q3 (hQ s.heap _ _ fun _ _ e => e)
      | cons _ _ => exact nomatch (show RdSs h [] (_ :: _) from r)
    | x :: l, r, q3, hk => exact call_list_reprK q1 q2 q3 na (by simpa using hk.length_eq) (fun i y e => hk.item i y (by simpa using e)) hg (fun b _ => Clear.nil b) hu k0 hQ z2
  | @tuple _ o vs n xs q1 q2 q3 r =>
    have z1 : PyData.showableAll xs = true := by simpa [PyData.showable] using hs
    have z2 : (tupleText (PyData.shownAll xs)).length ≤ sizeLine := by simpa only [PyData.shown] using hz
    obtain ⟨bs, hb, hk⟩ := RdSs.shows (prog := prog) (w := w) r z1 (fun t ht => Nat.le_trans (tupleText_mem_le ht) z2)
    obtain ⟨as, ra⟩ := RdSs.reads r
    have hd : PyData.depthAll xs < (PyData.tuple xs).depth := by simp only [PyData.depth]; omega
    have na : a ∉ bs := not_mem_of_deeper (.tuple q1 q2 q3 ra) hd hb
    refine ⟨"tuple", "tuple.__repr__", PySem.F.slot_tuple_repr, PySem.F.slot_tuple_str, PySem.F.slot_tuple_format, fun s k0 => ⟨o, k0 _ _ q1, q2⟩, fun A E s Q hg hu k0 hQ => ?_⟩
    have e1 : (PyData.tuple xs).depth = PyData.depthAll xs + 1 := by simp only [PyData.depth]
    have e2 : (PyData.tuple xs).shown = tupleText (PyData.shownAll xs) := by simp only [PyData.shown]
    rw [e1] at hu
    rw [e2] at hQ
    exact call_tuple_reprK q1 q2 q3 na hk hg (fun b _ => Clear.nil b) hu k0 hQ z2
  | @dict _ o es n q1 q2 q3 e sm =>
    refine ⟨"dict", "dict.__repr__", PySem.F.slot_dict_repr, PySem.F.slot_dict_str, PySem.F.slot_dict_format, fun s k0 => ⟨o, k0 _ _ q1, q2⟩, fun A E s Q hg hu k0 hQ => ?_⟩
    have e1 : (PyData.dict []).depth = 0 + 1 := by simp [PyData.depth, PyData.depthKv]
    have e2 : (PyData.dict []).shown = dictText [] := by simp [PyData.shown, PyData.shownKv]
    rw [e1] at hu
    rw [e2] at hQ hz
    exact call_dict_reprK (as := []) q1 q2 q3 sm (fun z => nomatch z) (by rw [e]; exact .nil) hg (fun b _ => Clear.nil b) hu k0 hQ hz
end
section
variable {X : Cx} {B : Bs} {F : Fz} {H : Hp} {pins : List (Addr × Obj)} {σ : L2.St} {s : Shared}
theorem dictE_rd (I : Inv X pins σ H s) {a : Addr} {o : HO} {kvs : List (D × D)} (ho : H a = some o) (c : Cont X.K F H o (.dict kvs)) (hl : layE (.dict kvs) = true) : RdS s.heap (.ref a) (.dict kvs) := by
  have e : kvs = [] := by simpa [layE] using hl
  subst e
  have k : H a = some (.dK []) ∨ H a = some (.dT []) := by
    cases o with
    | dK xs => cases xs with
      | nil => exact .inl ho
      | cons _ _ => cases c.1
    | dT xs => cases xs with
      | nil => exact .inr ho
      | cons _ _ => cases c.1
    | _ => exact c.elim
  have I2 : ∃ H2, Inv X pins σ H2 s ∧ H2 a = some (.dK []) := k.elim (fun k => ⟨H, I, k⟩) fun k => ⟨_, Inv.toK I k, upd_same⟩
  obtain ⟨H2, I2, k2⟩ := I2
  obtain ⟨_, hd, vs, rel, ob, es, ep, h1, h2, h3, h4, h5, h6⟩ := dk_of I2.hok k2
  cases rel
  have ee : es.toList = [] := by generalize es.toList = l at h5; cases h5; rfl
  exact .dict h1 h2.1 h3 ee hd
mutual
theorem rep_rdS (I : Inv X pins σ H s) : ∀ {v : V} {d : D} {u : Value}, Rep X.K F H v d → RelV v u → layE d = true → RdS s.heap u d
  | _, _, _, .non, r, _ => by cases r; exact .none
  | _, _, _, .bl b, r, _ => by cases r; exact .bool b
  | _, _, _, .int i, r, _ => by obtain ⟨t, rfl⟩ := r; exact .int i t
  | _, _, _, .str x, r, _ => by obtain ⟨t, rfl⟩ := r; exact .str x t
  | _, _, u, .tup (a := a) q rr, r, hl => by
    obtain rfl : u = Value.ref a := r
    obtain ⟨z, its, rv, o, h1, h2, n, h3⟩ := (show ObjOk X.prog X.w H s.heap a (.tup _) from I.hok a _ q)
    exact .tuple h1 h2 h3 (rep_rdSs I rr (by simpa using rv) (by simpa [layE] using hl))
  | _, _, u, .lst (a := a) _ q rr, r, hl => by
    obtain rfl : u = Value.ref a := r
    obtain ⟨z, its, n, rv, h1⟩ := (show ObjOk X.prog X.w H s.heap a (.lst _) from I.hok a _ q)
    exact .list h1 rfl rfl (rep_rdSs I rr (by simpa using rv) (by simpa [layE] using hl))
  | _, _, u, .dK (a := a) _ q e rr, r, hl => by
    obtain rfl : u = Value.ref a := r
    exact dictE_rd I q ⟨e, rr⟩ hl
  | _, _, u, .dT (a := a) _ q e rr, r, hl => by
    obtain rfl : u = Value.ref a := r
    exact dictE_rd I q ⟨e, rr⟩ hl
theorem rep_rdSs (I : Inv X pins σ H s) : ∀ {v : List V} {d : List D} {u : List Value}, RepAll X.K F H v d → Vals v u → layEs d = true → RdSs s.heap u d
  | _, _, _, .nil, r, _ => by cases r; exact .nil
  | _, _, _, .cons a b, r, hl => by
    cases r with
    | cons r1 r2 =>
      have z : _ ∧ _ := Bool.and_eq_true_iff.mp (by simpa [layEs] using hl)
      exact .cons (rep_rdS I a r1 z.1) (rep_rdSs I b r2 z.2)
end
theorem br_rdS (I : Inv X pins σ H s) {v : V} {d : D} {u : Value} (r : BR X.K B F H v d) (ru : RelV v u) (hl : layE d = true) : RdS s.heap u d := by
  rcases r with r | ⟨a, o, rfl, _, ho, c⟩
  · exact rep_rdS I r ru hl
  · obtain rfl : u = Value.ref a := ru
    cases d with
    | list ds =>
      cases o with
      | lst xs =>
        obtain ⟨z, its, n, rv, h1⟩ := (show ObjOk X.prog X.w H s.heap a (.lst _) from I.hok a _ ho)
        exact .list h1 rfl rfl (rep_rdSs I c (by simpa using rv) (by simpa [layE] using hl))
      | _ => exact c.elim
    | dict kvs => exact dictE_rd I ho c hl
    | _ => cases o <;> exact c.elim
def sReprE (d : D) : Option D := if layE d && d.showable && decide (d.shown.length ≤ sizeLine) && decide (d.depth ≤ 100) then some (.str d.shown) else none
def sReprE1 : List D → Option D
  | [d] => sReprE d
  | _ => none
theorem f_reprE (hu : X.A.units + 200 < cLine) (hgd : X.A.guards = some []) : CallS X B (.builtin "repr") sReprE1 := by
  refine ⟨fun xs H R => ∃ (x' : V) (d : D) (F : Fz), xs = [x'] ∧ BR X.K B F H x' d ∧ layE d = true ∧ d.showable = true ∧ d.shown.length ≤ sizeLine ∧ d.depth ≤ 100 ∧ R (.str d.shown) H, fun pins s σ H xs us R I r h => ?_, fun ss O F H σ ρ g xs ds c R I rx hc q => ?_⟩
  · obtain ⟨x', d, F, rfl, hd, hl, h1, h2, h3, hq⟩ := h
    obtain ⟨u, rfl, rx⟩ := vals1 r
    have rd := br_rdS I hd rx hl
    have big : ∀ {a : Addr}, u = .ref a → RdS s.heap (.ref a) d → wpAny (model X.prog X.w) X.A (call (.builtin "repr") [u]) (EP X pins σ R) X.xe s := fun {a} e rd => by
      subst e
      obtain ⟨T, idr, S⟩ := shows_by (prog := X.prog) (w := X.w) rd h1 h2
      exact call_repr_slot (by omega) (S.typeIs s fun _ _ e => e) S.slotRepr (S.call X.A.in1 _ s _ hgd (by show X.A.units + 1 + d.depth < cLine; omega) (fun _ _ e => e) fun h' u tk hk => ⟨_, _, rfl, .str _, H, I.kept hk, ⟨_, rfl⟩, hq⟩)
    cases rd with
    | none => exact PySem.P.repr_of_none ⟨.str _, H, I.tok _, ⟨_, rfl⟩, hq⟩
    | bool k => exact PySem.P.repr_of_bool ⟨.str _, H, I.tok _, ⟨_, by cases k <;> rfl⟩, hq⟩
    | int i => exact PySem.P.repr_of_int (of_decide_eq_true h1) ⟨.str _, H, I.tok _, ⟨_, rfl⟩, hq⟩
    | str z => exact PySem.P.repr_of_str ⟨.str _, H, I.tok _, ⟨_, rfl⟩, hq⟩ h2
    | list a b c rr => exact big rfl (.list a b c rr)
    | tuple a b c rr => exact big rfl (.tuple a b c rr)
    | dict a b c e m => exact big rfl (.dict a b c e m)
  · match ds, hc with
    | [d], hc =>
      have hc' : sReprE d = some c := hc
      unfold sReprE at hc'
      split at hc'
      · rename_i q2
        rw [Bool.and_eq_true, Bool.and_eq_true, Bool.and_eq_true] at q2
        cases hc'
        obtain ⟨x', rfl, rx'⟩ := BRAll.one rx
        exact ⟨x', d, F, rfl, rx', q2.1.1.1, q2.1.1.2, of_decide_eq_true q2.1.2, of_decide_eq_true q2.2, I.fin q rfl (.str _)⟩
      · cases hc'
end
end Q

set_option Elab.async false
set_option linter.all false
set_option maxRecDepth 100000
/-! QAD: the pure layer: == and != with an empty row, whatever the other one holds. -/
namespace Q
open PySem PySem.Spec PyProof.Rows L2
section
variable {X : Cx} {B : Bs}
def sEq0 : D → D → Option D
  | .list xs, .list [] => some (.bool xs.isEmpty)
  | .tuple xs, .tuple [] => some (.bool xs.isEmpty)
  | _, _ => none
def sNe0 : D → D → Option D
  | .list xs, .list [] => some (.bool (!xs.isEmpty))
  | .tuple xs, .tuple [] => some (.bool (!xs.isEmpty))
  | _, _ => none
def r0 (K : PySem.W.Frag) (f : Bool → Bool) : R2 := fun x y H Q => ∃ (a b : Addr) (xs : List V), x = .ref a ∧ y = .ref b ∧ ((SqL K H a xs ∧ SqL K H b []) ∨ (SqT K H a xs ∧ SqT K H b [])) ∧ Q (.bl (f xs.isEmpty)) H
theorem op_eq0 (hu : X.A.units + 64 < cLine) : OpR X (compareOp .Eq) (r0 X.K id) := by
  intro pins s σ H x y v u Q I rx ry h
  obtain ⟨a, b, xs, rfl, rfl, hs, q⟩ := h
  cases rx
  cases ry
  rcases hs with ⟨h1, h2⟩ | ⟨h1, h2⟩
  · obtain ⟨its, r1, p1, _⟩ := I.list h1
    obtain ⟨its2, r2, p2, _⟩ := I.list h2
    cases r2
    cases r1 with
    | nil => exact SeqAt.eq_listAt (e := fun _ => true) p1.isList p2.isList rfl (by omega) (fun j h _ => by simp at h) ⟨.bl true, H, I, rfl, q⟩
    | cons _ _ => exact SeqAt.eq_list_lengthsAt p1.isList p2.isList (by simp) (by omega) ⟨.bl false, H, I, rfl, q⟩
  · obtain ⟨its, r1, p1, _⟩ := I.tuple h1
    obtain ⟨its2, r2, p2, _⟩ := I.tuple h2
    cases r2
    refine SeqAt.eq_tupleAt (e := fun _ => true) p1 p2 (by omega) (fun j _ h => by simp at h) ?_
    cases r1 with
    | nil => exact ⟨.bl true, H, I, rfl, q⟩
    | cons _ _ => exact ⟨.bl false, H, I, by simp [L2.RelV], q⟩
theorem op_ne0 (hu : X.A.units + 64 < cLine) : OpR X (compareOp .NotEq) (r0 X.K not) := by
  intro pins s σ H x y v u Q I rx ry h
  obtain ⟨a, b, xs, rfl, rfl, hs, q⟩ := h
  cases rx
  cases ry
  rcases hs with ⟨h1, h2⟩ | ⟨h1, h2⟩
  · obtain ⟨its, r1, p1, _⟩ := I.list h1
    obtain ⟨its2, r2, p2, _⟩ := I.list h2
    cases r2
    cases r1 with
    | nil => exact SeqAt.RcNeAt.lists (e := fun _ => true) p1.isList p2.isList rfl (by omega) (fun j h _ => by simp at h) _ _ _ _ ⟨.bl false, H, I, rfl, q⟩
    | cons _ _ => exact SeqAt.RcNeAt.lists_lengths p1.isList p2.isList (by simp) (by omega) _ _ _ _ ⟨.bl true, H, I, rfl, q⟩
  · obtain ⟨its, r1, p1, _⟩ := I.tuple h1
    obtain ⟨its2, r2, p2, _⟩ := I.tuple h2
    cases r2
    refine SeqAt.RcNeAt.tuples (e := fun _ => true) p1 p2 (by omega) (fun j _ h => by simp at h) _ _ _ _ ?_
    cases r1 with
    | nil => exact ⟨.bl false, H, I, rfl, q⟩
    | cons _ _ => exact ⟨.bl true, H, I, by simp [L2.RelV], q⟩
theorem ops0 {f : Bool → Bool} {op : Value → Value → Sem Value} {sem : D → D → Option D} (ho : OpR X op (r0 X.K f)) (hs : ∀ d e c, sem d e = some c → (∃ xs, d = .list xs ∧ e = .list [] ∧ c = .bool (f xs.isEmpty)) ∨ ∃ xs, d = .tuple xs ∧ e = .tuple [] ∧ c = .bool (f xs.isEmpty)) : OpS X B op sem :=
  ⟨_, ho, fun ss O F H σ ρ g x y d e c R I rx ry hc q => by
    rcases hs d e c hc with ⟨xs, rfl, rfl, rfl⟩ | ⟨xs, rfl, rfl, rfl⟩
    · obtain ⟨l1, ys, rfl, h1, r1⟩ := rx.list
      obtain ⟨l2, zs, rfl, h2, r2⟩ := ry.list
      cases r2
      exact ⟨l1, l2, ys, rfl, rfl, .inl ⟨.of h1, .of h2⟩, by rw [r1.isEmpty]; exact I.fin q rfl (.bl _)⟩
    · obtain ⟨l1, ys, rfl, h1, r1⟩ := rx.tup
      obtain ⟨l2, zs, rfl, h2, r2⟩ := ry.tup
      cases r2
      exact ⟨l1, l2, ys, rfl, rfl, .inr ⟨h1.sq, h2.sq⟩, by rw [r1.isEmpty]; exact I.fin q rfl (.bl _)⟩⟩
def sEqA (d e : D) : Option D := match d, e with
  | .list xs, .list [] => some (.bool xs.isEmpty)
  | .tuple xs, .tuple [] => some (.bool xs.isEmpty)
  | d, e => sEq d e
def sNeA (d e : D) : Option D := match d, e with
  | .list xs, .list [] => some (.bool (!xs.isEmpty))
  | .tuple xs, .tuple [] => some (.bool (!xs.isEmpty))
  | d, e => sNe d e
theorem o_eqA (hu : X.A.units + 64 < cLine) : OpS X B (compareOp .Eq) sEqA := OpS.join (ops0 (sem := sEq0) (op_eq0 hu) fun d e c h => by
  unfold sEq0 at h
  split at h
  · cases h; exact .inl ⟨_, rfl, rfl, rfl⟩
  · cases h; exact .inr ⟨_, rfl, rfl, rfl⟩
  · cases h) (o_eq hu) fun d e c h => by
  unfold sEqA at h
  split at h
  · exact .inl h
  · exact .inl h
  · exact .inr h
theorem o_neA (hu : X.A.units + 64 < cLine) : OpS X B (compareOp .NotEq) sNeA := OpS.join (ops0 (sem := sNe0) (op_ne0 hu) fun d e c h => by
  unfold sNe0 at h
  split at h
  · cases h; exact .inl ⟨_, rfl, rfl, rfl⟩
  · cases h; exact .inr ⟨_, rfl, rfl, rfl⟩
  · cases h) (o_ne hu) fun d e c h => by
  unfold sNeA at h
  split at h
  · exact .inl h
  · exact .inl h
  · exact .inr h
end
end Q

set_option Elab.async false
set_option linter.all false
set_option maxRecDepth 100000
/-! QAE: the pure layer is run: the words of QX .. QAD; comprehensions and loops over rows that are told. -/
namespace Q
open PySem PySem.Spec L2
section
variable {f h k : SE} {fs it : SL} {u tt : ST} {s : SS} {ρ : Ev} {g : G} {xs ys : List D} {d e z : D} {n : Nat} {i j : Int} {tg : SG}
@[simp] theorem u_lstS : eLstS fs ρ g = match fs ρ g with
  | some (ds, g') => if ds.length ≤ sizeLine then some (.list ds, g') else none
  | none => none := by
  unfold eLstS mbnd
  cases fs ρ g with
  | none => rfl
  | some p =>
    obtain ⟨ds, g'⟩ := p
    simp only [mguard, mret]
    by_cases q : ds.length ≤ sizeLine
    · simp only [q, decide_true, if_true]
    · simp only [q, decide_false, if_false]
@[simp] theorem u_revA : eRevA f ρ g = (mbnd (f ρ) fun d => match d with
  | .list ds => mret (.list ds.reverse)
  | .tuple ds => mret (.tuple ds.reverse)
  | _ => fun _ => none) g := Eq.trans rfl rfl
@[simp] theorem u_maxD : eMaxD f h ρ g = (mbnd (f ρ) fun d => mbnd (h ρ) fun z => mlift (sMaxD d z)) g := Eq.trans rfl rfl
@[simp] theorem u_get1 : eGet1 f h ρ g = (mbnd (f ρ) fun d => mbnd (h ρ) fun y => mlift ((dLook d y).map fun o => o.getD .none)) g := Eq.trans rfl rfl
@[simp] theorem u_get2 : eGet2 f h k ρ g = (mbnd (f ρ) fun d => mbnd (h ρ) fun y => mbnd (k ρ) fun z => mlift ((dLook d y).map fun o => o.getD z)) g := Eq.trans rfl rfl
@[simp] theorem u_putD : sPutD n f h ρ g = match f ρ g with
  | some (v, g1) => (match h ρ g1 with
    | some (y, g2) => (match ρ.getD n none with
      | some d => (match dStore d y v with
        | some d' => some (.nx (ρ.set n (some d')), g2)
        | none => none)
      | none => none)
    | none => none)
  | none => none := by
  unfold sPutD mbnd
  cases f ρ g with
  | none => rfl
  | some p =>
    obtain ⟨v, g1⟩ := p
    simp only
    cases h ρ g1 with
    | none => rfl
    | some p =>
      obtain ⟨y, g2⟩ := p
      simp only
      cases ρ.getD n none with
      | none => rfl
      | some d => simp only [mlift]; cases dStore d y v <;> rfl
@[simp] theorem u_eqA0L : sEqA (.list xs) (.list []) = some (.bool xs.isEmpty) := Eq.trans rfl rfl
@[simp] theorem u_eqA0T : sEqA (.tuple xs) (.tuple []) = some (.bool xs.isEmpty) := Eq.trans rfl rfl
@[simp] theorem u_neA0L : sNeA (.list xs) (.list []) = some (.bool (!xs.isEmpty)) := Eq.trans rfl rfl
@[simp] theorem u_neA0T : sNeA (.tuple xs) (.tuple []) = some (.bool (!xs.isEmpty)) := Eq.trans rfl rfl
@[simp] theorem u_eqAI : sEqA (.int i) (.int j) = some (.bool (decide (i = j))) := by
  show sEq (.int i) (.int j) = _
  simp
@[simp] theorem u_neAI : sNeA (.int i) (.int j) = some (.bool (!decide (i = j))) := by
  show sNe (.int i) (.int j) = _
  simp
@[simp] theorem u_eqAS {a b : Str} : sEqA (.str a) (.str b) = some (.bool (decide (a = b))) := Eq.trans rfl rfl
@[simp] theorem u_neAS {a b : Str} : sNeA (.str a) (.str b) = some (.bool (!decide (a = b))) := Eq.trans rfl rfl
theorem eqA_sh (h1 : SeqAt.shaped d = true) (h2 : SeqAt.shaped e = true) : sEqA d e = some (.bool (PyData.eqv d e)) := by
  unfold sEqA
  split
  · rename_i xs; cases xs <;> simp [PyData.eqv, PyData.eqvAll]
  · rename_i xs; cases xs <;> simp [PyData.eqv, PyData.eqvAll]
  · unfold sEq
    split
    · simp only [PyData.eqv]
      congr 2
    · unfold sEqD; rw [h1, h2]; rfl
theorem neA_sh (h1 : SeqAt.shaped d = true) (h2 : SeqAt.shaped e = true) : sNeA d e = some (.bool (!PyData.eqv d e)) := by
  unfold sNeA
  split
  · rename_i xs; cases xs <;> simp [PyData.eqv, PyData.eqvAll]
  · rename_i xs; cases xs <;> simp [PyData.eqv, PyData.eqvAll]
  · unfold sNe
    split
    · simp only [PyData.eqv]
      congr 2
    · unfold sNeD; rw [h1, h2]; rfl
@[simp] theorem u_reprE1 : sReprE1 [d] = sReprE d := Eq.trans rfl rfl
@[simp] theorem u_sorted1 : sSorted [d] = match itemsD d with
  | some ds => if okSort ds then some (.list (sortD ds)) else none
  | none => none := Eq.trans rfl rfl
@[simp] theorem u_itL : itemsD (.list xs) = some xs := Eq.trans rfl rfl
@[simp] theorem u_itT : itemsD (.tuple xs) = some xs := Eq.trans rfl rfl
end
/-! ### comprehensions -/
section
variable {α : Type} {tg : SG} {tt : ST} {te : SE} {ρ : Ev} {g : G}
def lcK (tg : SG) (tt : ST) (te : SE) (ρ : Ev) (d : D) (g : G) : Option (List D × G) := match tg d ρ with
  | some ρ1 => (match tt ρ1 g with
    | some (true, g1) => (match te ρ1 g1 with
      | some (z, g2) => some ([z], g2)
      | none => none)
    | some (false, g1) => some ([], g1)
    | none => none)
  | none => none
theorem lcGo_cons {d : D} {ds : List D} : lcGo tg tt te ρ (d :: ds) g = match lcK tg tt te ρ d g with
  | some (zs, g1) => (match lcGo tg tt te ρ ds g1 with
    | some (ws, g2) => some (zs ++ ws, g2)
    | none => none)
  | none => none := by
  show (mbnd (mlift (tg d ρ)) fun ρ1 => mbnd (tt ρ1) fun k => match k with
    | true => mbnd (te ρ1) fun z => mbnd (lcGo tg tt te ρ ds) fun zs => mret (z :: zs)
    | false => lcGo tg tt te ρ ds) g = _
  unfold lcK
  simp only [mbnd, mlift]
  cases tg d ρ with
  | none => rfl
  | some ρ1 =>
    simp only
    cases tt ρ1 g with
    | none => rfl
    | some p =>
      obtain ⟨b, g3⟩ := p
      cases b with
      | true =>
        simp only [mbnd]
        cases te ρ1 g3 with
        | none => rfl
        | some p =>
          obtain ⟨z, g4⟩ := p
          simp only [mret]
          cases lcGo tg tt te ρ ds g4 <;> rfl
      | false =>
        simp only
        cases lcGo tg tt te ρ ds g3 <;> rfl
theorem lcGo_k {d : D} {ds : List D} {zs : List D} {g1 : G} (h : lcK tg tt te ρ d g = some (zs, g1)) : lcGo tg tt te ρ (d :: ds) g = match lcGo tg tt te ρ ds g1 with
  | some (ws, g2) => some (zs ++ ws, g2)
  | none => none := by
  rw [lcGo_cons, h]
/-- every item is told -/
theorem lcp (xs : List α) (f : α → D) (φ : α → D) (h : ∀ x ∈ xs, lcK tg tt te ρ (f x) g = some ([φ x], g)) : lcGo tg tt te ρ (xs.map f) g = some (xs.map φ, g) := by
  induction xs with
  | nil => rfl
  | cons x r ih =>
    rw [List.map_cons, lcGo_k (h x (by simp)), ih fun y hy => h y (List.mem_cons_of_mem _ hy)]; rfl
theorem lcf (xs : List α) (f : α → D) (φ : α → D) (p : α → Bool) (h : ∀ x ∈ xs, lcK tg tt te ρ (f x) g = some (if p x then [φ x] else [], g)) : lcGo tg tt te ρ (xs.map f) g = some ((xs.filter p).map φ, g) := by
  induction xs with
  | nil => rfl
  | cons x r ih =>
    rw [List.map_cons, lcGo_k (h x (by simp)), ih fun y hy => h y (List.mem_cons_of_mem _ hy), List.filter_cons]
    cases p x <;> rfl
/-- over any row -/
theorem lcd (ds : List D) (φ : D → D) (p : D → Bool) (h : ∀ d ∈ ds, lcK tg tt te ρ d g = some (if p d then [φ d] else [], g)) : lcGo tg tt te ρ ds g = some ((ds.filter p).map φ, g) := by
  have := lcf (tg := tg) (tt := tt) (te := te) (ρ := ρ) (g := g) ds id φ p h
  simpa using this
/-- with draws: what holds of each -/
theorem lcr (P : D → Prop) (ds : List D) (h : ∀ d ∈ ds, ∀ g, ∃ z g2, lcK tg bYes te ρ d g = some ([z], g2) ∧ P z) : ∃ zs g', lcGo tg bYes te ρ ds g = some (zs, g') ∧ zs.length = ds.length ∧ ∀ z ∈ zs, P z := by
  induction ds generalizing g with
  | nil => exact ⟨[], g, rfl, rfl, by simp⟩
  | cons d r ih =>
    obtain ⟨z, g2, e1, h1⟩ := h d (by simp) g
    obtain ⟨zs, g3, e2, l, h2⟩ := ih (g := g2) fun d hd => h d (List.mem_cons_of_mem _ hd)
    refine ⟨z :: zs, g3, ?_, by simp [l], by simpa using ⟨h1, h2⟩⟩
    rw [lcGo_k e1, e2]; rfl
/-! ### loops -/
/-- a loop that changes nothing drawn: what it does, item by item; J: slots that don't count -/
theorem for_fold {σ J : Type} {b : SS} (xs : List α) (f : α → D) (R : σ → J → Ev) (step : σ → α → σ) (s0 : σ) (j0 : J) (Iv : σ → Prop) (h0 : Iv s0)
    (h : ∀ s j x, x ∈ xs → Iv s → ∃ ρ1 j', tg (f x) (R s j) = some ρ1 ∧ b ρ1 g = some (.nx (R (step s x) j'), g) ∧ Iv (step s x)) : ∃ j, forGo tg b (xs.map f) (R s0 j0) g = some (.nx (R (xs.foldl step s0) j), g) ∧ Iv (xs.foldl step s0) := by
  induction xs generalizing s0 j0 with
  | nil => exact ⟨j0, rfl, h0⟩
  | cons x r ih =>
    obtain ⟨ρ1, j', e1, e2, h1⟩ := h s0 j0 x (by simp) h0
    obtain ⟨j, e3, h2⟩ := ih (step s0 x) j' h1 fun s j y hy => h s j y (List.mem_cons_of_mem _ hy)
    refine ⟨j, ?_, h2⟩
    rw [List.map_cons, forGo]
    simp only [mbnd, mlift, e1, e2]
    exact e3
theorem range_map (n : Nat) : rangeD 0 n = (List.range n).map fun (i : Nat) => .int (i : Int) := by
  unfold rangeD
  exact List.map_congr_left fun i _ => by simp
theorem range_map2 (lo n : Nat) : rangeD (lo : Int) n = (List.range' lo n).map fun (i : Nat) => .int (i : Int) := by
  unfold rangeD
  rw [List.range'_eq_map_range, List.map_map]
  exact List.map_congr_left fun i _ => by simp
end
/-! ### rows of numbers -/
/-- a row of Nats -/
abbrev up (ns : List Nat) : List Int := ns.map fun (n : Nat) => (n : Int)
def nT (ns : List Nat) : D := iT (up ns)
theorem up_inj {a b : List Nat} (h : up a = up b) : a = b := by
  have := congrArg (List.map Int.toNat) h
  simpa [up, List.map_map, Function.comp_def] using this
theorem eqvAll_iT : ∀ xs ys : List Int, PyData.eqvAll (xs.map .int) (ys.map .int) = decide (xs = ys)
  | [], [] => by simp [PyData.eqvAll]
  | [], y :: ys => by simp [PyData.eqvAll]
  | x :: xs, [] => by simp [PyData.eqvAll]
  | x :: xs, y :: ys => by
    simp only [List.map_cons, PyData.eqvAll, PyData.eqv, eqvAll_iT xs ys]
    rw [Bool.eq_iff_iff]
    simp
theorem eqv_iT (xs ys : List Int) : PyData.eqv (iT xs) (iT ys) = decide (xs = ys) := by
  unfold iT
  rw [PyData.eqv, eqvAll_iT]
theorem eqv_iL (xs ys : List Int) : PyData.eqv (iL xs) (iL ys) = decide (xs = ys) := by
  unfold iL
  rw [PyData.eqv, eqvAll_iT]
theorem sh_iT (xs : List Int) : SeqAt.shaped (iT xs) = true := shT xs
theorem sh_iL (xs : List Int) : SeqAt.shaped (iL xs) = true := shL xs
@[simp] theorem u_eqIT {xs ys : List Int} : sEqA (iT xs) (iT ys) = some (.bool (decide (xs = ys))) := by rw [eqA_sh (sh_iT _) (sh_iT _), eqv_iT]
@[simp] theorem u_neIT {xs ys : List Int} : sNeA (iT xs) (iT ys) = some (.bool (!decide (xs = ys))) := by rw [neA_sh (sh_iT _) (sh_iT _), eqv_iT]
@[simp] theorem u_eqIL {xs ys : List Int} : sEqA (iL xs) (iL ys) = some (.bool (decide (xs = ys))) := by rw [eqA_sh (sh_iL _) (sh_iL _), eqv_iL]
@[simp] theorem u_neIL {xs ys : List Int} : sNeA (iL xs) (iL ys) = some (.bool (!decide (xs = ys))) := by rw [neA_sh (sh_iL _) (sh_iL _), eqv_iL]
/-! ### rows of rows of numbers -/
def rT (rs : List (List Int)) : D := .tuple (rs.map iT)
def rL (rs : List (List Int)) : D := .list (rs.map iT)
theorem layAll_rows (rs : List (List Int)) : PyData.canLayAll0 (rs.map iT) = true := by
  induction rs with
  | nil => rfl
  | cons r rs ih =>
    have := layAll_ints r
    simpa [PyData.canLayAll0, PyData.canLay0, iT, this] using ih
theorem depthAll_rows (rs : List (List Int)) : PyData.depthAll (rs.map iT) ≤ 1 := by
  induction rs with
  | nil => exact Nat.zero_le _
  | cons r rs ih =>
    have := depthAll_ints r
    rw [List.map_cons]
    show max (PyData.depth (iT r)) _ ≤ 1
    have e : PyData.depth (iT r) = 1 := by unfold iT; simp [PyData.depth, this]
    omega
theorem sh_rows_T (rs : List (List Int)) : SeqAt.shaped (rT rs) = true := by
  unfold SeqAt.shaped rT
  have h1 := layAll_rows rs
  have h2 := depthAll_rows rs
  have e1 : PyData.canLay0 (.tuple (rs.map iT)) = true := by simpa [PyData.canLay0] using h1
  have e2 : PyData.depth (.tuple (rs.map iT)) = PyData.depthAll (rs.map iT) + 1 := by simp [PyData.depth]
  rw [e1, e2, decide_eq_true (by omega)]; rfl
theorem sh_rows_L (rs : List (List Int)) : SeqAt.shaped (rL rs) = true := by
  unfold SeqAt.shaped rL
  have h1 := layAll_rows rs
  have h2 := depthAll_rows rs
  have e1 : PyData.canLay0 (.list (rs.map iT)) = true := by simpa [PyData.canLay0] using h1
  have e2 : PyData.depth (.list (rs.map iT)) = PyData.depthAll (rs.map iT) + 1 := by simp [PyData.depth]
  rw [e1, e2, decide_eq_true (by omega)]; rfl
theorem eqvAll_rows : ∀ xs ys : List (List Int), PyData.eqvAll (xs.map iT) (ys.map iT) = decide (xs = ys)
  | [], [] => by simp [PyData.eqvAll]
  | [], y :: ys => by simp [PyData.eqvAll]
  | x :: xs, [] => by simp [PyData.eqvAll]
  | x :: xs, y :: ys => by
    simp only [List.map_cons, PyData.eqvAll, eqv_iT, eqvAll_rows xs ys]
    rw [Bool.eq_iff_iff]
    simp
theorem eqv_rT (xs ys : List (List Int)) : PyData.eqv (rT xs) (rT ys) = decide (xs = ys) := by
  unfold rT
  rw [PyData.eqv, eqvAll_rows]
theorem eqv_rL (xs ys : List (List Int)) : PyData.eqv (rL xs) (rL ys) = decide (xs = ys) := by
  unfold rL
  rw [PyData.eqv, eqvAll_rows]
@[simp] theorem u_eqRT {xs ys : List (List Int)} : sEqA (rT xs) (rT ys) = some (.bool (decide (xs = ys))) := by rw [eqA_sh (sh_rows_T _) (sh_rows_T _), eqv_rT]
@[simp] theorem u_neRT {xs ys : List (List Int)} : sNeA (rT xs) (rT ys) = some (.bool (!decide (xs = ys))) := by rw [neA_sh (sh_rows_T _) (sh_rows_T _), eqv_rT]
@[simp] theorem u_eqRL {xs ys : List (List Int)} : sEqA (rL xs) (rL ys) = some (.bool (decide (xs = ys))) := by rw [eqA_sh (sh_rows_L _) (sh_rows_L _), eqv_rL]
@[simp] theorem u_neRL {xs ys : List (List Int)} : sNeA (rL xs) (rL ys) = some (.bool (!decide (xs = ys))) := by rw [neA_sh (sh_rows_L _) (sh_rows_L _), eqv_rL]
theorem any_rows (rs : List (List Int)) (x : List Int) : ((rs.map iT).any fun z => PyData.eqv z (iT x)) = decide (x ∈ rs) := by
  rw [Bool.eq_iff_iff, List.any_eq_true, decide_eq_true_iff]
  constructor
  · rintro ⟨z, hz, e⟩
    obtain ⟨i, hi, rfl⟩ := List.mem_map.mp hz
    rw [eqv_iT, decide_eq_true_iff] at e
    rw [← e]; exact hi
  · intro h
    exact ⟨iT x, List.mem_map.mpr ⟨x, h, rfl⟩, by rw [eqv_iT]; simp⟩
theorem in_rT (rs : List (List Int)) (x : List Int) : sIn (iT x) (rT rs) = some (.bool (decide (x ∈ rs))) := by
  have h := any_rows rs x
  have s1 := sh_iT x
  have s2 := sh_rows_T rs
  unfold rT at s2 ⊢
  simp only [sIn, sInT]
  rw [s1, s2, h]; rfl
theorem in_rL (rs : List (List Int)) (x : List Int) : sIn (iT x) (rL rs) = some (.bool (decide (x ∈ rs))) := by
  have h := any_rows rs x
  have s1 := sh_iT x
  have s2 := sh_rows_L rs
  unfold rL at s2 ⊢
  simp only [sIn, sInL]
  rw [s1, s2, h]; rfl
theorem ni_rT (rs : List (List Int)) (x : List Int) : sNi (iT x) (rT rs) = some (.bool (!decide (x ∈ rs))) := by
  have h := any_rows rs x
  have s1 := sh_iT x
  have s2 := sh_rows_T rs
  unfold rT at s2 ⊢
  simp only [sNi, sNiT]
  rw [s1, s2, h]; rfl
theorem ni_rL (rs : List (List Int)) (x : List Int) : sNi (iT x) (rL rs) = some (.bool (!decide (x ∈ rs))) := by
  have h := any_rows rs x
  have s1 := sh_iT x
  have s2 := sh_rows_L rs
  unfold rL at s2 ⊢
  simp only [sNi, sNiL]
  rw [s1, s2, h]; rfl
theorem bools_mapB {α : Type} (xs : List α) (p : α → Bool) : boolsD (xs.map fun x => .bool (p x)) = some (xs.map p) := by
  induction xs with
  | nil => rfl
  | cons x r ih => simp only [List.map_cons, boolsD, ih]; rfl
theorem all_mapB {α : Type} (xs : List α) (p : α → Bool) : sAll [.list (xs.map fun x => .bool (p x))] = some (.bool (xs.all p)) := by
  show (boolsD _).map _ = _
  rw [bools_mapB]
  show some (PyData.bool ((xs.map p).all id)) = _
  rw [List.all_map]; rfl
theorem any_mapB {α : Type} (xs : List α) (p : α → Bool) : sAny [.list (xs.map fun x => .bool (p x))] = some (.bool (xs.any p)) := by
  show (boolsD _).map _ = _
  rw [bools_mapB]
  show some (PyData.bool ((xs.map p).any id)) = _
  rw [List.any_map]; rfl
end Q

set_option Elab.async false
set_option linter.all false
set_option maxRecDepth 100000
/-! QAF: data of all kinds that a law asks about: how wide, how deep, how long its text. -/
namespace Q
open PySem PySem.Spec L2
mutual
def okD (b : Nat) : D → Bool
  | .int i => decide (i.natAbs ≤ b)
  | .list xs => okDs b xs
  | .tuple xs => okDs b xs
  | .dict kvs => kvs.isEmpty
  | _ => true
def okDs (b : Nat) : List D → Bool
  | [] => true
  | x :: r => okD b x && okDs b r
end
mutual
def wz : D → Nat
  | .none => 4
  | .bool _ => 5
  | .int _ => 1921
  | .str x => (reprText x).length
  | .list xs => wzs xs + 4
  | .tuple xs => wzs xs + 4
  | .dict _ => 2
def wzs : List D → Nat
  | [] => 0
  | x :: xs => wz x + 2 + wzs xs
end
theorem okDs_iff {b : Nat} : ∀ {xs : List D}, okDs b xs = true ↔ ∀ x ∈ xs, okD b x = true
  | [] => by simp [okDs]
  | x :: r => by simp [okDs, okDs_iff (xs := r)]
theorem depths_le {k : Nat} : ∀ {xs : List D}, PyData.depthAll xs ≤ k ↔ ∀ x ∈ xs, x.depth ≤ k
  | [] => by simp [PyData.depthAll]
  | x :: r => by
    have ih := depths_le (k := k) (xs := r)
    simp only [PyData.depthAll, List.mem_cons, forall_eq_or_imp]
    rw [Nat.max_le, ih]
theorem wzs_app (xs ys : List D) : wzs (xs ++ ys) = wzs xs + wzs ys := by
  induction xs with
  | nil => simp [wzs]
  | cons x r ih => simp only [List.cons_append, wzs, ih]; omega
theorem wzs_rev (xs : List D) : wzs xs.reverse = wzs xs := by
  induction xs with
  | nil => rfl
  | cons x r ih => rw [List.reverse_cons, wzs_app, ih]; simp only [wzs]; omega
theorem wzs_mem {xs : List D} {x : D} (h : x ∈ xs) : wz x + 2 ≤ wzs xs := by
  induction xs with
  | nil => cases h
  | cons y r ih =>
    simp only [wzs]
    rcases List.mem_cons.mp h with e | h
    · rw [e]; omega
    · have := ih h; omega
theorem wzs_take (xs : List D) (n : Nat) : wzs (xs.take n) ≤ wzs xs := by
  have := wzs_app (xs.take n) (xs.drop n)
  rw [List.take_append_drop] at this; omega
theorem wzs_drop (xs : List D) (n : Nat) : wzs (xs.drop n) ≤ wzs xs := by
  have := wzs_app (xs.take n) (xs.drop n)
  rw [List.take_append_drop] at this; omega
theorem wzs_len (xs : List D) : 2 * xs.length ≤ wzs xs := by
  induction xs with
  | nil => simp [wzs]
  | cons x r ih => simp only [wzs, List.length_cons]; omega
mutual
theorem okD_lay {b : Nat} : ∀ {d : D}, okD b d = true → layE d = true
  | .none, _ => rfl
  | .bool _, _ => rfl
  | .int _, _ => rfl
  | .str _, _ => rfl
  | .list xs, h => by simpa [layE] using okDs_lay (xs := xs) (by simpa [okD] using h)
  | .tuple xs, h => by simpa [layE] using okDs_lay (xs := xs) (by simpa [okD] using h)
  | .dict kvs, h => by simpa [layE, okD] using h
theorem okDs_lay {b : Nat} : ∀ {xs : List D}, okDs b xs = true → layEs xs = true
  | [], _ => rfl
  | x :: r, h => by
    have h' : okD b x = true ∧ okDs b r = true := by simpa [okDs] using h
    simp [layEs, okD_lay h'.1, okDs_lay h'.2]
end
mutual
theorem okD_show {b : Nat} (hb : b < 2 ^ 1919) : ∀ {d : D}, okD b d = true → d.showable = true
  | .none, _ => rfl
  | .bool _, _ => rfl
  | .int i, h => by
    have h' : i.natAbs ≤ b := by simpa [okD] using h
    have := sm_of (i := i) (k := 1919) (by decide) (by omega)
    simpa [PyData.showable, Sm] using this
  | .str _, _ => rfl
  | .list xs, h => by simpa [PyData.showable] using okDs_show hb (xs := xs) (by simpa [okD] using h)
  | .tuple xs, h => by simpa [PyData.showable] using okDs_show hb (xs := xs) (by simpa [okD] using h)
  | .dict kvs, h => by
    have e : kvs = [] := by simpa [okD] using h
    subst e; rfl
theorem okDs_show {b : Nat} (hb : b < 2 ^ 1919) : ∀ {xs : List D}, okDs b xs = true → PyData.showableAll xs = true
  | [], _ => rfl
  | x :: r, h => by
    have h' : okD b x = true ∧ okDs b r = true := by simpa [okDs] using h
    simp [PyData.showableAll, okD_show hb h'.1, okDs_show hb h'.2]
end
mutual
theorem shownE_le : ∀ d : D, layE d = true → d.showable = true → d.shown.length ≤ wz d
  | .none, _, _ => by show (4 : Nat) ≤ 4; omega
  | .bool b, _, _ => by
    cases b
    · show (5 : Nat) ≤ 5; omega
    · show (4 : Nat) ≤ 5; omega
  | .int i, _, h => by
    have h' : i.natAbs.log2 < 1920 := by simpa [PyData.showable] using h
    show (PySem.Str.ofString (toString i)).length ≤ 1921
    rw [PySem.ofString_length]; exact PySem.int_text_length_le (k := 1920) (by decide) h'
  | .str x, _, _ => by simp [PyData.shown, wz]
  | .list xs, h1, h2 => by
    have q := shownEs_le xs (by simpa [layE] using h1) (by simpa [PyData.showable] using h2)
    have u := textFrom_up (PyData.shownAll xs) 0 "["
    simp only [PyData.shown, wz, listText]
    rw [strLen_append]
    have e1 : ("[" : Str).length = 1 := rfl
    have e2 : (("]" : String) : Str).length = 1 := rfl
    omega
  | .tuple xs, h1, h2 => by
    have q := shownEs_le xs (by simpa [layE] using h1) (by simpa [PyData.showable] using h2)
    simp only [PyData.shown, wz, tupleText]
    rw [strLen_append, strLen_append]
    have e1 : ("(" : Str).length = 1 := rfl
    have e3 : (((if (PyData.shownAll xs).length == 1 then ",)" else ")" : String) : Str)).length ≤ 2 := by split <;> decide
    have e4 : (Str.join ", " (PyData.shownAll xs)).length ≤ piled (PyData.shownAll xs) := by
      by_cases z : PyData.shownAll xs = []
      · rw [z]; exact Nat.le_refl _
      · have := join_length_add _ z; omega
    omega
  | .dict kvs, h, _ => by
    have e : kvs = [] := by simpa [layE] using h
    subst e
    have e2 : (PyData.dict []).shown = dictText [] := by simp [PyData.shown, PyData.shownKv]
    rw [e2]
    show (2 : Nat) ≤ 2
    omega
theorem shownEs_le : ∀ xs : List D, layEs xs = true → PyData.showableAll xs = true → piled (PyData.shownAll xs) ≤ wzs xs
  | [], _, _ => Nat.le_refl _
  | x :: xs, h1, h2 => by
    simp only [layEs, PyData.showableAll, Bool.and_eq_true] at h1 h2
    have q1 := shownE_le x h1.1 h2.1
    have q2 := shownEs_le xs h1.2 h2.2
    have p : piled (PyData.shownAll (x :: xs)) = x.shown.length + 2 + piled (PyData.shownAll xs) := by simp [piled, PyData.shownAll]
    rw [p]
    show _ ≤ wz x + 2 + wzs xs
    omega
end
mutual
theorem okD_mono {b b' : Nat} (hb : b ≤ b') : ∀ {d : D}, okD b d = true → okD b' d = true
  | .none, _ => rfl
  | .bool _, _ => rfl
  | .int i, h => by
    have h' : i.natAbs ≤ b := by simpa [okD] using h
    have : i.natAbs ≤ b' := by omega
    simpa [okD] using this
  | .str _, _ => rfl
  | .list xs, h => by simpa [okD] using okDs_mono hb (xs := xs) (by simpa [okD] using h)
  | .tuple xs, h => by simpa [okD] using okDs_mono hb (xs := xs) (by simpa [okD] using h)
  | .dict kvs, h => by simpa [okD] using h
theorem okDs_mono {b b' : Nat} (hb : b ≤ b') : ∀ {xs : List D}, okDs b xs = true → okDs b' xs = true
  | [], _ => rfl
  | x :: r, h => by
    have h' : okD b x = true ∧ okDs b r = true := by simpa [okDs] using h
    simp [okDs, okD_mono hb h'.1, okDs_mono hb h'.2]
end
/-- data whose numbers are at most b, at most k deep, whose text is at most n long -/
structure Gd (b k n : Nat) (d : D) : Prop where
  ok : okD b d = true
  dp : d.depth ≤ k
  wt : wz d ≤ n
theorem Gd.mono {b k n b' k' n' : Nat} {d : D} (h : Gd b k n d) (hb : b ≤ b') (hk : k ≤ k') (hn : n ≤ n') : Gd b' k' n' d :=
  ⟨okD_mono hb h.ok, Nat.le_trans h.dp hk, Nat.le_trans h.wt hn⟩
theorem Gd.repr {b k n : Nat} {d : D} (h : Gd b k n d) (hb : b < 2 ^ 1919 := by decide) (hk : k ≤ 100 := by decide) (hn : n ≤ 16777216 := by decide) : sReprE d = some (.str d.shown) := by
  have l := okD_lay h.ok
  have s := okD_show hb h.ok
  have w := shownE_le d l s
  have := h.wt
  have := h.dp
  unfold sReprE
  rw [l, s, decide_eq_true (show d.shown.length ≤ sizeLine by rw [sizeLine_eq]; omega), decide_eq_true (show d.depth ≤ 100 by omega)]
  rfl
structure Gds (b k n : Nat) (xs : List D) : Prop where
  ok : okDs b xs = true
  dp : PyData.depthAll xs ≤ k
  wt : wzs xs ≤ n
section
variable {b k n k2 n2 : Nat} {d : D} {xs ys : List D} {i : Int}
theorem Gd.ofT (h : Gd b k n (.tuple xs)) : Gds b (k - 1) (n - 4) xs ∧ 4 ≤ n ∧ 1 ≤ k := by
  have h1 := h.ok
  have h2 := h.dp
  have h3 := h.wt
  simp only [okD, PyData.depth, wz] at h1 h2 h3
  exact ⟨⟨h1, by omega, by omega⟩, by omega, by omega⟩
theorem Gd.ofL (h : Gd b k n (.list xs)) : Gds b (k - 1) (n - 4) xs ∧ 4 ≤ n ∧ 1 ≤ k := by
  have h1 := h.ok
  have h2 := h.dp
  have h3 := h.wt
  simp only [okD, PyData.depth, wz] at h1 h2 h3
  exact ⟨⟨h1, by omega, by omega⟩, by omega, by omega⟩
theorem Gds.T (h : Gds b k n xs) : Gd b (k + 1) (n + 4) (.tuple xs) := by
  have h2 := h.dp
  have h3 := h.wt
  exact ⟨by simpa [okD] using h.ok, by simp only [PyData.depth]; omega, by simp only [wz]; omega⟩
theorem Gds.L (h : Gds b k n xs) : Gd b (k + 1) (n + 4) (.list xs) := by
  have h2 := h.dp
  have h3 := h.wt
  exact ⟨by simpa [okD] using h.ok, by simp only [PyData.depth]; omega, by simp only [wz]; omega⟩
theorem Gds.nil : Gds b k 0 [] := ⟨rfl, Nat.zero_le _, Nat.le_refl _⟩
theorem Gds.cons (h : Gd b k n d) (hr : Gds b k n2 xs) : Gds b k (n + 2 + n2) (d :: xs) := by
  have h3 := h.wt
  have h4 := hr.wt
  exact ⟨by simp [okDs, h.ok, hr.ok], by simp only [PyData.depthAll]; have := h.dp; have := hr.dp; omega, by simp only [wzs]; omega⟩
theorem Gds.app (h : Gds b k n xs) (hr : Gds b k n2 ys) : Gds b k (n + n2) (xs ++ ys) := by
  have h3 := h.wt
  have h4 := hr.wt
  refine ⟨okDs_iff.mpr fun x hx => ?_, depths_le.mpr fun x hx => ?_, by rw [wzs_app]; omega⟩
  · exact (List.mem_append.mp hx).elim (okDs_iff.mp h.ok x) (okDs_iff.mp hr.ok x)
  · exact (List.mem_append.mp hx).elim (depths_le.mp h.dp x) (depths_le.mp hr.dp x)
theorem Gds.sub (h : Gds b k n xs) (hs : ∀ x ∈ ys, x ∈ xs) (hw : wzs ys ≤ wzs xs) : Gds b k n ys :=
  ⟨okDs_iff.mpr fun x hx => okDs_iff.mp h.ok x (hs x hx), depths_le.mpr fun x hx => depths_le.mp h.dp x (hs x hx), Nat.le_trans hw h.wt⟩
theorem Gds.take (h : Gds b k n xs) (m : Nat) : Gds b k n (xs.take m) := h.sub (fun _ => List.mem_of_mem_take) (wzs_take _ _)
theorem Gds.drop (h : Gds b k n xs) (m : Nat) : Gds b k n (xs.drop m) := h.sub (fun _ => List.mem_of_mem_drop) (wzs_drop _ _)
theorem Gds.cut (h : Gds b k n xs) {lo hi : Option Int} : Gds b k n (cutD xs lo hi) := by
  unfold cutD
  exact (h.drop _).take _
theorem Gds.rev (h : Gds b k n xs) : Gds b k n xs.reverse := h.sub (fun _ => List.mem_reverse.mp) (by rw [wzs_rev]; omega)
theorem Gds.mem (h : Gds b k n xs) (hd : d ∈ xs) : Gd b k n d := ⟨okDs_iff.mp h.ok d hd, depths_le.mp h.dp d hd, by have := wzs_mem hd; have := h.wt; omega⟩
theorem Gds.all (h : ∀ x ∈ xs, Gd b k n x) : Gds b k ((n + 2) * xs.length) xs := by
  refine ⟨okDs_iff.mpr fun x hx => (h x hx).ok, depths_le.mpr fun x hx => (h x hx).dp, ?_⟩
  induction xs with
  | nil => simp [wzs]
  | cons x r ih =>
    have := ih fun y hy => h y (List.mem_cons_of_mem _ hy)
    have := (h x (by simp)).wt
    simp only [wzs, List.length_cons, Nat.mul_add, Nat.mul_one]
    omega
theorem Gds.len (h : Gds b k n xs) (hn : n ≤ 16777216) : xs.length ≤ sizeLine := by
  have := wzs_len xs
  have := h.wt
  rw [sizeLine_eq]; omega
theorem Gd.int (h : i.natAbs ≤ b) : Gd b 0 1921 (.int i) := ⟨by simpa [okD] using h, Nat.le_refl _, Nat.le_refl _⟩
theorem Gds.ints {xs : List Int} (h : ∀ x ∈ xs, x.natAbs ≤ b) : Gds b 0 (1923 * xs.length) (xs.map .int) := by
  have := Gds.all (b := b) (k := 0) (n := 1921) (xs := xs.map PyData.int) fun d hd => by
    obtain ⟨i, hi, rfl⟩ := List.mem_map.mp hd
    exact Gd.int (h i hi)
  rwa [List.length_map] at this
theorem Gd.iT {xs : List Int} (h : ∀ x ∈ xs, x.natAbs ≤ b) : Gd b 1 (1923 * xs.length + 4) (iT xs) := (Gds.ints h).T
end
theorem lcm {tg : SG} {te : SE} {ρ : Ev} {g : G} (ds : List D) (φ : D → D) (h : ∀ d ∈ ds, lcK tg bYes te ρ d g = some ([φ d], g)) : lcGo tg bYes te ρ ds g = some (ds.map φ, g) := by
  have := lcp (tg := tg) (tt := bYes) (te := te) (ρ := ρ) (g := g) ds id φ h
  simpa using this
end Q

set_option Elab.async false
set_option linter.all false
set_option maxRecDepth 100000
namespace Q
open PySem PySem.Spec
def metF (m : List Int) (ls : List Int) : List Int := ls.foldl (fun m l => if l ∈ m then m else m ++ [l]) m
theorem metOf_eq (ls : List Int) : metOf ls = metF [] ls := rfl
theorem metF_cons (m : List Int) (l : Int) (ls : List Int) : metF m (l :: ls) = metF (if l ∈ m then m else m ++ [l]) ls := rfl
/-- no label in common -/
def Dis (a b : List Int) : Prop := ∀ l, l ∈ a → l ∉ b
theorem metF_dis (ls : List Int) : ∀ (m n : List Int), Dis m ls → metF (m ++ n) ls = m ++ metF n ls := by
  induction ls with
  | nil => intro m n _; rfl
  | cons l r ih =>
    intro m n h
    rw [metF_cons, metF_cons]
    have hl : l ∉ m := fun z => h l z (by simp)
    have h' : Dis m r := fun x hx z => h x hx (List.mem_cons_of_mem _ z)
    by_cases q : l ∈ n
    · rw [if_pos (by simp [q]), if_pos q, ih m n h']
    · rw [if_neg (by simp [hl, q]), if_neg q, List.append_assoc, ih m (n ++ [l]) h']
theorem mem_metF {ls : List Int} {x : Int} : ∀ {m : List Int}, x ∈ metF m ls ↔ x ∈ m ∨ x ∈ ls := by
  induction ls with
  | nil => intro m; simp [metF]
  | cons l r ih =>
    intro m
    rw [metF_cons, ih]
    by_cases q : l ∈ m
    · rw [if_pos q]
      constructor
      · rintro (h | h)
        · exact .inl h
        · exact .inr (List.mem_cons_of_mem _ h)
      · rintro (h | h)
        · exact .inl h
        · rcases List.mem_cons.mp h with h | h
          · rw [h]; exact .inl q
          · exact .inr h
    · rw [if_neg q]
      simp [or_assoc]
theorem mem_met {ls : List Int} {x : Int} : x ∈ metOf ls ↔ x ∈ ls := by rw [metOf_eq, mem_metF]; simp
theorem metOf_app (a b : List Int) (h : Dis a b) : metOf (a ++ b) = metOf a ++ metOf b := by
  have e : metOf (a ++ b) = metF (metOf a) b := by unfold metOf metF; rw [List.foldl_append]
  have h' : Dis (metOf a) b := fun x hx => h x (mem_met.mp hx)
  have := metF_dis b (metOf a) [] h'
  rw [List.append_nil] at this
  rw [e, this]; rfl
theorem metF_map (f : Int → Int) (ls : List Int) : ∀ (m : List Int), (∀ x, x ∈ m ∨ x ∈ ls → ∀ y, y ∈ m ∨ y ∈ ls → f x = f y → x = y) → metF (m.map f) (ls.map f) = (metF m ls).map f := by
  induction ls with
  | nil => intro m _; rfl
  | cons l r ih =>
    intro m h
    rw [List.map_cons, metF_cons, metF_cons]
    have q : (f l ∈ m.map f) = (l ∈ m) := by
      apply propext
      constructor
      · intro z
        obtain ⟨y, hy, e⟩ := List.mem_map.mp z
        have := h y (.inl hy) l (.inr (by simp)) e
        rw [← this]; exact hy
      · exact fun z => List.mem_map.mpr ⟨l, z, rfl⟩
    by_cases c : l ∈ m
    · rw [if_pos (q ▸ c), if_pos c]
      exact ih m fun x hx y hy => h x (hx.imp id (List.mem_cons_of_mem _)) y (hy.imp id (List.mem_cons_of_mem _))
    · rw [if_neg (q ▸ c), if_neg c]
      have e : m.map f ++ [f l] = (m ++ [l]).map f := by simp
      rw [e]
      refine ih (m ++ [l]) fun x hx y hy => ?_
      have up : ∀ z, z ∈ m ++ [l] ∨ z ∈ r → z ∈ m ∨ z ∈ l :: r := fun z hz => by
        rcases hz with hz | hz
        · rcases List.mem_append.mp hz with hz | hz
          · exact .inl hz
          · exact .inr (by simp at hz; simp [hz])
        · exact .inr (List.mem_cons_of_mem _ hz)
      exact h x (up x hx) y (up y hy)
def Inj (f : Int → Int) (ls : List Int) : Prop := ∀ x, x ∈ ls → ∀ y, y ∈ ls → f x = f y → x = y
theorem metOf_map (f : Int → Int) (ls : List Int) (h : Inj f ls) : metOf (ls.map f) = (metOf ls).map f := by
  have := metF_map f ls [] fun x hx y hy => h x (by simpa using hx) y (by simpa using hy)
  exact this
theorem placeOf_map (f : Int → Int) (l : Int) : ∀ (m : List Int), (∀ x, x ∈ m → f x = f l → x = l) → placeOf (m.map f) (f l) = placeOf m l
  | [], _ => rfl
  | x :: r, h => by
    show (if f x = f l then 0 else placeOf (r.map f) (f l) + 1) = if x = l then 0 else placeOf r l + 1
    by_cases e : x = l
    · rw [if_pos e, if_pos (by rw [e])]
    · rw [if_neg e, if_neg (fun z => e (h x (by simp) z)), placeOf_map f l r fun x hx => h x (List.mem_cons_of_mem _ hx)]
theorem partOf_map (f : Int → Int) (ls : List Int) (h : Inj f ls) : partOf (ls.map f) = partOf ls := by
  unfold partOf
  rw [metOf_map f ls h, List.map_map]
  refine List.map_congr_left fun l hl => ?_
  show ((placeOf ((metOf ls).map f) (f l) : Nat) : Int) = _
  rw [placeOf_map f l _ fun x hx e => h x (mem_met.mp hx) l hl e]
theorem placeOf_skip {l : Int} : ∀ {m n : List Int}, l ∉ m → placeOf (m ++ n) l = m.length + placeOf n l
  | [], n, _ => by simp
  | x :: r, n, h => by
    simp only [List.mem_cons, not_or] at h
    show (if x = l then 0 else placeOf (r ++ n) l + 1) = _
    rw [if_neg (fun e => h.1 e.symm), placeOf_skip h.2, List.length_cons]; omega
theorem partOf_app (a b : List Int) (h : Dis a b) : partOf (a ++ b) = partOf a ++ (partOf b).map fun l => l + ((metOf a).length : Int) := by
  unfold partOf
  rw [metOf_app a b h, List.map_append, List.map_map]
  congr 1
  · refine List.map_congr_left fun l hl => ?_
    rw [placeOf_app (mem_met.mpr hl)]
  · refine List.map_congr_left fun l hl => ?_
    have : l ∉ metOf a := fun z => h l (mem_met.mp z) hl
    show ((placeOf (metOf a ++ metOf b) l : Nat) : Int) = (placeOf (metOf b) l : Int) + _
    rw [placeOf_skip this]; omega
theorem placeOf_lt {l : Int} : ∀ {m : List Int}, l ∈ m → placeOf m l < m.length
  | x :: r, h => by
    show (if x = l then 0 else placeOf r l + 1) < r.length + 1
    by_cases e : x = l
    · rw [if_pos e]; omega
    · rw [if_neg e]
      have := placeOf_lt ((List.mem_cons.mp h).resolve_left fun z => e z.symm)
      omega
theorem placeOf_inj {l k : Int} : ∀ {m : List Int}, l ∈ m → k ∈ m → placeOf m l = placeOf m k → l = k
  | x :: r, h1, h2, e => by
    have e' : (if x = l then 0 else placeOf r l + 1) = (if x = k then 0 else placeOf r k + 1) := e
    by_cases a : x = l
    · by_cases b : x = k
      · rw [← a, b]
      · rw [if_pos a, if_neg b] at e'; omega
    · by_cases b : x = k
      · rw [if_neg a, if_pos b] at e'; omega
      · rw [if_neg a, if_neg b] at e'
        exact placeOf_inj ((List.mem_cons.mp h1).resolve_left fun z => a z.symm) ((List.mem_cons.mp h2).resolve_left fun z => b z.symm) (by omega)
theorem partOf_inj (ls : List Int) : Inj (fun l => ((placeOf (metOf ls) l : Nat) : Int)) ls := fun x hx y hy e => placeOf_inj (mem_met.mpr hx) (mem_met.mpr hy) (by
  have : ((placeOf (metOf ls) x : Nat) : Int) = ((placeOf (metOf ls) y : Nat) : Int) := e
  omega)
theorem partOf_twice (ls : List Int) : partOf (partOf ls) = partOf ls := partOf_map _ ls (partOf_inj ls)
theorem metOf_part_len (ls : List Int) : (metOf (partOf ls)).length = (metOf ls).length := by
  have := metOf_map _ ls (partOf_inj ls)
  unfold partOf
  rw [this, List.length_map]
/-- numbered by the first meeting -/
def RG (a : List Int) : Prop := partOf a = a
theorem RG_lt {a : List Int} (h : RG a) {l : Int} (hl : l ∈ a) : 0 ≤ l ∧ l < ((metOf a).length : Int) := by
  rw [← h] at hl
  obtain ⟨k, hk, rfl⟩ := List.mem_map.mp hl
  have := placeOf_lt (mem_met.mpr hk)
  omega
def J (a b : List Int) : List Int := a ++ b.map fun l => l + ((metOf a).length : Int)
theorem shift_inj (c : Int) (ls : List Int) : Inj (fun l => l + c) ls := fun x _ y _ e => by
  have e' : x + c = y + c := e
  omega
theorem J_dis {a b : List Int} (ha : RG a) (hb : RG b) : Dis a (b.map fun l => l + ((metOf a).length : Int)) := fun l h1 h2 => by
  obtain ⟨k, hk, rfl⟩ := List.mem_map.mp h2
  have := RG_lt ha h1
  have := RG_lt hb hk
  omega
theorem J_met {a b : List Int} (ha : RG a) (hb : RG b) : (metOf (J a b)).length = (metOf a).length + (metOf b).length := by
  unfold J
  rw [metOf_app _ _ (J_dis ha hb), List.length_append, metOf_map _ _ (shift_inj _ _), List.length_map]
theorem RG_J {a b : List Int} (ha : RG a) (hb : RG b) : RG (J a b) := by
  unfold RG
  conv => lhs; unfold J
  rw [partOf_app _ _ (J_dis ha hb), partOf_map _ _ (shift_inj _ _), ha, hb]; rfl
theorem J_assoc {a b c : List Int} (ha : RG a) (hb : RG b) : J (J a b) c = J a (J b c) := by
  have e := J_met ha hb
  unfold J at e ⊢
  rw [e]
  simp only [List.append_assoc, List.map_append, List.map_map]
  congr 2
  refine List.map_congr_left fun l _ => ?_
  show l + (((metOf a).length + (metOf b).length : Nat) : Int) = l + ((metOf b).length : Int) + ((metOf a).length : Int)
  omega
theorem J_nil (a : List Int) : J [] a = a := by
  show a.map (fun l => l + ((metOf []).length : Int)) = a
  have : (fun l : Int => l + ((metOf []).length : Int)) = fun l => l := by funext l; show l + 0 = l; omega
  rw [this, List.map_id']
theorem J_nilR (a : List Int) : J a [] = a := by simp [J]
theorem RG_nil : RG [] := rfl
/-- prefixes -/
theorem partOf_take (ls : List Int) (n : Nat) : partOf (ls.take n) = (partOf ls).take n := by
  unfold partOf
  rw [← List.map_take]
  refine List.map_congr_left fun l hl => ?_
  obtain ⟨r, hr⟩ := metOf_grows (ls.take n) (ls.drop n)
  rw [List.take_append_drop] at hr
  rw [hr, placeOf_app (mem_met.mpr hl)]
theorem RG_take {a : List Int} (h : RG a) (n : Nat) : RG (a.take n) := by
  unfold RG
  rw [partOf_take, h]
/-! ### cuts -/
def inn (xs : List Int) (p : Nat) : Bool := (xs.take p).any fun l => decide (l ∈ xs.drop p)
theorem inn_false {xs : List Int} {p : Nat} : inn xs p = false ↔ Dis (xs.take p) (xs.drop p) := by
  unfold inn Dis
  rw [List.any_eq_false]
  constructor
  · intro h l h1 h2
    have := h l h1
    simp [h2] at this
  · intro h l h1
    simp [h l h1]
def C (xs : List Int) : List Nat := (List.range (xs.length + 1)).filter fun p => !inn xs p
theorem mem_C {xs : List Int} {p : Nat} : p ∈ C xs ↔ p ≤ xs.length ∧ Dis (xs.take p) (xs.drop p) := by
  unfold C
  rw [List.mem_filter, List.mem_range, Bool.not_eq_true', inn_false]
  constructor <;> rintro ⟨h1, h2⟩ <;> exact ⟨by omega, h2⟩
theorem zero_C (xs : List Int) : 0 ∈ C xs := mem_C.mpr ⟨Nat.zero_le _, fun l h => by simp at h⟩
theorem len_C (xs : List Int) : xs.length ∈ C xs := mem_C.mpr ⟨Nat.le_refl _, fun l _ h => by rw [List.drop_length] at h; cases h⟩
theorem sorted_C (xs : List Int) : (C xs).Pairwise (· < ·) := List.Pairwise.filter _ List.pairwise_lt_range
/-- sorted lists with the same members are one -/
theorem sorted_ext : ∀ {a b : List Nat}, a.Pairwise (· < ·) → b.Pairwise (· < ·) → (∀ x, x ∈ a ↔ x ∈ b) → a = b
  | [], [], _, _, _ => rfl
  | [], y :: b, _, _, h => by have := (h y).mpr (by simp); cases this
  | x :: a, [], _, _, h => by have := (h x).mp (by simp); cases this
  | x :: a, y :: b, ha, hb, h => by
    rw [List.pairwise_cons] at ha hb
    have e : x = y := by
      have h1 : x = y ∨ y < x := (List.mem_cons.mp ((h x).mp (by simp))).imp id (hb.1 x)
      have h2 : y = x ∨ x < y := (List.mem_cons.mp ((h y).mpr (by simp))).imp id (ha.1 y)
      omega
    subst e
    congr 1
    refine sorted_ext ha.2 hb.2 fun z => ⟨fun hz => ?_, fun hz => ?_⟩
    · have := ha.1 z hz
      exact (List.mem_cons.mp ((h z).mp (List.mem_cons_of_mem _ hz))).resolve_left (by omega)
    · have := hb.1 z hz
      exact (List.mem_cons.mp ((h z).mpr (List.mem_cons_of_mem _ hz))).resolve_left (by omega)
theorem mem_C_left {a b : List Int} (h : Dis a b) {p : Nat} (hp : p ≤ a.length) : p ∈ C (a ++ b) ↔ p ∈ C a := by
  rw [mem_C, mem_C, List.take_append_of_le_length hp, List.drop_append_of_le_length hp, List.length_append]
  constructor
  · rintro ⟨_, h2⟩
    exact ⟨hp, fun l h3 h4 => h2 l h3 (List.mem_append.mpr (.inl h4))⟩
  · rintro ⟨_, h2⟩
    exact ⟨by omega, fun l h3 h4 => (List.mem_append.mp h4).elim (h2 l h3) (h l (List.mem_of_mem_take h3))⟩
theorem mem_C_right {a b : List Int} (h : Dis a b) (p : Nat) : a.length + p ∈ C (a ++ b) ↔ p ∈ C b := by
  rw [mem_C, mem_C, List.length_append]
  have e1 : (a ++ b).take (a.length + p) = a ++ b.take p := by rw [List.take_append]; simp; exact List.take_of_length_le (by omega)
  have e2 : (a ++ b).drop (a.length + p) = b.drop p := by rw [List.drop_append]; simp
  rw [e1, e2]
  constructor
  · rintro ⟨h1, h2⟩
    exact ⟨by omega, fun l h3 h4 => h2 l (List.mem_append.mpr (.inr h3)) h4⟩
  · rintro ⟨h1, h2⟩
    exact ⟨by omega, fun l h3 h4 => (List.mem_append.mp h3).elim (fun z => h l z (List.mem_of_mem_drop h4)) fun z => h2 l z h4⟩
theorem C_map (f : Int → Int) (ls : List Int) (h : Inj f ls) : C (ls.map f) = C ls := by
  refine sorted_ext (sorted_C _) (sorted_C _) fun p => ?_
  rw [mem_C, mem_C, List.length_map, ← List.map_take, ← List.map_drop]
  constructor
  · rintro ⟨h1, h2⟩
    exact ⟨h1, fun l h3 h4 => h2 (f l) (List.mem_map.mpr ⟨l, h3, rfl⟩) (List.mem_map.mpr ⟨l, h4, rfl⟩)⟩
  · rintro ⟨h1, h2⟩
    refine ⟨h1, fun l h3 h4 => ?_⟩
    obtain ⟨x, hx, rfl⟩ := List.mem_map.mp h3
    obtain ⟨y, hy, e⟩ := List.mem_map.mp h4
    have := h y (List.mem_of_mem_drop hy) x (List.mem_of_mem_take hx) e
    exact h2 x hx (this ▸ hy)
/-- the cuts of two rows side by side: those of the one, those of the other behind it -/
theorem C_app (a b : List Int) (h : Dis a b) : C (a ++ b) = C a ++ ((C b).filter fun p => decide (0 < p)).map fun p => a.length + p := by
  refine sorted_ext (sorted_C _) ?_ fun p => ?_
  · rw [List.pairwise_append]
    refine ⟨sorted_C a, ?_, fun x hx y hy => ?_⟩
    · rw [List.pairwise_map]
      exact ((sorted_C b).filter _).imp fun z => by omega
    · obtain ⟨q, hq, rfl⟩ := List.mem_map.mp hy
      have h1 := (mem_C.mp hx).1
      have h2 := (List.mem_filter.mp hq).2
      have h3 : 0 < q := of_decide_eq_true h2
      omega
  · rw [List.mem_append, List.mem_map]
    by_cases hp : p ≤ a.length
    · rw [mem_C_left h hp]
      constructor
      · exact fun z => .inl z
      · rintro (z | ⟨q, hq, e⟩)
        · exact z
        · have h3 : 0 < q := of_decide_eq_true (List.mem_filter.mp hq).2
          omega
    · obtain ⟨q, rfl⟩ : ∃ q, p = a.length + q := ⟨p - a.length, by omega⟩
      rw [mem_C_right h]
      constructor
      · exact fun z => .inr ⟨q, List.mem_filter.mpr ⟨z, decide_eq_true (by omega)⟩, rfl⟩
      · rintro (z | ⟨q', hq, e⟩)
        · have := (mem_C.mp z).1; omega
        · have : q' = q := by omega
          subst this
          exact (List.mem_filter.mp hq).1
/-! ### parts -/
def pairs (l : List Nat) : List (Nat × Nat) := l.zip l.tail
theorem pairs_cons (x y : Nat) (r : List Nat) : pairs (x :: y :: r) = (x, y) :: pairs (y :: r) := rfl
theorem pairs_app : ∀ (i : List Nat) (m : Nat) (l : List Nat), pairs (i ++ m :: l) = pairs (i ++ [m]) ++ pairs (m :: l)
  | [], m, l => rfl
  | [x], m, l => rfl
  | x :: y :: i, m, l => by
    have := pairs_app (y :: i) m l
    show (x, y) :: pairs (y :: i ++ m :: l) = (x, y) :: pairs (y :: i ++ [m]) ++ _
    rw [this]; rfl
theorem pairs_map (f : Nat → Nat) (l : List Nat) : pairs (l.map f) = (pairs l).map fun p => (f p.1, f p.2) := by
  unfold pairs
  rw [← List.map_tail, List.zip_map]; rfl
def slice (xs : List Int) (p : Nat × Nat) : List Int := (xs.drop p.1).take (p.2 - p.1)
def parts (xs : List Int) : List (List Int) := (pairs (C xs)).map fun p => partOf (slice xs p)
theorem C_zero (b : List Int) : C b = 0 :: (C b).filter fun p => decide (0 < p) := by
  refine sorted_ext (sorted_C b) ?_ fun p => ?_
  · rw [List.pairwise_cons]
    exact ⟨fun x hx => of_decide_eq_true (List.mem_filter.mp hx).2, (sorted_C b).filter _⟩
  · rw [List.mem_cons, List.mem_filter]
    constructor
    · intro h
      by_cases e : p = 0
      · exact .inl e
      · exact .inr ⟨h, decide_eq_true (by omega)⟩
    · rintro (h | h)
      · rw [h]; exact zero_C b
      · exact h.1
theorem C_last (a : List Int) : ∃ i, C a = i ++ [a.length] := by
  refine ⟨(C a).filter fun p => decide (p < a.length), ?_⟩
  refine sorted_ext (sorted_C a) ?_ fun p => ?_
  · rw [List.pairwise_append]
    refine ⟨(sorted_C a).filter _, List.pairwise_singleton _ _, fun x hx y hy => ?_⟩
    rw [List.mem_singleton.mp hy]
    exact of_decide_eq_true (List.mem_filter.mp hx).2
  · rw [List.mem_append, List.mem_filter, List.mem_singleton]
    constructor
    · intro h
      have := (mem_C.mp h).1
      by_cases e : p = a.length
      · exact .inr e
      · exact .inl ⟨h, decide_eq_true (by omega)⟩
    · rintro (h | h)
      · exact h.1
      · rw [h]; exact len_C a
theorem mem_pairs : ∀ {l : List Nat} {p : Nat × Nat}, p ∈ pairs l → p.1 ∈ l ∧ p.2 ∈ l
  | [], p, h => by cases h
  | [x], p, h => by cases h
  | x :: y :: r, p, h => by
    rw [pairs_cons] at h
    rcases List.mem_cons.mp h with h | h
    · rw [h]; simp
    · have := mem_pairs h
      exact ⟨List.mem_cons_of_mem _ this.1, List.mem_cons_of_mem _ this.2⟩
/-- neighbours: nothing between -/
theorem pairs_next : ∀ {l : List Nat} {p : Nat × Nat}, l.Pairwise (· < ·) → p ∈ pairs l → p.1 < p.2 ∧ ∀ x, x ∈ l → x ≤ p.1 ∨ p.2 ≤ x
  | [], p, _, h => by cases h
  | [x], p, _, h => by cases h
  | x :: y :: r, p, hs, h => by
    rw [pairs_cons] at h
    rw [List.pairwise_cons] at hs
    rcases List.mem_cons.mp h with h | h
    · rw [h]
      refine ⟨hs.1 y (by simp), fun z hz => ?_⟩
      rcases List.mem_cons.mp hz with hz | hz
      · exact .inl (by show z ≤ x; omega)
      · rcases List.mem_cons.mp hz with hz | hz
        · exact .inr (by show y ≤ z; omega)
        · have := (List.pairwise_cons.mp hs.2).1 z hz
          exact .inr (by show y ≤ z; omega)
    · obtain ⟨h1, h2⟩ := pairs_next hs.2 h
      refine ⟨h1, fun z hz => ?_⟩
      rcases List.mem_cons.mp hz with hz | hz
      · have := hs.1 p.1 (mem_pairs h).1
        exact .inl (by omega)
      · exact h2 z hz
theorem parts_app (a b : List Int) (h : Dis a b) : parts (a ++ b) = parts a ++ parts b := by
  obtain ⟨i, hi⟩ := C_last a
  have e1 : C (a ++ b) = i ++ a.length :: ((C b).filter fun p => decide (0 < p)).map fun p => a.length + p := by
    rw [C_app a b h, hi]; simp
  have e2 : (a.length :: ((C b).filter fun p => decide (0 < p)).map fun p => a.length + p) = (C b).map fun p => a.length + p := by
    conv => rhs; rw [C_zero b]
    rw [List.map_cons]; rfl
  unfold parts
  rw [e1, pairs_app, ← hi, e2, pairs_map, List.map_append, List.map_map]
  congr 1
  · refine List.map_congr_left fun p hp => ?_
    have h1 := mem_C.mp (mem_pairs hp).2
    have h2 := (pairs_next (sorted_C a) hp).1
    have : slice (a ++ b) p = slice a p := by
      unfold slice
      rw [List.drop_append_of_le_length (by omega), List.take_append_of_le_length (by rw [List.length_drop]; omega)]
    rw [this]
  · refine List.map_congr_left fun p hp => ?_
    have : slice (a ++ b) (a.length + p.1, a.length + p.2) = slice b p := by
      unfold slice
      have e : (a ++ b).drop (a.length + p.1) = b.drop p.1 := by rw [List.drop_append]; simp
      show ((a ++ b).drop (a.length + p.1)).take (a.length + p.2 - (a.length + p.1)) = _
      rw [e, show a.length + p.2 - (a.length + p.1) = p.2 - p.1 by omega]
    show partOf (slice (a ++ b) (a.length + p.1, a.length + p.2)) = _
    rw [this]
theorem parts_map (f : Int → Int) (ls : List Int) (h : Inj f ls) : parts (ls.map f) = parts ls := by
  unfold parts
  rw [C_map f ls h]
  refine List.map_congr_left fun p _ => ?_
  have e : slice (ls.map f) p = (slice ls p).map f := by unfold slice; rw [← List.map_drop, ← List.map_take]
  have hin : Inj f (slice ls p) := fun x hx y hy => h x (List.mem_of_mem_drop (List.mem_of_mem_take hx)) y (List.mem_of_mem_drop (List.mem_of_mem_take hy))
  rw [e, partOf_map f _ hin]
theorem parts_J {a b : List Int} (ha : RG a) (hb : RG b) : parts (J a b) = parts a ++ parts b := by
  unfold J
  rw [parts_app _ _ (J_dis ha hb), parts_map _ _ (shift_inj _ _)]
theorem slice_len {xs : List Int} {p : Nat × Nat} (h : p.2 ≤ xs.length) : (slice xs p).length = p.2 - p.1 := by
  unfold slice
  rw [List.length_take, List.length_drop]; omega
theorem take_slice (xs : List Int) (b e q : Nat) (hq : q ≤ e - b) : xs.take (b + q) = xs.take b ++ (slice xs (b, e)).take q := by
  unfold slice
  rw [List.take_take, Nat.min_eq_left hq, List.take_add]
theorem drop_slice (xs : List Int) (b e q : Nat) (hb : b ≤ e) (hq : q ≤ e - b) : xs.drop (b + q) = (slice xs (b, e)).drop q ++ xs.drop e := by
  unfold slice
  have h1 : xs.drop (b + q) = (xs.drop b).drop q := by rw [List.drop_drop]
  have h2 : xs.drop e = (xs.drop b).drop (e - b) := by rw [List.drop_drop, show b + (e - b) = e by omega]
  rw [h1, h2]
  generalize xs.drop b = ys
  show ys.drop q = (ys.take (e - b)).drop q ++ ys.drop (e - b)
  conv => lhs; rw [← List.take_append_drop (e - b) ys]
  by_cases hl : q ≤ (ys.take (e - b)).length
  · rw [List.drop_append_of_le_length hl]
  · have hy : ys.length < e - b := by rw [List.length_take] at hl; omega
    rw [List.drop_eq_nil_of_le (by omega : ys.length ≤ e - b), List.append_nil, List.append_nil]
theorem C_slice {xs : List Int} {p : Nat × Nat} (hp : p ∈ pairs (C xs)) : C (slice xs p) = [0, p.2 - p.1] := by
  obtain ⟨b, e⟩ := p
  obtain ⟨h1, h2⟩ := mem_pairs hp
  obtain ⟨h3, h4⟩ := pairs_next (sorted_C xs) hp
  obtain ⟨b1, b2⟩ := mem_C.mp h1
  obtain ⟨e1, e2⟩ := mem_C.mp h2
  simp only at h1 h2 h3 h4 b1 b2 e1 e2 ⊢
  have sl : (slice xs (b, e)).length = e - b := slice_len e1
  refine sorted_ext (sorted_C _) ?_ fun q => ?_
  · rw [List.pairwise_cons]
    exact ⟨fun x hx => by rw [List.mem_singleton.mp hx]; omega, List.pairwise_singleton _ _⟩
  · rw [List.mem_cons, List.mem_singleton]
    constructor
    · intro hq
      obtain ⟨q1, q2⟩ := mem_C.mp hq
      rw [sl] at q1
      by_cases c1 : q = 0
      · exact .inl c1
      by_cases c2 : q = e - b
      · exact .inr c2
      exfalso
      have : b + q ∈ C xs := mem_C.mpr ⟨by omega, fun l m1 m2 => by
        rw [take_slice xs b e q q1] at m1
        have m2' := m2
        rw [drop_slice xs b e q (by omega) q1] at m2
        rcases List.mem_append.mp m1 with m1 | m1
        · exact b2 l m1 (by rw [← List.drop_drop] at m2'; exact List.mem_of_mem_drop m2')
        · rcases List.mem_append.mp m2 with m2 | m2
          · exact q2 l m1 m2
          · refine e2 l ?_ m2
            have z : l ∈ slice xs (b, e) := List.mem_of_mem_take m1
            have := take_slice xs b e (e - b) (Nat.le_refl _)
            rw [show b + (e - b) = e by omega] at this
            rw [this]
            exact List.mem_append.mpr (.inr (by rw [List.take_of_length_le (by omega)]; exact z))⟩
      have := h4 _ this
      omega
    · rintro (hq | hq)
      · rw [hq]; exact zero_C _
      · rw [hq, ← sl]; exact len_C _
theorem C_part {xs : List Int} {p : Nat × Nat} (hp : p ∈ pairs (C xs)) : C (partOf (slice xs p)) = [0, p.2 - p.1] := by
  rw [← C_slice hp]
  exact C_map _ _ (partOf_inj _)
theorem parts_part {xs : List Int} {p : Nat × Nat} (hp : p ∈ pairs (C xs)) : (parts (partOf (slice xs p))).length = 1 := by
  unfold parts
  rw [C_part hp]; rfl
/-- the parts give the row back -/
theorem J_next {xs : List Int} (h : RG xs) {b e : Nat} (hb : b ∈ C xs) (hbe : b ≤ e) : J (xs.take b) (partOf (slice xs (b, e))) = xs.take e := by
  have e1 := take_slice xs b e (e - b) (Nat.le_refl _)
  rw [show b + (e - b) = e by omega] at e1
  have e3 : (slice xs (b, e)).take (e - b) = slice xs (b, e) := by unfold slice; rw [List.take_take]; simp
  rw [e3] at e1
  have d : Dis (xs.take b) (slice xs (b, e)) := fun l h1 h2 => (mem_C.mp hb).2 l h1 (List.mem_of_mem_take h2)
  have r1 := RG_take h e
  have r2 := RG_take h b
  unfold RG at r1 r2
  rw [e1, partOf_app _ _ d, r2] at r1
  rw [e1]
  exact r1
def gather (xs : List Int) (l : List (Nat × Nat)) (a : List Int) : List Int := l.foldl (fun a p => J a (partOf (slice xs p))) a
theorem gather_at {xs : List Int} (h : RG xs) : ∀ (l : List Nat) (c m : Nat), (∀ x, x ∈ c :: (l ++ [m]) → x ∈ C xs) → (c :: (l ++ [m])).Pairwise (· < ·) → gather xs (pairs (c :: (l ++ [m]))) (xs.take c) = xs.take m
  | [], c, m, hm, hs => by
    have := (List.pairwise_cons.mp hs).1 m (by simp)
    exact J_next h (hm c (by simp)) (by omega)
  | y :: l, c, m, hm, hs => by
    have hc := (List.pairwise_cons.mp hs).1 y (by simp)
    show gather xs (pairs (y :: (l ++ [m]))) (J (xs.take c) (partOf (slice xs (c, y)))) = _
    rw [J_next h (hm c (by simp)) (by omega)]
    exact gather_at h l y m (fun x hx => hm x (List.mem_cons_of_mem _ hx)) (List.pairwise_cons.mp hs).2
theorem gather_all {xs : List Int} (h : RG xs) : (parts xs).foldl J [] = xs := by
  have e : (parts xs).foldl J [] = gather xs (pairs (C xs)) [] := by
    unfold parts gather
    rw [List.foldl_map]
  rw [e]
  by_cases z : xs = []
  · subst z; rfl
  · have hl : 0 < xs.length := List.length_pos_iff.mpr z
    obtain ⟨i, hi⟩ := C_last xs
    cases i with
    | nil =>
      have := zero_C xs
      rw [hi] at this
      have := List.mem_singleton.mp this
      omega
    | cons c i =>
      have c0 : c = 0 := by
        have h0 := C_zero xs
        rw [hi] at h0
        exact (List.cons.inj h0).1
      subst c0
      have q := gather_at h i 0 xs.length (fun x hx => by rw [hi]; exact hx) (by have := sorted_C xs; rw [hi] at this; exact this)
      rw [hi]
      have t0 : xs.take 0 = [] := rfl
      rw [t0, List.take_length] at q
      exact q
end Q

set_option Elab.async false
set_option linter.all false
set_option maxRecDepth 100000
/-! QAH: rows of ascending numbers; loops that lengthen a list. -/
namespace Q
open PySem PySem.Spec L2
/-! ### one step at a time -/
section
variable {f h : SE} {s t : SS} {u : ST} {fs : SL} {as : SL} {ρ ρ' : Ev} {n : Nat} {tg : SG} {vs : List Nat} {g g1 g2 : G} {ds es zs : List D} {d e z : D} {x : Fl × G}
theorem r_seq (h1 : s ρ g = some (.nx ρ', g1)) : sSeq s t ρ g = t ρ' g1 := by simp [h1]
theorem r_seqR (h1 : s ρ g = some (.rt d, g1)) : sSeq s t ρ g = some (.rt d, g1) := by simp [h1]
theorem r_asg (h1 : f ρ g = some (d, g1)) : sAsg n f ρ g = some (.nx (ρ.set n (some d)), g1) := by simp [h1]
theorem r_asgT (h1 : f ρ g = some (d, g1)) (h2 : tg d ρ = some ρ') : sAsgT f tg ρ g = some (.nx ρ', g1) := by simp [h1, h2]
theorem r_ret (h1 : f ρ g = some (d, g1)) : sRet f ρ g = some (.rt d, g1) := by simp [h1]
theorem r_ifT (h1 : u ρ g = some (true, g1)) : sIf u s t ρ g = s ρ g1 := by simp [h1]
theorem r_ifF (h1 : u ρ g = some (false, g1)) : sIf u s t ρ g = t ρ g1 := by simp [h1]
theorem r_eifT (h1 : u ρ g = some (true, g1)) : eIf u f h ρ g = f ρ g1 := by simp [h1]
theorem r_eifF (h1 : u ρ g = some (false, g1)) : eIf u f h ρ g = h ρ g1 := by simp [h1]
theorem r_for (h1 : fs ρ g = some (ds, g1)) : sFor fs tg s ρ g = forGo tg s ds ρ g1 := by simp [h1]
theorem r_ext (h1 : f ρ g = some (.list es, g1)) (h2 : ρ.getD n none = some (.list ds)) (h3 : ds.length + es.length ≤ sizeLine) : sExt n f ρ g = some (.nx (ρ.set n (some (.list (ds ++ es)))), g1) := by
  rw [u_ext, h1, u_lat, h2]
  simp only [h3, if_true]
theorem r_app (h1 : f ρ g = some (d, g1)) (h2 : ρ.getD n none = some (.list ds)) (h3 : ds.length < sizeLine) : sApp n f ρ g = some (.nx (ρ.set n (some (.list (ds ++ [d])))), g1) := by
  rw [u_app, h1, u_lat, h2]
  simp only [h3, if_true]
theorem r_lc (h1 : fs ρ g = some (ds, g1)) (h2 : lcGo tg u f (wipeE ρ vs) ds g1 = some (zs, g2)) (h3 : zs.length ≤ sizeLine) : eLc fs vs tg u f ρ g = some (.list zs, g2) := by
  rw [u_lc, h1]
  simp only [h2, h3, if_true]
theorem r_cb {sem : List D → Option D} (h1 : as ρ g = some (ds, g1)) (h2 : sem ds = some z) : eCB sem as ρ g = some (z, g1) := by simp [h1, h2]
theorem r_cp {sem : List D → Option D} (h1 : as ρ g = some (ds, g1)) (h2 : sem ds = some z) : eCP sem as ρ g = some (z, g1) := by simp [h1, h2]
theorem r_cd {sem : List D → M D} (h1 : as ρ g = some (ds, g1)) : eCD sem as ρ g = sem ds g1 := by simp [h1]
theorem r_op {sem : D → D → Option D} (h1 : f ρ g = some (d, g1)) (h2 : h ρ g1 = some (e, g2)) (h3 : sem d e = some z) : eOp sem f h ρ g = some (z, g2) := by simp [h1, h2, h3]
theorem r_c1 (h1 : f ρ g = some (d, g1)) : sCons f sNil ρ g = some ([d], g1) := by simp [h1]
theorem r_cs (h1 : f ρ g = some (d, g1)) (h2 : as ρ g1 = some (ds, g2)) : sCons f as ρ g = some (d :: ds, g2) := by simp [h1, h2]
theorem r_of {k : Bool} (h1 : f ρ g = some (.bool k, g1)) : bOf f ρ g = some (k, g1) := by simp [h1]
theorem r_not {k : Bool} (h1 : u ρ g = some (k, g1)) : bNot u ρ g = some (!k, g1) := by simp [h1]
theorem r_tru {k : Bool} (h1 : f ρ g = some (.bool k, g1)) : bTru f ρ g = some (k, g1) := by simp [h1]
theorem r_seqT {xs : List D} (h1 : f ρ g = some (.tuple xs, g1)) : iSeq f ρ g = some (xs, g1) := by simp [h1]
theorem r_seqL {xs : List D} (h1 : f ρ g = some (.list xs, g1)) : iSeq f ρ g = some (xs, g1) := by simp [h1]
theorem r_P {m : Nat} {b : SS} {xs : List D} (h : b (xs.map some ++ List.replicate (m - xs.length) none) g0 = some (.rt d, g1)) : runP m b xs = some d := by
  unfold runP; rw [h]; rfl
theorem r_D {m : Nat} {b : SS} {xs : List D} (h : b (none :: xs.map some ++ List.replicate (m - 1 - xs.length) none) g = some (.rt d, g1)) : runD m b xs g = some (d, g1) := by
  unfold runD; rw [h]; rfl
theorem r_r1 {m : Nat} (h1 : f ρ g = some (.int (m : Int), g1)) (hm : m < 1000000) : iRange1 f ρ g = some ((List.range m).map fun (i : Nat) => .int (i : Int), g1) := by
  rw [u_r1, h1]
  have e : (m : Int).toNat = m := by omega
  simp only [inR_n hm, e, if_true]
  rw [show rangeD 0 m = (List.range m).map fun (i : Nat) => .int (i : Int) from range_map m]
theorem r_r2 {l m : Nat} (h1 : f ρ g = some (.int (l : Int), g1)) (h2 : h ρ g1 = some (.int (m : Int), g2)) (hl : l < 1000000) (hm : m < 1000000) : iRange2 f h ρ g = some ((List.range' l (m - l)).map fun (i : Nat) => .int (i : Int), g2) := by
  rw [u_r2, h1]
  simp only [h2, inR_n hm, inR_n hl, Bool.and_self, if_true]
  have e : ((m : Int) - (l : Int)).toNat = m - l := by omega
  rw [e, range_map2]
end
/-! the same where nothing is drawn -/
section
variable {f h : SE} {s t : SS} {u : ST} {fs : SL} {as : SL} {ρ ρ' : Ev} {n : Nat} {tg : SG} {vs : List Nat} {g : G} {ds es zs : List D} {d e z : D} {x : Fl × G}
theorem p_seq (h1 : s ρ g = some (.nx ρ', g)) : sSeq s t ρ g = t ρ' g := by simp [h1]
theorem p_seqR (h1 : s ρ g = some (.rt d, g)) : sSeq s t ρ g = some (.rt d, g) := by simp [h1]
theorem p_asg (h1 : f ρ g = some (d, g)) : sAsg n f ρ g = some (.nx (ρ.set n (some d)), g) := by simp [h1]
theorem p_asgT (h1 : f ρ g = some (d, g)) (h2 : tg d ρ = some ρ') : sAsgT f tg ρ g = some (.nx ρ', g) := by simp [h1, h2]
theorem p_ret (h1 : f ρ g = some (d, g)) : sRet f ρ g = some (.rt d, g) := by simp [h1]
theorem p_ifT (h1 : u ρ g = some (true, g)) : sIf u s t ρ g = s ρ g := by simp [h1]
theorem p_ifF (h1 : u ρ g = some (false, g)) : sIf u s t ρ g = t ρ g := by simp [h1]
theorem p_eifT (h1 : u ρ g = some (true, g)) : eIf u f h ρ g = f ρ g := by simp [h1]
theorem p_eifF (h1 : u ρ g = some (false, g)) : eIf u f h ρ g = h ρ g := by simp [h1]
theorem p_for (h1 : fs ρ g = some (ds, g)) : sFor fs tg s ρ g = forGo tg s ds ρ g := by simp [h1]
theorem p_ext (h1 : f ρ g = some (.list es, g)) (h2 : ρ.getD n none = some (.list ds)) (h3 : ds.length + es.length ≤ sizeLine) : sExt n f ρ g = some (.nx (ρ.set n (some (.list (ds ++ es)))), g) := by
  rw [u_ext, h1, u_lat, h2]
  simp only [h3, if_true]
theorem p_app (h1 : f ρ g = some (d, g)) (h2 : ρ.getD n none = some (.list ds)) (h3 : ds.length < sizeLine) : sApp n f ρ g = some (.nx (ρ.set n (some (.list (ds ++ [d])))), g) := by
  rw [u_app, h1, u_lat, h2]
  simp only [h3, if_true]
theorem p_lc (h1 : fs ρ g = some (ds, g)) (h2 : lcGo tg u f (wipeE ρ vs) ds g = some (zs, g)) (h3 : zs.length ≤ sizeLine) : eLc fs vs tg u f ρ g = some (.list zs, g) := by
  rw [u_lc, h1]
  simp only [h2, h3, if_true]
theorem p_cb {sem : List D → Option D} (h1 : as ρ g = some (ds, g)) (h2 : sem ds = some z) : eCB sem as ρ g = some (z, g) := by simp [h1, h2]
theorem p_cp {sem : List D → Option D} (h1 : as ρ g = some (ds, g)) (h2 : sem ds = some z) : eCP sem as ρ g = some (z, g) := by simp [h1, h2]
theorem p_cd {sem : List D → M D} (h1 : as ρ g = some (ds, g)) : eCD sem as ρ g = sem ds g := by simp [h1]
theorem p_op {sem : D → D → Option D} (h1 : f ρ g = some (d, g)) (h2 : h ρ g = some (e, g)) (h3 : sem d e = some z) : eOp sem f h ρ g = some (z, g) := by simp [h1, h2, h3]
theorem p_c1 (h1 : f ρ g = some (d, g)) : sCons f sNil ρ g = some ([d], g) := by simp [h1]
theorem p_cs (h1 : f ρ g = some (d, g)) (h2 : as ρ g = some (ds, g)) : sCons f as ρ g = some (d :: ds, g) := by simp [h1, h2]
theorem p_of {k : Bool} (h1 : f ρ g = some (.bool k, g)) : bOf f ρ g = some (k, g) := by simp [h1]
theorem p_not {k : Bool} (h1 : u ρ g = some (k, g)) : bNot u ρ g = some (!k, g) := by simp [h1]
theorem p_tru {k : Bool} (h1 : f ρ g = some (.bool k, g)) : bTru f ρ g = some (k, g) := by simp [h1]
theorem p_seqT {xs : List D} (h1 : f ρ g = some (.tuple xs, g)) : iSeq f ρ g = some (xs, g) := by simp [h1]
theorem p_seqL {xs : List D} (h1 : f ρ g = some (.list xs, g)) : iSeq f ρ g = some (xs, g) := by simp [h1]
theorem p_P {m : Nat} {b : SS} {xs : List D} (h : b (xs.map some ++ List.replicate (m - xs.length) none) g0 = some (.rt d, g0)) : runP m b xs = some d := r_P h
theorem p_r1 {m : Nat} (h1 : f ρ g = some (.int (m : Int), g)) (hm : m < 1000000) : iRange1 f ρ g = some ((List.range m).map fun (i : Nat) => .int (i : Int), g) := by
  rw [u_r1, h1]
  have e : (m : Int).toNat = m := by omega
  simp only [inR_n hm, e, if_true]
  rw [show rangeD 0 m = (List.range m).map fun (i : Nat) => .int (i : Int) from range_map m]
theorem p_r2 {l m : Nat} (h1 : f ρ g = some (.int (l : Int), g)) (h2 : h ρ g = some (.int (m : Int), g)) (hl : l < 1000000) (hm : m < 1000000) : iRange2 f h ρ g = some ((List.range' l (m - l)).map fun (i : Nat) => .int (i : Int), g) := by
  rw [u_r2, h1]
  simp only [h2, inR_n hm, inR_n hl, Bool.and_self, if_true]
  have e : ((m : Int) - (l : Int)).toNat = m - l := by omega
  rw [e, range_map2]
end
section
variable {α β : Type} {tg : SG} {g : G}
/-- a loop that lengthens a list: by φ x for each x; J: slots that don't count -/
theorem for_flat {J : Type} {b : SS} (xs : List α) (f : α → D) (R : List β → J → Ev) (φ : α → List β) (l0 : List β) (j0 : J) (N : Nat) (hN : l0.length + (xs.flatMap φ).length ≤ N)
    (h : ∀ l j x, x ∈ xs → l.length + (φ x).length ≤ N → ∃ ρ1 j', tg (f x) (R l j) = some ρ1 ∧ b ρ1 g = some (.nx (R (l ++ φ x) j'), g)) : ∃ j, forGo tg b (xs.map f) (R l0 j0) g = some (.nx (R (l0 ++ xs.flatMap φ) j), g) := by
  induction xs generalizing l0 j0 with
  | nil => exact ⟨j0, by simp [forGo, mret]⟩
  | cons x r ih =>
    rw [List.flatMap_cons, List.length_append] at hN
    obtain ⟨ρ1, j', e1, e2⟩ := h l0 j0 x (by simp) (by omega)
    obtain ⟨j, e3⟩ := ih (l0 ++ φ x) j' (by rw [List.length_append]; omega) fun l j y hy => h l j y (List.mem_cons_of_mem _ hy)
    refine ⟨j, ?_⟩
    rw [List.map_cons, forGo]
    simp only [mbnd, mlift, e1, e2]
    rw [List.flatMap_cons, ← List.append_assoc]
    exact e3
/-- a loop whose turns are numbered -/
theorem for_turn {σ J : Type} {b : SS} (n : Nat) (R : σ → J → Ev) (st : Nat → σ) (j0 : J) (ds : List D) (hd : ds = (List.range n).map fun (i : Nat) => .int (i : Int))
    (h : ∀ i j, i < n → ∃ ρ1 j', tg (.int (i : Int)) (R (st i) j) = some ρ1 ∧ b ρ1 g = some (.nx (R (st (i + 1)) j'), g)) : ∃ j, forGo tg b ds (R (st 0) j0) g = some (.nx (R (st n) j), g) := by
  subst hd
  have key : ∀ m k, m + k = n → ∀ j, ∃ j', forGo tg b ((List.range' k m).map fun (i : Nat) => .int (i : Int)) (R (st k) j) g = some (.nx (R (st n) j'), g) := by
    intro m
    induction m with
    | zero => intro k hk j; have : k = n := by omega
              subst this; exact ⟨j, rfl⟩
    | succ m ih =>
      intro k hk j
      obtain ⟨ρ1, j', e1, e2⟩ := h k j (by omega)
      obtain ⟨j2, e3⟩ := ih (k + 1) (by omega) j'
      refine ⟨j2, ?_⟩
      rw [List.range'_succ, List.map_cons, forGo]
      simp only [mbnd, mlift, e1, e2]
      exact e3
  have := key n 0 (by omega) j0
  rwa [← List.range_eq_range'] at this
end
/-- a loop that returns at the first of its kind -/
theorem for_find {J : Type} {tg : SG} {g : G} {b : SS} (xs : List D) (p : D → Bool) (R : J → Ev) (r : D) (j0 : J)
    (h : ∀ j x, x ∈ xs → ∃ ρ1 j', tg x (R j) = some ρ1 ∧ b ρ1 g = if p x then some (.rt r, g) else some (.nx (R j'), g)) : (xs.any p = true → forGo tg b xs (R j0) g = some (.rt r, g)) ∧ (xs.any p = false → ∃ j, forGo tg b xs (R j0) g = some (.nx (R j), g)) := by
  induction xs generalizing j0 with
  | nil => exact ⟨fun h => by simp at h, fun _ => ⟨j0, rfl⟩⟩
  | cons x xs ih =>
    obtain ⟨ρ1, j', e1, e2⟩ := h j0 x (by simp)
    have ih := ih j' fun j y hy => h j y (List.mem_cons_of_mem _ hy)
    rw [List.any_cons, forGo]
    simp only [mbnd, mlift, e1, e2]
    cases hp : p x with
    | true => simp [mret]
    | false => simpa using ih
/-! ### lots: ascending rows of numbers below n -/
def nx (x : List Nat) : Nat := match x.getLast? with
  | some m => m + 1
  | none => 0
def lotsOn (n : Nat) (x : List Nat) : List (List Nat) := (List.range' (nx x) (n - nx x)).map fun j => x ++ [j]
def lots (n : Nat) : Nat → List (List Nat)
  | 0 => [[]]
  | k + 1 => (lots n k).flatMap (lotsOn n)
theorem lotsOn_len (n : Nat) (x : List Nat) : (lotsOn n x).length ≤ n := by simp [lotsOn]
theorem flat_len {α β : Type} (xs : List α) (φ : α → List β) (n : Nat) (h : ∀ x ∈ xs, (φ x).length ≤ n) : (xs.flatMap φ).length ≤ n * xs.length := by
  induction xs with
  | nil => simp
  | cons x r ih =>
    have h1 := h x (by simp)
    have h2 := ih fun y hy => h y (List.mem_cons_of_mem _ hy)
    rw [List.flatMap_cons, List.length_append, List.length_cons, Nat.mul_add]; omega
theorem lots_len (n k : Nat) : (lots n k).length ≤ n ^ k := by
  induction k with
  | zero => exact Nat.le_refl _
  | succ k ih =>
    have := flat_len (lots n k) (lotsOn n) n fun x _ => lotsOn_len n x
    have e : n ^ (k + 1) = n * n ^ k := by rw [Nat.pow_succ, Nat.mul_comm]
    rw [e]
    exact Nat.le_trans this (Nat.mul_le_mul_left n ih)
theorem lots_mem {n k : Nat} {x : List Nat} (h : x ∈ lots n k) : x.length = k ∧ (∀ i ∈ x, i < n) ∧ x.Pairwise (· < ·) := by
  induction k generalizing x with
  | zero =>
    have : x = [] := by simpa [lots] using h
    subst this; simp
  | succ k ih =>
    obtain ⟨y, hy, hx⟩ := List.mem_flatMap.mp h
    obtain ⟨j, hj, rfl⟩ := List.mem_map.mp hx
    obtain ⟨h1, h2, h3⟩ := ih hy
    have hj' := List.mem_range'_1.mp hj
    refine ⟨by simp [h1], fun i hi => ?_, ?_⟩
    · rcases List.mem_append.mp hi with q | q
      · exact h2 i q
      · have := List.mem_singleton.mp q; omega
    · rw [List.pairwise_append]
      refine ⟨h3, by simp, fun a ha b hb => ?_⟩
      have hb := List.mem_singleton.mp hb
      subst hb
      have : a < nx y := by
        rcases List.eq_nil_or_concat y with e | ⟨z, m, e⟩
        · subst e; cases ha
        · have e' : y = z ++ [m] := by simpa using e
          subst e'
          have em : nx (z ++ [m]) = m + 1 := by simp [nx]
          rw [em]
          rcases List.mem_append.mp ha with q | q
          · have := (List.pairwise_append.mp h3).2.2 a q m (by simp)
            omega
          · have := List.mem_singleton.mp q; omega
      omega
theorem lots_nil {n k : Nat} (h : n < k) : lots n k = [] := by
  apply List.eq_nil_iff_forall_not_mem.mpr
  intro x hx
  obtain ⟨h1, h2, h3⟩ := lots_mem hx
  have : ∀ (y : List Nat) (m : Nat), y.Pairwise (· < ·) → (∀ i ∈ y, m ≤ i ∧ i < n) → m + y.length ≤ n ∨ y = [] := by
    intro y
    induction y with
    | nil => intro m _ _; exact .inr rfl
    | cons a r ih =>
      intro m hp hm
      have ha := hm a (by simp)
      have hp' := List.pairwise_cons.mp hp
      left
      rcases ih (a + 1) hp'.2 (fun i hi => ⟨hp'.1 i hi, (hm i (List.mem_cons_of_mem _ hi)).2⟩) with q | q
      · simp; omega
      · subst q; simp; omega
  rcases this x 0 h3 (fun i hi => ⟨Nat.zero_le _, h2 i hi⟩) with q | q
  · omega
  · subst q; simp at h1; omega
theorem range_nx (n : Nat) (x : List Nat) (p : Nat → Bool) (hp : ∀ j, p j = decide (nx x ≤ j)) : (List.range n).filter p = List.range' (nx x) (n - nx x) := by
  refine sorted_ext (List.Pairwise.filter _ List.pairwise_lt_range) ?_ fun j => ?_
  · exact List.pairwise_lt_range'
  · rw [List.mem_filter, List.mem_range, List.mem_range'_1, hp, decide_eq_true_iff]; omega
theorem nT_nil : nT [] = .tuple [] := rfl
theorem nT_isEmpty (x : List Nat) : (up x).isEmpty = x.isEmpty := by cases x <;> rfl
theorem nx_of {x : List Nat} : nx x = 0 ∧ x = [] ∨ ∃ z m, x = z ++ [m] ∧ nx x = m + 1 := by
  rcases List.eq_nil_or_concat x with e | ⟨z, m, e⟩
  · subst e; exact .inl ⟨rfl, rfl⟩
  · have e' : x = z ++ [m] := by simpa using e
    exact .inr ⟨z, m, e', by subst e'; simp [nx]⟩
theorem atI_nT (z : List Nat) (m : Nat) : L2.atI ((up (z ++ [m])).map PyData.int) (-1) = some (.int (m : Int)) := by
  unfold L2.atI L2.ixN
  have l : ((up (z ++ [m])).map PyData.int).length = z.length + 1 := by simp [up]
  rw [l]
  have e : (if (0 : Int) ≤ -1 then (-1 : Int).toNat else ((z.length + 1 : Nat) + (-1 : Int)).toNat) = z.length := by
    rw [if_neg (by decide)]; omega
  have e2 : ((-1 : Int) + (((z.length : Nat) : Int) + 1)).toNat = z.length := by omega
  have c : 1 ≤ ((z.length : Nat) : Int) + 1 := by omega
  simp [up, c, e2]
theorem ne_nT0 : sNeA (nT []) (.tuple []) = some (.bool false) := rfl
theorem eq_nT0 : sEqA (nT []) (.tuple []) = some (.bool true) := rfl
theorem ne_nT (z : List Nat) (m : Nat) : sNeA (nT (z ++ [m])) (.tuple []) = some (.bool true) := by
  show some (PyData.bool (!(List.isEmpty _))) = _
  simp [up]
theorem eq_nT (z : List Nat) (m : Nat) : sEqA (nT (z ++ [m])) (.tuple []) = some (.bool false) := by
  show some (PyData.bool (List.isEmpty _)) = _
  simp [up]
theorem ix_nT (z : List Nat) (m : Nat) : sIx (nT (z ++ [m])) (.int (-1)) = some (.int (m : Int)) := atI_nT z m
theorem ix_at {xs : List Int} {j : Nat} {x : Int} (h : xs[j]? = some x) : sIx (iT xs) (.int (j : Int)) = some (.int x) := atI_ints h
end Q

set_option Elab.async false
set_option linter.all false
set_option maxRecDepth 100000
/-! QAI: a tuple some times over. -/
namespace Q
open PySem PySem.Spec PyProof.Rows L2
section
variable {X : Cx} {B : Bs}
def sMulT (d e : D) : Option D := match d, e with
  | .tuple xs, .int k => if 0 < xs.length ∧ xs.length ≤ 1000 ∧ 2 ≤ k ∧ k ≤ 1000 then some (.tuple (List.replicate k.toNat xs).flatten) else none
  | _, _ => none
theorem o_mulT : OpS X B (binaryOp .Mult) sMulT := ⟨_, op_repT, fun ss O F H σ ρ g x y d e c R I rx ry hc q => by
  unfold sMulT at hc
  split at hc
  · split at hc
    · rename_i hz
      cases hc
      obtain ⟨h0, hz, h1, h2⟩ := hz
      obtain ⟨l1, xs, e1, hl, r1⟩ := rx.tup
      have e3 := r1.length
      exact ⟨l1, _, xs, e1, ry.int, hl.sq, fun z => by subst z; simp at e3; omega, h1, h2, by omega, fun p hp => I.finT q (r1.rep _) hp⟩
    · cases hc
  · cases hc⟩
@[simp] theorem u_mulT {xs : List D} {k : Int} : sMulT (.tuple xs) (.int k) = if 0 < xs.length ∧ xs.length ≤ 1000 ∧ 2 ≤ k ∧ k ≤ 1000 then some (.tuple (List.replicate k.toNat xs).flatten) else none := rfl
end
end Q

set_option Elab.async false
set_option linter.all false
set_option maxRecDepth 100000
set_option maxHeartbeats 4000000
namespace PP
open PySem PySem.Spec PyProof.Rows L2 Q
def parting_of_s : List D → Option D := sPart
def choose_L3 : SS := (sAsg 2 (eOp sDiv (eOp sMul (eV 2) (eOp sSub (eV 0) (eV 3))) (eOp sAdd (eV 3) (eC (.int 1)))))
def choose_b : SS :=
  (sSeq (sAsg 2 (eC (.int 1)))
  (sSeq (sFor (iRange1 (eV 1)) (gN 3) choose_L3)
  (sRet (eV 2))))
def choose_s : List D → Option D := runP 4 choose_b
def is_integer_b : SS :=
  (sRet (eBool (eAnd (eIsi "int" (eV 0)) (eNot (bOf (eIsi "bool" (eV 0)))))))
def is_integer_s : List D → Option D := runP 1 is_integer_b
def is_row_E29 : SE := (eCP is_integer_s (sCons (eV 1) sNil))
def is_row_b : SS :=
  (sSeq (sIf (bOr (bNot (bTru (eIsi "tuple" (eV 0)))) (bNot (bTru (eCB sAll (sCons (eLc (iSeq (eV 0)) [1] (gN 1) bYes is_row_E29) sNil)))))
  (sRet (eC (.bool false)))
  sNext)
  (sRet (eBool (eOr (eOp sEqA (eV 0) (eTup sNil)) (eOp sNeA (eOp sIx (eV 0) (eNeg (eC (.int 1)))) (eC (.int 0)))))))
def is_row_s : List D → Option D := runP 2 is_row_b
def row_at_E7 : SE := (eOp sMul (eV 3) (eCP choose_s (sCons (eV 1) (sCons (eV 2) sNil))))
def row_at_b : SS :=
  (sRet (eCB sSum (sCons (eLc (iEnum (eV 0)) [2, 3] (gT 2 (gsC (gN 2) (gsC (gN 3) gsN))) bYes row_at_E7) sNil)))
def row_at_s : List D → Option D := runP 4 row_at_b
def judge_row_T13 : ST := (bOf (eOp sNeA (eCP row_at_s (sCons (eV 1) (sCons (eV 3) sNil))) (eV 4)))
def judge_row_E13 : SE := (eV 3)
def judge_row_b : SS :=
  (sSeq (sIf (bNot (bTru (eCP is_row_s (sCons (eV 1) sNil))))
  (sRet (eTup (sCons (eC (.str "form")) sNil)))
  sNext)
  (sSeq (sIf (bOf (eOp sGt (eCB sLenD (sCons (eV 1) sNil)) (eCB sLenD (sCons (eV 0) sNil))))
  (sRet (eTup (sCons (eC (.str "long")) (sCons (eCB sLenD (sCons (eV 0) sNil)) sNil))))
  sNext)
  (sSeq (sAsg 2 (eLc (iEnum (eV 0)) [3, 4] (gT 2 (gsC (gN 3) (gsC (gN 4) gsN))) judge_row_T13 judge_row_E13))
  (sRet (eIf (bOf (eOp sNeA (eV 2) (eLst sNil))) (eTup (sCons (eC (.str "at")) (sCons (eOp sIx (eV 2) (eC (.int 0))) (sCons (eOp sIx (eV 0) (eOp sIx (eV 2) (eC (.int 0)))) sNil)))) (eC .none))))))
def judge_row_s : List D → Option D := runP 5 judge_row_b
def law_pick_b : SS :=
  (sSeq (sIf (bOf (eOp sLt (eV 1) (eC (.int 2))))
  (sRet (eC (.int 0)))
  sNext)
  (sSeq (sPullA 2)
  (sSeq (sAsg 3 (eSrc G.left))
  (sSeq (sIf (bOf (eOp sGt (eV 3) (eC (.int 1))))
  (sSeq (sSrc (fun v g => { g with left := v }) (eOp sDiv (eV 3) (eV 1)))
  (sRet (eOp sMod (eCB sInt (sCons (eV 3) sNil)) (eV 1))))
  sNext)
  (sSeq (sSrc (fun v g => { g with turn := v }) (eOp sAdd (eSrc G.turn) (eC (.int 1))))
  (sSeq (sAsg 4 (eSrc G.turn))
  (sSeq (sAsg 5 (eOp sMod (eCB sInt (sCons (eOp sAdd (eSrc G.mixed) (eOp sMul (eV 4) (eC (.int 104729)))) sNil)) (eC (.int 998244353))))
  (sSeq (sAsg 5 (eOp sMod (eCB sInt (sCons (eOp sAdd (eOp sMul (eV 5) (eV 5)) (eOp sMul (eV 4) (eC (.int 17)))) sNil)) (eC (.int 2147483647))))
  (sRet (eOp sMod (eCB sInt (sCons (eOp sDiv (eV 5) (eC (.int 16))) sNil)) (eV 1)))))))))))
def law_pick_s : List D → M D := runD 6 law_pick_b
def law_of_b : SS :=
  (sRet (eOp sIx (eV 1) (eCD law_pick_s (sCons (eCB sLenD (sCons (eV 1) sNil)) sNil))))
def law_of_s : List D → M D := runD 2 law_of_b
def law_bent_b (self_ : List D → M D) : SS :=
  (sSeq (sIf (bAnd (bTru (eIsi "int" (eV 1))) (bAnd (bNot (bTru (eIsi "bool" (eV 1)))) (bOf (eOp sGt (eCD law_pick_s (sCons (eC (.int 3)) sNil)) (eC (.int 0))))))
  (sRet (eOp sAdd (eV 1) (eCD law_of_s (sCons (eLst (sCons (eC (.int 1)) (sCons (eNeg (eC (.int 1))) (sCons (eC (.int 2)) sNil)))) sNil))))
  sNext)
  (sSeq (sIf (bOr (bNot (bTru (eIsi "tuple" (eV 1)))) (bOr (bOf (eOp sEqA (eV 1) (eTup sNil))) (bOf (eOp sEqA (eCD law_pick_s (sCons (eC (.int 9)) sNil)) (eC (.int 0))))))
  (sRet (eCD law_of_s (sCons (eV 2) sNil)))
  sNext)
  (sSeq (sPar 3 4 (eCD law_pick_s (sCons (eCB sLenD (sCons (eV 1) sNil)) sNil)) (eCD law_pick_s (sCons (eC (.int 9)) sNil)))
  (sSeq (sIf (bOf (eOp sLt (eV 4) (eC (.int 7))))
  (sRet (eOp sAdd (eOp sAdd (eCut (eV 1) oNone (oInt (eV 3))) (eTup (sCons (eCD self_ (sCons (eOp sIx (eV 1) (eV 3)) (sCons (eV 2) sNil))) sNil))) (eCut (eV 1) (oInt (eOp sAdd (eV 3) (eC (.int 1)))) oNone)))
  sNext)
  (sRet (eCD law_of_s (sCons (eLst (sCons (eOp sAdd (eCut (eV 1) oNone (oInt (eV 3))) (eCut (eV 1) (oInt (eOp sAdd (eV 3) (eC (.int 1)))) oNone)) (sCons (eOp sAdd (eCut (eV 1) oNone (oInt (eOp sAdd (eV 3) (eC (.int 1))))) (eCut (eV 1) (oInt (eV 3)) oNone)) (sCons (eRevA (eV 1)) (sCons (eCB sList (sCons (eV 1) sNil)) sNil))))) sNil)))))))
def law_bent_f : Nat → List D → M D
  | 0 => fun _ _ => none
  | n + 1 => runD 5 (law_bent_b (law_bent_f n))
def law_bent_s : List D → M D := law_bent_f 4
def law_over_L3 : SS := (sPar 2 3 (eOp sMul (eV 2) (eOp sSub (eV 0) (eV 4))) (eOp sMul (eV 3) (eOp sAdd (eV 4) (eC (.int 1)))))
def law_over_b : SS :=
  (sSeq (sAsgT (eTup (sCons (eC (.int 1)) (sCons (eC (.int 1)) sNil))) (gT 2 (gsC (gN 2) (gsC (gN 3) gsN))))
  (sSeq (sFor (iRange1 (eV 1)) (gN 4) law_over_L3)
  (sRet (eOp sDiv (eV 2) (eV 3)))))
def law_over_s : List D → Option D := runP 5 law_over_b
def law_at_E7 : SE := (eOp sMul (eV 3) (eCP law_over_s (sCons (eV 1) (sCons (eV 2) sNil))))
def law_at_b : SS :=
  (sRet (eCB sSum (sCons (eLc (iEnum (eV 0)) [2, 3] (gT 2 (gsC (gN 2) (gsC (gN 3) gsN))) bYes law_at_E7) sNil)))
def law_at_s : List D → Option D := runP 4 law_at_b
def law_fault_T38 : ST := (bNot (bTru (eCP is_integer_s (sCons (eV 3) sNil))))
def law_fault_E38 : SE := (eV 3)
def law_fault_T16 : ST := (bOf (eOp sNeA (eCP law_at_s (sCons (eV 1) (sCons (eV 4) sNil))) (eOp sIx (eV 0) (eV 4))))
def law_fault_E16 : SE := (eV 4)
def law_fault_b : SS :=
  (sSeq (sIf (bOr (bNot (bTru (eIsi "tuple" (eV 1)))) (bOf (eOp sNeA (eLc (iSeq (eV 1)) [3] (gN 3) law_fault_T38 law_fault_E38) (eLst sNil))))
  (sRet (eTup (sCons (eC (.str "form")) sNil)))
  sNext)
  (sSeq (sIf (bAnd (bOf (eOp sNeA (eV 1) (eTup sNil))) (bOf (eOp sEqA (eOp sIx (eV 1) (eNeg (eC (.int 1)))) (eC (.int 0)))))
  (sRet (eTup (sCons (eC (.str "form")) sNil)))
  sNext)
  (sSeq (sIf (bOf (eOp sGt (eCB sLenD (sCons (eV 1) sNil)) (eCB sLenD (sCons (eV 0) sNil))))
  (sRet (eTup (sCons (eC (.str "long")) (sCons (eCB sLenD (sCons (eV 0) sNil)) sNil))))
  sNext)
  (sSeq (sAsg 2 (eLc (iRange1 (eCB sLenD (sCons (eV 0) sNil))) [4] (gN 4) law_fault_T16 law_fault_E16))
  (sRet (eIf (bOf (eOp sNeA (eV 2) (eLst sNil))) (eTup (sCons (eC (.str "at")) (sCons (eOp sIx (eV 2) (eC (.int 0))) (sCons (eOp sIx (eV 0) (eOp sIx (eV 2) (eC (.int 0)))) sNil)))) (eC .none)))))))
def law_fault_s : List D → Option D := runP 5 law_fault_b
def all_lots_E59 : SE := (eTupS (sStar (eV 5) (sCons (eV 7) sNil)))
def all_lots_L15 : SS := (sSeq (sAsg 6 (eIf (bOf (eOp sNeA (eV 5) (eTup sNil))) (eOp sAdd (eOp sIx (eV 5) (eNeg (eC (.int 1)))) (eC (.int 1))) (eC (.int 0))))
  (sExt 4 (eLc (iRange2 (eV 6) (eV 0)) [7] (gN 7) bYes all_lots_E59)))
def all_lots_L4 : SS := (sSeq (sAsg 4 (eLst sNil))
  (sSeq (sFor (iSeq (eV 2)) (gN 5) all_lots_L15)
  (sAsg 2 (eCut (eV 4) oNone oNone))))
def all_lots_b : SS :=
  (sSeq (sIf (bOf (eOp sGt (eV 1) (eV 0)))
  (sRet (eLst sNil))
  sNext)
  (sSeq (sAsg 2 (eLst (sCons (eTup sNil) sNil)))
  (sSeq (sFor (iRange1 (eV 1)) (gN 3) all_lots_L4)
  (sRet (eV 2)))))
def all_lots_s : List D → Option D := runP 8 all_lots_b
def copies_of_E37 : SE := (eOp sIx (eV 1) (eV 4))
def copies_of_T14 : ST := (bOf (eOp sEqA (eCP parting_of_s (sCons (eLc (iSeq (eV 3)) [4] (gN 4) bYes copies_of_E37) sNil)) (eV 0)))
def copies_of_E14 : SE := (eV 3)
def copies_of_b : SS :=
  (sSeq (sAsg 2 (eCP all_lots_s (sCons (eCB sLenD (sCons (eV 1) sNil)) (sCons (eCB sLenD (sCons (eV 0) sNil)) sNil))))
  (sRet (eCB sTuple (sCons (eLc (iSeq (eV 2)) [3] (gN 3) copies_of_T14 copies_of_E14) sNil))))
def copies_of_s : List D → Option D := runP 5 copies_of_b
def judge_copies_E96 : SE := (eIsi "tuple" (eV 6))
def judge_copies_E125 : SE := (eCP is_integer_s (sCons (eV 7) sNil))
def judge_copies_E63 : SE := (eCB sAll (sCons (eLc (iSeq (eV 6)) [7] (gN 7) bYes judge_copies_E125) sNil))
def judge_copies_T20 : ST := (bOf (eOp sNi (eV 6) (eV 3)))
def judge_copies_E20 : SE := (eV 6)
def judge_copies_T24 : ST := (bOf (eOp sNi (eV 6) (eV 2)))
def judge_copies_E24 : SE := (eV 6)
def judge_copies_b : SS :=
  (sSeq (sIf (bOr (bNot (bTru (eIsi "tuple" (eV 2)))) (bNot (bTru (eCB sAll (sCons (eLc (iSeq (eV 2)) [6] (gN 6) bYes judge_copies_E96) sNil)))))
  (sRet (eTup (sCons (eC (.str "form")) sNil)))
  sNext)
  (sSeq (sIf (bNot (bTru (eCB sAll (sCons (eLc (iSeq (eV 2)) [6] (gN 6) bYes judge_copies_E63) sNil))))
  (sRet (eTup (sCons (eC (.str "form")) sNil)))
  sNext)
  (sSeq (sAsg 3 (eCP copies_of_s (sCons (eV 0) (sCons (eV 1) sNil))))
  (sSeq (sAsg 4 (eLc (iSeq (eV 2)) [6] (gN 6) judge_copies_T20 judge_copies_E20))
  (sSeq (sIf (bOf (eOp sNeA (eV 4) (eLst sNil)))
  (sRet (eTup (sCons (eC (.str "wrong")) (sCons (eOp sIx (eV 4) (eC (.int 0))) sNil))))
  sNext)
  (sSeq (sAsg 5 (eLc (iSeq (eV 3)) [6] (gN 6) judge_copies_T24 judge_copies_E24))
  (sSeq (sIf (bOf (eOp sNeA (eV 5) (eLst sNil)))
  (sRet (eTup (sCons (eC (.str "lacking")) (sCons (eOp sIx (eV 5) (eC (.int 0))) sNil))))
  sNext)
  (sRet (eIf (bOf (eOp sNeA (eV 2) (eV 3))) (eTup (sCons (eC (.str "sequence")) sNil)) (eC .none))))))))))
def judge_copies_s : List D → Option D := runP 8 judge_copies_b
def law_bent_v2_b (self_ : List D → M D) : SS :=
  (sSeq (sIf (bAnd (bTru (eIsi "int" (eV 1))) (bAnd (bNot (bTru (eIsi "bool" (eV 1)))) (bOf (eOp sGt (eCD law_pick_s (sCons (eC (.int 3)) sNil)) (eC (.int 0))))))
  (sRet (eOp sAdd (eV 1) (eCD law_of_s (sCons (eLst (sCons (eC (.int 1)) (sCons (eNeg (eC (.int 1))) (sCons (eC (.int 2)) sNil)))) sNil))))
  sNext)
  (sSeq (sIf (bOr (bNot (bTru (eIsi "tuple" (eV 1)))) (bOr (bOf (eOp sEqA (eV 1) (eTup sNil))) (bOf (eOp sEqA (eCD law_pick_s (sCons (eC (.int 7)) sNil)) (eC (.int 0))))))
  (sRet (eCD law_of_s (sCons (eV 2) sNil)))
  sNext)
  (sSeq (sPar 3 4 (eCD law_pick_s (sCons (eCB sLenD (sCons (eV 1) sNil)) sNil)) (eCD law_pick_s (sCons (eC (.int 8)) sNil)))
  (sSeq (sIf (bOf (eOp sLt (eV 4) (eC (.int 5))))
  (sRet (eOp sAdd (eOp sAdd (eCut (eV 1) oNone (oInt (eV 3))) (eTup (sCons (eCD self_ (sCons (eOp sIx (eV 1) (eV 3)) (sCons (eV 2) sNil))) sNil))) (eCut (eV 1) (oInt (eOp sAdd (eV 3) (eC (.int 1)))) oNone)))
  sNext)
  (sRet (eOp sIx (eLst (sCons (eOp sAdd (eCut (eV 1) oNone (oInt (eV 3))) (eCut (eV 1) (oInt (eOp sAdd (eV 3) (eC (.int 1)))) oNone)) (sCons (eOp sAdd (eCut (eV 1) oNone (oInt (eOp sAdd (eV 3) (eC (.int 1))))) (eCut (eV 1) (oInt (eV 3)) oNone)) (sCons (eCB sList (sCons (eV 1) sNil)) sNil)))) (eOp sSub (eV 4) (eC (.int 5)))))))))
def law_bent_v2_f : Nat → List D → M D
  | 0 => fun _ _ => none
  | n + 1 => runD 5 (law_bent_v2_b (law_bent_v2_f n))
def law_bent_v2_s : List D → M D := law_bent_v2_f 4
def law_deep_L3 : SS := (sAsg 2 (eIf (bOf (eOp sEqA (eCD law_pick_s (sCons (eC (.int 5)) sNil)) (eC (.int 0)))) (eLst (sCons (eV 2) sNil)) (eTup (sCons (eV 2) sNil))))
def law_deep_b : SS :=
  (sSeq (sAsg 2 (eCD law_of_s (sCons (eV 1) sNil)))
  (sSeq (sFor (iRange1 (eC (.int 34))) (gN 3) law_deep_L3)
  (sRet (eV 2))))
def law_deep_s : List D → M D := runD 4 law_deep_b
def law_of_labels_L3 : SS := (sIf (bOf (eOp sNi (eV 2) (eV 1)))
  (sApp 1 (eV 2))
  sNext)
def law_of_labels_E19 : SE := (eOp sIdx (eV 1) (eV 2))
def law_of_labels_b : SS :=
  (sSeq (sAsg 1 (eLst sNil))
  (sSeq (sFor (iSeq (eV 0)) (gN 2) law_of_labels_L3)
  (sRet (eCB sTuple (sCons (eLc (iSeq (eV 0)) [2] (gN 2) bYes law_of_labels_E19) sNil)))))
def law_of_labels_s : List D → Option D := runP 3 law_of_labels_b
def law_parting_E7 : SE := (eCD law_pick_s (sCons (eOp sAdd (eC (.int 1)) (eCD law_pick_s (sCons (eV 1) sNil))) sNil))
def law_parting_b : SS :=
  (sRet (eCP law_of_labels_s (sCons (eLc (iRange1 (eV 1)) [2] (gN 2) bYes law_parting_E7) sNil)))
def law_parting_s : List D → M D := runD 3 law_parting_b
def law_choices_T41 : ST := (bOr (bOf (eOp sEqA (eV 5) (eTup sNil))) (bOf (eOp sGt (eV 6) (eOp sIx (eV 5) (eNeg (eC (.int 1)))))))
def law_choices_E41 : SE := (eOp sAdd (eV 5) (eTup (sCons (eV 6) sNil)))
def law_choices_L12 : SS := (sExt 4 (eLc (iRange1 (eV 0)) [6] (gN 6) law_choices_T41 law_choices_E41))
def law_choices_L3 : SS := (sSeq (sAsg 4 (eLst sNil))
  (sSeq (sFor (iSeq (eV 2)) (gN 5) law_choices_L12)
  (sAsg 2 (eCB sList (sCons (eV 4) sNil)))))
def law_choices_b : SS :=
  (sSeq (sAsg 2 (eLst (sCons (eTup sNil) sNil)))
  (sSeq (sFor (iRange1 (eV 1)) (gN 3) law_choices_L3)
  (sRet (eV 2))))
def law_choices_s : List D → Option D := runP 7 law_choices_b
def law_left_E7 : SE := (eOp sIx (eV 0) (eV 2))
def law_left_b : SS :=
  (sRet (eCP law_of_labels_s (sCons (eLc (iSeq (eCB sSorted (sCons (eV 1) sNil))) [2] (gN 2) bYes law_left_E7) sNil)))
def law_left_s : List D → Option D := runP 3 law_left_b
def law_fault_v2_T45 : ST := (bNot (bTru (eIsi "tuple" (eV 2))))
def law_fault_v2_E45 : SE := (eV 2)
def law_fault_v2_T50 : ST := (bNot (bTru (eCP is_integer_s (sCons (eV 5) sNil))))
def law_fault_v2_E50 : SE := (eV 5)
def law_fault_v2_L3 : SS := (sIf (bOf (eOp sNeA (eLc (iSeq (eV 2)) [5] (gN 5) law_fault_v2_T50 law_fault_v2_E50) (eLst sNil)))
  (sRet (eTup (sCons (eC (.str "form")) sNil)))
  sNext)
def law_fault_v2_T16 : ST := (bOf (eOp sNi (eV 2) (eV 0)))
def law_fault_v2_E16 : SE := (eV 2)
def law_fault_v2_T18 : ST := (bOf (eOp sNi (eV 2) (eV 1)))
def law_fault_v2_E18 : SE := (eV 2)
def law_fault_v2_b : SS :=
  (sSeq (sIf (bOr (bNot (bTru (eIsi "tuple" (eV 1)))) (bOf (eOp sNeA (eLc (iSeq (eV 1)) [2] (gN 2) law_fault_v2_T45 law_fault_v2_E45) (eLst sNil))))
  (sRet (eTup (sCons (eC (.str "form")) sNil)))
  sNext)
  (sSeq (sFor (iSeq (eV 1)) (gN 2) law_fault_v2_L3)
  (sSeq (sAsg 3 (eLc (iSeq (eV 1)) [2] (gN 2) law_fault_v2_T16 law_fault_v2_E16))
  (sSeq (sAsg 4 (eLc (iSeq (eV 0)) [2] (gN 2) law_fault_v2_T18 law_fault_v2_E18))
  (sSeq (sIf (bOr (bOf (eOp sNeA (eV 3) (eLst sNil))) (bOf (eOp sNeA (eV 4) (eLst sNil))))
  (sRet (eIf (bOf (eOp sNeA (eV 3) (eLst sNil))) (eTup (sCons (eC (.str "wrong")) (sCons (eOp sIx (eV 3) (eC (.int 0))) sNil))) (eTup (sCons (eC (.str "lacking")) (sCons (eOp sIx (eV 4) (eC (.int 0))) sNil)))))
  sNext)
  (sRet (eIf (bOf (eOp sNeA (eV 1) (eV 0))) (eTup (sCons (eC (.str "sequence")) sNil)) (eC .none))))))))
def law_fault_v2_s : List D → Option D := runP 6 law_fault_v2_b
def counts_of_E45 : SE := (eOp sIx (eV 0) (eV 6))
def counts_of_L11 : SS := (sSeq (sAsg 5 (eCP parting_of_s (sCons (eLc (iSeq (eV 4)) [6] (gN 6) bYes counts_of_E45) sNil)))
  (sPutD 2 (eOp sAdd (eGet2 (eV 2) (eV 5) (eC (.int 0))) (eC (.int 1))) (eV 5)))
def counts_of_L3 : SS := (sFor (iSeq (eCP all_lots_s (sCons (eCB sLenD (sCons (eV 0) sNil)) (sCons (eV 3) sNil)))) (gN 4) counts_of_L11)
def counts_of_E22 : SE := (eTup (sCons (eV 5) (sCons (eOp sIxA (eV 2) (eV 5)) sNil)))
def counts_of_b : SS :=
  (sSeq (sAsg 2 eDict0)
  (sSeq (sFor (iRange1 (eOp sAdd (eV 1) (eC (.int 1)))) (gN 3) counts_of_L3)
  (sRet (eCB sTuple (sCons (eLc (iSeq (eCB sSorted (sCons (eV 2) sNil))) [5] (gN 5) bYes counts_of_E22) sNil)))))
def counts_of_s : List D → Option D := runP 7 counts_of_b
def count_of_b : SS :=
  (sRet (eCB sLenD (sCons (eCP copies_of_s (sCons (eV 0) (sCons (eV 1) sNil))) sNil)))
def count_of_s : List D → Option D := runP 2 count_of_b
def form_worth_E7 : SE := (eOp sMul (eV 3) (eCP count_of_s (sCons (eV 2) (sCons (eV 1) sNil))))
def form_worth_b : SS :=
  (sRet (eCB sSum (sCons (eLc (iSeq (eV 0)) [2, 3] (gT 2 (gsC (gN 2) (gsC (gN 3) gsN))) bYes form_worth_E7) sNil)))
def form_worth_s : List D → Option D := runP 4 form_worth_b
def turned_b : SS :=
  (sRet (eCP parting_of_s (sCons (eRevA (eV 0)) sNil)))
def turned_s : List D → Option D := runP 1 turned_b
def form_of_pairs_L3 : SS := (sPutD 1 (eOp sAdd (eGet2 (eV 1) (eV 2) (eC (.int 0))) (eV 3)) (eV 2))
def form_of_pairs_T20 : ST := (bOf (eOp sNeA (eOp sIxA (eV 1) (eV 2)) (eC (.int 0))))
def form_of_pairs_E20 : SE := (eTup (sCons (eV 2) (sCons (eOp sIxA (eV 1) (eV 2)) sNil)))
def form_of_pairs_b : SS :=
  (sSeq (sAsg 1 eDict0)
  (sSeq (sFor (iSeq (eV 0)) (gT 2 (gsC (gN 2) (gsC (gN 3) gsN))) form_of_pairs_L3)
  (sRet (eCB sTuple (sCons (eLc (iSeq (eCB sSorted (sCons (eV 1) sNil))) [2] (gN 2) form_of_pairs_T20 form_of_pairs_E20) sNil)))))
def form_of_pairs_s : List D → Option D := runP 4 form_of_pairs_b
def cuts_of_E33 : SE := (eOp sIn (eV 3) (eCut (eV 0) (oInt (eV 2)) oNone))
def cuts_of_L3 : SS := (sIf (bNot (bTru (eCB sAny (sCons (eLc (iSeq (eCut (eV 0) oNone (oInt (eV 2)))) [3] (gN 3) bYes cuts_of_E33) sNil))))
  (sApp 1 (eV 2))
  sNext)
def cuts_of_b : SS :=
  (sSeq (sAsg 1 (eLst sNil))
  (sSeq (sFor (iRange1 (eOp sAdd (eCB sLenD (sCons (eV 0) sNil)) (eC (.int 1)))) (gN 2) cuts_of_L3)
  (sRet (eCB sTuple (sCons (eV 1) sNil)))))
def cuts_of_s : List D → Option D := runP 4 cuts_of_b
def cut_pairs_L10 : SS := (sApp 1 (eTup (sCons (eTup (sCons (eCut (eV 2) oNone (oInt (eV 4))) (sCons (eCP parting_of_s (sCons (eCut (eV 2) (oInt (eV 4)) oNone) sNil)) sNil))) (sCons (eV 3) sNil))))
def cut_pairs_L3 : SS := (sFor (iSeq (eCP cuts_of_s (sCons (eV 2) sNil))) (gN 4) cut_pairs_L10)
def cut_pairs_b : SS :=
  (sSeq (sAsg 1 (eLst sNil))
  (sSeq (sFor (iSeq (eV 0)) (gT 2 (gsC (gN 2) (gsC (gN 3) gsN))) cut_pairs_L3)
  (sRet (eCB sTuple (sCons (eCB sSorted (sCons (eV 1) sNil)) sNil)))))
def cut_pairs_s : List D → Option D := runP 5 cut_pairs_b
def law_pick_v2_b : SS :=
  (sSeq (sIf (bOf (eOp sLt (eV 1) (eC (.int 2))))
  (sRet (eC (.int 0)))
  sNext)
  (sSeq sPull
  (sSeq (sAsg 2 (eSrc G.left))
  (sSeq (sIf (bOf (eOp sGt (eV 2) (eC (.int 1))))
  (sSeq (sSrc (fun v g => { g with left := v }) (eOp sDiv (eV 2) (eV 1)))
  (sRet (eOp sMod (eCB sInt (sCons (eV 2) sNil)) (eV 1))))
  sNext)
  (sSeq (sSrc (fun v g => { g with turn := v }) (eOp sAdd (eSrc G.turn) (eC (.int 1))))
  (sSeq (sAsg 3 (eOp sMod (eCB sInt (sCons (eOp sAdd (eSrc G.mixed) (eOp sMul (eSrc G.turn) (eC (.int 92821)))) sNil)) (eC (.int 998244353))))
  (sSeq (sAsg 3 (eOp sMod (eCB sInt (sCons (eOp sAdd (eOp sMul (eV 3) (eV 3)) (eOp sMul (eSrc G.turn) (eC (.int 29)))) sNil)) (eC (.int 2147483647))))
  (sRet (eOp sMod (eCB sInt (sCons (eOp sDiv (eV 3) (eC (.int 16))) sNil)) (eV 1))))))))))
def law_pick_v2_s : List D → M D := runD 4 law_pick_v2_b
def law_parting_v2_E50 : SE := (eTup (sCons (eV 4) (sCons (eC (.int 0)) sNil)))
def law_parting_v2_L3 : SS := (sApp 2 (eCD law_pick_v2_s (sCons (eOp sAdd (eCB sLenD (sCons (eCB sDict (sCons (eLc (iSeq (eV 2)) [4] (gN 4) bYes law_parting_v2_E50) sNil)) sNil)) (eC (.int 1))) sNil)))
def law_parting_v2_b : SS :=
  (sSeq (sAsg 2 (eLst sNil))
  (sSeq (sFor (iRange1 (eCD law_pick_v2_s (sCons (eOp sAdd (eV 1) (eC (.int 1))) sNil))) (gN 3) law_parting_v2_L3)
  (sRet (eCB sTuple (sCons (eV 2) sNil)))))
def law_parting_v2_s : List D → M D := runD 5 law_parting_v2_b
def law_numbered_L3 : SS := (sIf (bOf (eOp sNi (eV 2) (eV 1)))
  (sApp 1 (eV 2))
  sNext)
def law_numbered_E19 : SE := (eOp sIdx (eV 1) (eV 2))
def law_numbered_b : SS :=
  (sSeq (sAsg 1 (eLst sNil))
  (sSeq (sFor (iSeq (eV 0)) (gN 2) law_numbered_L3)
  (sRet (eCB sTuple (sCons (eLc (iSeq (eV 0)) [2] (gN 2) bYes law_numbered_E19) sNil)))))
def law_numbered_s : List D → Option D := runP 3 law_numbered_b
def law_chosen_E44 : SE := (eOp sAdd (eV 5) (eTup (sCons (eV 6) sNil)))
def law_chosen_L12 : SS := (sAsg 4 (eOp sAdd (eV 4) (eLc (iRange2 (eIf (bOf (eOp sNeA (eV 5) (eTup sNil))) (eOp sAdd (eOp sIx (eV 5) (eNeg (eC (.int 1)))) (eC (.int 1))) (eC (.int 0))) (eV 0)) [6] (gN 6) bYes law_chosen_E44)))
def law_chosen_L3 : SS := (sSeq (sAsg 4 (eLst sNil))
  (sSeq (sFor (iSeq (eV 2)) (gN 5) law_chosen_L12)
  (sAsg 2 (eCB sList (sCons (eV 4) sNil)))))
def law_chosen_b : SS :=
  (sSeq (sAsg 2 (eLst (sCons (eTup sNil) sNil)))
  (sSeq (sFor (iRange1 (eV 1)) (gN 3) law_chosen_L3)
  (sRet (eV 2))))
def law_chosen_s : List D → Option D := runP 7 law_chosen_b
def law_count_E42 : SE := (eOp sIx (eV 1) (eV 4))
def law_count_L3 : SS := (sAsg 2 (eOp sAdd (eV 2) (eIf (bOf (eOp sEqA (eCP law_numbered_s (sCons (eLc (iSeq (eV 3)) [4] (gN 4) bYes law_count_E42) sNil)) (eV 0))) (eC (.int 1)) (eC (.int 0)))))
def law_count_b : SS :=
  (sSeq (sAsg 2 (eC (.int 0)))
  (sSeq (sFor (iSeq (eCP law_chosen_s (sCons (eCB sLenD (sCons (eV 1) sNil)) (sCons (eCB sLenD (sCons (eV 0) sNil)) sNil)))) (gN 3) law_count_L3)
  (sRet (eV 2))))
def law_count_s : List D → Option D := runP 5 law_count_b
def law_form_worth_E7 : SE := (eOp sMul (eV 3) (eCP law_count_s (sCons (eV 2) (sCons (eV 1) sNil))))
def law_form_worth_b : SS :=
  (sRet (eCB sSum (sCons (eLc (iSeq (eV 0)) [2, 3] (gT 2 (gsC (gN 2) (gsC (gN 3) gsN))) bYes law_form_worth_E7) sNil)))
def law_form_worth_s : List D → Option D := runP 4 law_form_worth_b
def law_of_v2_b : SS :=
  (sRet (eOp sIx (eV 1) (eCD law_pick_v2_s (sCons (eCB sLenD (sCons (eV 1) sNil)) sNil))))
def law_of_v2_s : List D → M D := runD 2 law_of_v2_b
def law_form_L3 : SS := (sPutD 2 (eCD law_of_v2_s (sCons (eLst (sCons (eC (.int 1)) (sCons (eNeg (eC (.int 1))) (sCons (eC (.int 2)) (sCons (eNeg (eC (.int 3))) (sCons (eOp sPow (eC (.int 10)) (eC (.int 20))) sNil)))))) sNil)) (eCD law_parting_v2_s (sCons (eV 1) sNil)))
def law_form_E20 : SE := (eTup (sCons (eV 4) (sCons (eOp sIxA (eV 2) (eV 4)) sNil)))
def law_form_b : SS :=
  (sSeq (sAsg 2 eDict0)
  (sSeq (sFor (iRange1 (eCD law_pick_v2_s (sCons (eC (.int 6)) sNil))) (gN 3) law_form_L3)
  (sRet (eCB sTuple (sCons (eLc (iSeq (eCB sSorted (sCons (eV 2) sNil))) [4] (gN 4) bYes law_form_E20) sNil)))))
def law_form_s : List D → M D := runD 5 law_form_b
def law_joined_E17 : SE := (eTup (sCons (eV 3) (sCons (eC (.int 0)) sNil)))
def law_joined_E20 : SE := (eOp sAdd (eV 3) (eV 2))
def law_joined_b : SS :=
  (sSeq (sAsg 2 (eCB sLenD (sCons (eCB sDict (sCons (eLc (iSeq (eV 0)) [3] (gN 3) bYes law_joined_E17) sNil)) sNil)))
  (sRet (eOp sAdd (eV 0) (eCB sTuple (sCons (eLc (iSeq (eV 1)) [3] (gN 3) bYes law_joined_E20) sNil)))))
def law_joined_s : List D → Option D := runP 4 law_joined_b
def law_cuts_T24 : ST := (bOf (eOp sIn (eV 3) (eCut (eV 0) (oInt (eV 2)) oNone)))
def law_cuts_E24 : SE := (eV 3)
def law_cuts_L3 : SS := (sIf (bOf (eOp sEqA (eLc (iSeq (eCut (eV 0) oNone (oInt (eV 2)))) [3] (gN 3) law_cuts_T24 law_cuts_E24) (eLst sNil)))
  (sApp 1 (eV 2))
  sNext)
def law_cuts_b : SS :=
  (sSeq (sAsg 1 (eLst sNil))
  (sSeq (sFor (iRange1 (eOp sAdd (eCB sLenD (sCons (eV 0) sNil)) (eC (.int 1)))) (gN 2) law_cuts_L3)
  (sRet (eV 1))))
def law_cuts_s : List D → Option D := runP 4 law_cuts_b
def form_sum_b : SS :=
  (sRet (eCP form_of_pairs_s (sCons (eLstS (sStar (eV 0) (sStar (eV 1) sNil))) sNil)))
def form_sum_s : List D → Option D := runP 2 form_sum_b
def partings_of_E57 : SE := (eTupS (sStar (eV 4) (sCons (eV 5) sNil)))
def partings_of_L14 : SS := (sExt 3 (eLc (iRange1 (eOp sAdd (eMaxD (eV 4) (eNeg (eC (.int 1)))) (eC (.int 2)))) [5] (gN 5) bYes partings_of_E57))
def partings_of_L4 : SS := (sSeq (sAsg 3 (eLst sNil))
  (sSeq (sFor (iSeq (eV 1)) (gN 4) partings_of_L14)
  (sAsg 1 (eCut (eV 3) oNone oNone))))
def partings_of_b : SS :=
  (sSeq (sIf (bOf (eOp sGt (eV 0) (eC (.int 7))))
  sBad
  sNext)
  (sSeq (sAsg 1 (eLst (sCons (eTup sNil) sNil)))
  (sSeq (sFor (iRange1 (eV 0)) (gN 2) partings_of_L4)
  (sRet (eCB sTuple (sCons (eV 1) sNil))))))
def partings_of_s : List D → Option D := runP 6 partings_of_b
def little_partings_L4 : SS := (sExt 1 (eCP partings_of_s (sCons (eV 2) sNil)))
def little_partings_b : SS :=
  (sSeq (sIf (bOf (eOp sGt (eV 0) (eC (.int 4))))
  sBad
  sNext)
  (sSeq (sAsg 1 (eLst sNil))
  (sSeq (sFor (iRange1 (eOp sAdd (eV 0) (eC (.int 1)))) (gN 2) little_partings_L4)
  (sRet (eCB sTuple (sCons (eV 1) sNil))))))
def little_partings_s : List D → Option D := runP 3 little_partings_b
def by_size_E10 : SE := (eTup (sCons (eCB sLenD (sCons (eV 2) sNil)) (sCons (eV 2) sNil)))
def by_size_E7 : SE := (eV 2)
def by_size_b : SS :=
  (sSeq (sAsg 1 (eCB sSorted (sCons (eLc (iSeq (eV 0)) [2] (gN 2) bYes by_size_E10) sNil)))
  (sRet (eLc (iSeq (eV 1)) [3, 2] (gT 2 (gsC (gN 3) (gsC (gN 2) gsN))) bYes by_size_E7)))
def by_size_s : List D → Option D := runP 4 by_size_b
def form_scaled_E7 : SE := (eTup (sCons (eV 2) (sCons (eOp sMul (eV 0) (eV 3)) sNil)))
def form_scaled_b : SS :=
  (sRet (eCP form_of_pairs_s (sCons (eLc (iSeq (eV 1)) [2, 3] (gT 2 (gsC (gN 2) (gsC (gN 3) gsN))) bYes form_scaled_E7) sNil)))
def form_scaled_s : List D → Option D := runP 4 form_scaled_b
def form_less_b : SS :=
  (sRet (eCP form_sum_s (sCons (eV 0) (sCons (eCP form_scaled_s (sCons (eNeg (eC (.int 1))) (sCons (eV 1) sNil))) sNil))))
def form_less_s : List D → Option D := runP 2 form_less_b
def first_unlike_E11 : SE := (eV 3)
def first_unlike_b : SS :=
  (sSeq (sAsg 2 (eCP by_size_s (sCons (eLc (iSeq (eCP form_less_s (sCons (eV 0) (sCons (eV 1) sNil)))) [3, 4] (gT 2 (gsC (gN 3) (gsC (gN 4) gsN))) bYes first_unlike_E11) sNil)))
  (sRet (eIf (bOf (eOp sGt (eCB sLenD (sCons (eV 2) sNil)) (eC (.int 0)))) (eOp sIx (eV 2) (eC (.int 0))) (eC .none))))
def first_unlike_s : List D → Option D := runP 5 first_unlike_b
def law_partings_E40 : SE := (eOp sAdd (eV 4) (eTup (sCons (eV 5) sNil)))
def law_partings_L11 : SS := (sExt 3 (eLc (iRange1 (eOp sAdd (eCB sMax1 (sCons (eOp sAdd (eV 4) (eTup (sCons (eNeg (eC (.int 1))) sNil))) sNil)) (eC (.int 2)))) [5] (gN 5) bYes law_partings_E40))
def law_partings_L3 : SS := (sSeq (sAsg 3 (eLst sNil))
  (sSeq (sFor (iSeq (eV 1)) (gN 4) law_partings_L11)
  (sAsg 1 (eCB sList (sCons (eV 3) sNil)))))
def law_partings_b : SS :=
  (sSeq (sAsg 1 (eLst (sCons (eTup sNil) sNil)))
  (sSeq (sFor (iRange1 (eV 0)) (gN 2) law_partings_L3)
  (sRet (eV 1))))
def law_partings_s : List D → Option D := runP 6 law_partings_b
def law_little_L3 : SS := (sAsg 1 (eOp sAdd (eV 1) (eCP law_partings_s (sCons (eV 2) sNil))))
def law_little_b : SS :=
  (sSeq (sAsg 1 (eLst sNil))
  (sSeq (sFor (iRange1 (eOp sAdd (eV 0) (eC (.int 1)))) (gN 2) law_little_L3)
  (sRet (eV 1))))
def law_little_s : List D → Option D := runP 3 law_little_b
def law_left_v2_L3 : SS := (sPutD 2 (eGet2 (eV 2) (eOp sIx (eV 0) (eV 3)) (eCB sLenD (sCons (eV 2) sNil))) (eOp sIx (eV 0) (eV 3)))
def law_left_v2_E19 : SE := (eOp sIxA (eV 2) (eOp sIx (eV 0) (eV 3)))
def law_left_v2_b : SS :=
  (sSeq (sAsg 2 eDict0)
  (sSeq (sFor (iSeq (eV 1)) (gN 3) law_left_v2_L3)
  (sRet (eCB sTuple (sCons (eLc (iSeq (eV 1)) [3] (gN 3) bYes law_left_v2_E19) sNil)))))
def law_left_v2_s : List D → Option D := runP 4 law_left_v2_b
def law_lots_T41 : ST := (bOr (bOf (eOp sEqA (eV 5) (eTup sNil))) (bOf (eOp sGt (eV 6) (eOp sIx (eV 5) (eNeg (eC (.int 1)))))))
def law_lots_E41 : SE := (eOp sAdd (eV 5) (eTup (sCons (eV 6) sNil)))
def law_lots_L12 : SS := (sExt 4 (eLc (iRange1 (eV 0)) [6] (gN 6) law_lots_T41 law_lots_E41))
def law_lots_L3 : SS := (sSeq (sAsg 4 (eLst sNil))
  (sSeq (sFor (iSeq (eV 2)) (gN 5) law_lots_L12)
  (sAsg 2 (eCB sList (sCons (eV 4) sNil)))))
def law_lots_b : SS :=
  (sSeq (sAsg 2 (eLst (sCons (eTup sNil) sNil)))
  (sSeq (sFor (iRange1 (eV 1)) (gN 3) law_lots_L3)
  (sRet (eV 2))))
def law_lots_s : List D → Option D := runP 7 law_lots_b
def law_worth_E48 : SE := (eCB sLenD (sCons (eV 5) sNil))
def law_worth_E44 : SE := (eGet2 (eV 3) (eCP law_left_v2_s (sCons (eV 1) (sCons (eV 6) sNil))) (eC (.int 0)))
def law_worth_L3 : SS := (sAsg 2 (eOp sAdd (eV 2) (eCB sSum (sCons (eLc (iSeq (eCP law_lots_s (sCons (eCB sLenD (sCons (eV 1) sNil)) (sCons (eV 4) sNil)))) [6] (gN 6) bYes law_worth_E44) sNil))))
def law_worth_b : SS :=
  (sSeq (sAsgT (eTup (sCons (eC (.int 0)) (sCons (eCB sDict (sCons (eCB sList (sCons (eV 0) sNil)) sNil)) sNil))) (gT 2 (gsC (gN 2) (gsC (gN 3) gsN))))
  (sSeq (sFor (iRange1 (eOp sAdd (eCB sMax1 (sCons (eOp sAdd (eLc (iSeq (eV 3)) [5] (gN 5) bYes law_worth_E48) (eLst (sCons (eC (.int 0)) sNil))) sNil)) (eC (.int 1)))) (gN 4) law_worth_L3)
  (sRet (eV 2))))
def law_worth_s : List D → Option D := runP 7 law_worth_b
def law_drawn_parting_L3 : SS := (sAsg 2 (eOp sAdd (eV 2) (eTup (sCons (eCD law_pick_s (sCons (eOp sAdd (eCB sMax1 (sCons (eOp sAdd (eV 2) (eTup (sCons (eNeg (eC (.int 1))) sNil))) sNil)) (eC (.int 2))) sNil)) sNil))))
def law_drawn_parting_b : SS :=
  (sSeq (sAsg 2 (eTup sNil))
  (sSeq (sFor (iRange1 (eV 1)) (gN 3) law_drawn_parting_L3)
  (sRet (eV 2))))
def law_drawn_parting_s : List D → M D := runD 4 law_drawn_parting_b
def law_form_v2_L3 : SS := (sSeq (sAsg 5 (eCD law_drawn_parting_s (sCons (eCD law_pick_s (sCons (eOp sAdd (eV 1) (eC (.int 1))) sNil)) sNil)))
  (sPutD 3 (eCD law_of_s (sCons (eLst (sCons (eC (.int 1)) (sCons (eNeg (eC (.int 1))) (sCons (eC (.int 2)) (sCons (eC (.int 3)) (sCons (eNeg (eC (.int 4))) (sCons (eC (.int 6)) (sCons (eOp sPow (eC (.int 10)) (eC (.int 12))) sNil)))))))) sNil)) (eV 5)))
def law_form_v2_E24 : SE := (eTup (sCons (eV 5) (sCons (eOp sIxA (eV 3) (eV 5)) sNil)))
def law_form_v2_b : SS :=
  (sSeq (sAsg 3 eDict0)
  (sSeq (sFor (iRange1 (eCD law_pick_s (sCons (eOp sAdd (eV 2) (eC (.int 1))) sNil))) (gN 4) law_form_v2_L3)
  (sRet (eCB sTuple (sCons (eLc (iSeq (eCB sSorted (sCons (eV 3) sNil))) [5] (gN 5) bYes law_form_v2_E24) sNil)))))
def law_form_v2_s : List D → M D := runD 6 law_form_v2_b
def alike_answer_b : SS :=
  (sSeq (sAsg 2 (eCP first_unlike_s (sCons (eV 0) (sCons (eV 1) sNil))))
  (sSeq (sIf (bOf (eOp sIsN (eV 2) (eC .none)))
  (sRet (eTup (sCons (eC (.str "alike")) (sCons (eV 0) sNil))))
  sNext)
  (sRet (eTup (sCons (eC (.str "unlike")) (sCons (eV 2) (sCons (eCP form_worth_s (sCons (eV 0) (sCons (eV 2) sNil))) (sCons (eCP form_worth_s (sCons (eV 1) (sCons (eV 2) sNil))) sNil))))))))
def alike_answer_s : List D → Option D := runP 3 alike_answer_b
def alike_to_b : SS :=
  (sSeq (sAsg 2 (eCP first_unlike_s (sCons (eV 0) (sCons (eV 1) sNil))))
  (sRet (eIf (bOf (eOp sIsN (eV 2) (eC .none))) (eC .none) (eOp sSub (eCB sLenD (sCons (eV 2) sNil)) (eC (.int 1))))))
def alike_to_s : List D → Option D := runP 3 alike_to_b
def content_of_L3 : SS := (sAsg 1 (eCB sGcd (sCons (eV 1) (sCons (eV 3) sNil))))
def content_of_b : SS :=
  (sSeq (sAsg 1 (eC (.int 0)))
  (sSeq (sFor (iSeq (eV 0)) (gT 2 (gsC (gN 2) (gsC (gN 3) gsN))) content_of_L3)
  (sRet (eV 1))))
def content_of_s : List D → Option D := runP 4 content_of_b
def rest_form_E7 : SE := (eTup (sCons (eV 2) (sCons (eOp sMod (eV 3) (eV 1)) sNil)))
def rest_form_b : SS :=
  (sRet (eCP form_of_pairs_s (sCons (eLc (iSeq (eV 0)) [2, 3] (gT 2 (gsC (gN 2) (gsC (gN 3) gsN))) bYes rest_form_E7) sNil)))
def rest_form_s : List D → Option D := runP 4 rest_form_b
def by_answer_E48 : SE := (eTup (sCons (eV 3) (sCons (eOp sDiv (eV 4) (eV 1)) sNil)))
def by_answer_b : SS :=
  (sSeq (sAsg 2 (eCB sDict (sCons (eCP rest_form_s (sCons (eV 0) (sCons (eV 1) sNil))) sNil)))
  (sSeq (sIf (bOf (eOp sEqA (eV 2) eDict0))
  (sRet (eTup (sCons (eC (.str "divides")) (sCons (eCP form_of_pairs_s (sCons (eLc (iSeq (eV 0)) [3, 4] (gT 2 (gsC (gN 3) (gsC (gN 4) gsN))) bYes by_answer_E48) sNil)) sNil))))
  sNext)
  (sSeq (sAsg 3 (eOp sIx (eCP by_size_s (sCons (eCB sList (sCons (eV 2) sNil)) sNil)) (eC (.int 0))))
  (sRet (eTup (sCons (eC (.str "leaves")) (sCons (eV 3) (sCons (eOp sIxA (eV 2) (eV 3)) sNil))))))))
def by_answer_s : List D → Option D := runP 5 by_answer_b
def law_greatest_C11 : ST := (bOf (eOp sGt (eV 3) (eC (.int 0))))
def law_greatest_L11 : SS := (sPar 1 3 (eV 3) (eOp sMod (eCB sInt (sCons (eV 1) sNil)) (eV 3)))
def law_greatest_L3 : SS := (sSeq (sPar 1 3 (eCB sAbs (sCons (eV 2) sNil)) (eV 1))
  (sWhile law_greatest_C11 law_greatest_L11))
def law_greatest_b : SS :=
  (sSeq (sAsg 1 (eC (.int 0)))
  (sSeq (sFor (iSeq (eV 0)) (gN 2) law_greatest_L3)
  (sRet (eV 1))))
def law_greatest_s : List D → Option D := runP 4 law_greatest_b
end PP

set_option Elab.async false
set_option linter.all false
set_option maxRecDepth 100000
set_option maxHeartbeats 4000000
namespace PP
open PySem PySem.Spec L2 Q
def isI : D → Bool
  | .int _ => true
  | _ => false
theorem m_isI (d : D) : is_integer_s [d] = some (.bool (isI d)) := by
  cases d <;> simp [is_integer_s, runP, is_integer_b, isA, tyD, isI]
theorem m_part (ls : List Int) (h : ls.length ≤ 1000) : parting_of_s [iT ls] = some (iT (partOf ls)) := by
  show sPart [iT ls] = _
  unfold sPart iT
  simp only [u_seqT, intsD_map, if_pos h]
theorem m_partL (ls : List Int) (h : ls.length ≤ 1000) : parting_of_s [.list (ls.map .int)] = some (iT (partOf ls)) := by
  show sPart [.list _] = _
  unfold sPart
  simp only [u_seqL, intsD_map, if_pos h]
theorem take_at {ls : List Int} {i : Nat} (h : i < ls.length) : ls.take (i + 1) = ls.take i ++ [ls[i]] := by
  rw [List.take_succ, List.getElem?_eq_getElem h]; rfl
theorem m_labels (ls : List Int) (h : ls.length ≤ 1000) : law_of_labels_s [.list (ls.map .int)] = some (iT (partOf ls)) := by
  obtain ⟨ρ', g', e, v2, rfl, rfl⟩ := for_inv (tgt := gN 2) (b := law_of_labels_L3) (ds := ls.map .int) (ρ := [some (iL ls), some (.list []), none]) (g := g0)
    (fun i ρ g => ∃ v2, ρ = [some (iL ls), some (iL (metOf (ls.take i))), v2] ∧ g = g0) ⟨none, rfl, rfl⟩ fun i d ρ g hd ⟨v2, e1, e2⟩ => by
      rw [List.getElem?_map] at hd
      have hi : i < ls.length := by
        rcases Nat.lt_or_ge i ls.length with q | q
        · exact q
        · rw [List.getElem?_eq_none q] at hd; cases hd
      rw [List.getElem?_eq_getElem hi] at hd
      cases hd
      subst e1 e2
      refine ⟨[some (iL ls), some (iL (metOf (ls.take i))), some (.int ls[i])], [some (iL ls), some (iL (metOf (ls.take (i + 1)))), some (.int ls[i])], g0, by simp, ?_, _, rfl, rfl⟩
      have q := ni_L (metOf (ls.take i)) ls[i]
      rw [take_at hi, metOf_snoc]
      have lz : (metOf (ls.take i)).length < sizeLine := by
        have := metOf_len (ls.take i)
        rw [List.length_take] at this
        rw [sizeLine_eq]; omega
      by_cases m : ls[i] ∈ metOf (ls.take i)
      · rw [if_pos m]
        rw [decide_eq_true m] at q
        simp [law_of_labels_L3, iL, q]
      · rw [if_neg m]
        rw [decide_eq_false m] at q
        simp [law_of_labels_L3, iL, q, lz]
  have len : (ls.map PyData.int).length = ls.length := List.length_map ..
  rw [len, List.take_length] at e
  have lc : lcGo (gN 2) bYes law_of_labels_E19 [some (iL ls), some (iL (metOf ls)), none] (ls.map .int) g0 = some ((partOf ls).map .int, g0) := by
    unfold partOf
    rw [List.map_map]
    refine lc_map ls (fun l => .int l) _ fun l hl => ⟨[some (iL ls), some (iL (metOf ls)), some (.int l)], by simp, ?_⟩
    have q := idx_L (mem_metOf hl)
    simp [law_of_labels_E19, iL, q]
  have lz : (partOf ls).length ≤ sizeLine := by rw [sizeLine_eq]; simp [partOf]; omega
  simp only [iL] at e lc
  simp [law_of_labels_s, runP, law_of_labels_b, iT, e, lc, lz]
/-! ### lots -/
theorem cutA (xs : List D) : cutD xs none none = xs := by simp [cutD, HT.sIx]
theorem m_lots (n k : Nat) (hn : n ≤ 1000) (hk : k ≤ 1000) (hz : ∀ j, j ≤ k → n ^ j ≤ 1000000) : all_lots_s [.int n, .int k] = some (.list (if n < k then [] else (lots n k).map nT)) := by
  by_cases c : n < k
  · have c' : (n : Int) < (k : Int) := by omega
    rw [if_pos c]
    simp [all_lots_s, runP, all_lots_b, c']
  · rw [if_neg c]
    have c' : ¬ (n : Int) < (k : Int) := by omega
    obtain ⟨⟨v3, v4, v5, v6, v7⟩, e⟩ := for_turn (tg := gN 3) (b := all_lots_L4) (g := g0) k (fun (s : List (List Nat)) (j : Option D × Option D × Option D × Option D × Option D) => [some (.int n), some (.int k), some (.list (s.map nT)), j.1, j.2.1, j.2.2.1, j.2.2.2.1, j.2.2.2.2]) (lots n) (none, none, none, none, none) _ rfl
      fun i ⟨v3, v4, v5, v6, v7⟩ hi => by
        have lz := lots_len n i
        have lz1 := hz i (by omega)
        have lz2 := lots_len n (i + 1)
        have lz3 := hz (i + 1) (by omega)
        have lt : (lots n (i + 1)) = (lots n i).flatMap (lotsOn n) := rfl
        obtain ⟨⟨w5, w6, w7⟩, e⟩ := for_flat (tg := gN 5) (b := all_lots_L15) (g := g0) (lots n i) nT (fun (l : List (List Nat)) (j : Option D × Option D × Option D) => [some (.int n), some (.int k), some (.list ((lots n i).map nT)), some (.int i), some (.list (l.map nT)), j.1, j.2.1, j.2.2]) (lotsOn n) [] (v5, v6, v7) 1000000 (by
            rw [← lt]; simp; omega)
          fun l ⟨v5, v6, v7⟩ x hx hl => by
            obtain ⟨h1, h2, h3⟩ := lots_mem hx
            have lc : ∀ v6, lcGo (gN 7) bYes all_lots_E59 [some (.int n), some (.int k), some (.list ((lots n i).map nT)), some (.int i), some (.list (l.map nT)), some (nT x), v6, none] ((List.range' (nx x) (n - nx x)).map fun (j : Nat) => PyData.int (j : Int)) g0 = some ((lotsOn n x).map nT, g0) := by
              intro v6
              unfold lotsOn
              rw [List.map_map]
              refine lcp _ (fun (j : Nat) => PyData.int (j : Int)) _ fun j hj => ?_
              have lz : (up x).length + 1 ≤ sizeLine := by rw [sizeLine_eq]; simp [up]; omega
              simp [lcK, all_lots_E59, nT, iT, up] at lz ⊢
              simp [lz]
            have nl : nx x < 1000000 := by
              rcases nx_of (x := x) with ⟨q, _⟩ | ⟨z, m, q1, q2⟩
              · omega
              · have := h2 m (by rw [q1]; simp); omega
            refine ⟨[some (.int n), some (.int k), some (.list ((lots n i).map nT)), some (.int i), some (.list (l.map nT)), some (nT x), v6, v7], (some (nT x), some (.int (nx x : Nat)), v7), by simp, ?_⟩
            unfold all_lots_L15
            have e6 : eIf (bOf (eOp sNeA (eV 5) (eTup sNil))) (eOp sAdd (eOp sIx (eV 5) (eNeg (eC (.int 1)))) (eC (.int 1))) (eC (.int 0)) [some (.int n), some (.int k), some (.list ((lots n i).map nT)), some (.int i), some (.list (l.map nT)), some (nT x), v6, v7] g0 = some (.int (nx x : Nat), g0) := by
              rcases nx_of (x := x) with ⟨q1, q2⟩ | ⟨z, m, q1, q2⟩
              · rw [q1]; subst q2
                rw [p_eifF (p_of (p_op (z := .bool false) (d := nT []) (e := .tuple []) (by simp) (by simp) ne_nT0))]; simp
              · rw [q2]; subst q1
                rw [p_eifT (p_of (p_op (z := .bool true) (d := nT (z ++ [m])) (e := .tuple []) (by simp) (by simp) (ne_nT z m)))]; simp [ix_nT z m]
            rw [p_seq (p_asg e6), p_ext (p_lc (p_r2 (l := nx x) (m := n) (by simp) (by simp) nl (by omega)) (lc _) (by rw [List.length_map, sizeLine_eq]; omega)) (by simp; rfl) (by rw [List.length_map, List.length_map, sizeLine_eq]; omega)]
            rw [← List.map_append]; rfl
        refine ⟨[some (.int n), some (.int k), some (.list ((lots n i).map nT)), some (.int i), v4, v5, v6, v7], (some (.int i), some (.list ((lots n (i + 1)).map nT)), w5, w6, w7), by simp, ?_⟩
        unfold all_lots_L4
        refine (p_seq (p_asg (d := .list []) (by simp))).trans ?_
        refine (p_seq ((p_for (ds := (lots n i).map nT) (by simp)).trans e)).trans ?_
        simp [cutA, lt]
    unfold all_lots_s all_lots_b
    refine p_P ?_
    refine (p_seq (s := sIf _ _ _) (ρ' := [some (.int n), some (.int k), none, none, none, none, none, none]) (by simp [c'])).trans ?_
    refine (p_seq (p_asg (d := .list [.tuple []]) (by simp))).trans ?_
    refine (p_seq ((p_for (p_r1 (m := k) (by simp) (by omega))).trans e)).trans ?_
    simp
/-! ### things picked by lots -/
def pickAt (Ds : List Int) (x : List Nat) : List Int := x.map fun i => Ds.getD i 0
theorem pickAt_len (Ds : List Int) (x : List Nat) : (pickAt Ds x).length = x.length := List.length_map ..
theorem get_at {Ds : List Int} {i : Nat} (h : i < Ds.length) : Ds[i]? = some (Ds.getD i 0) := by
  rw [List.getD_eq_getElem?_getD, List.getElem?_eq_getElem h]; rfl
/-- [things[i] for i in a lot] -/
theorem pick_go {tg : SG} {te : SE} {ρ : Ev} {g : G} {Ds : List Int} (x : List Nat) (hx : ∀ i ∈ x, i < Ds.length) (h : ∀ i ∈ x, ∃ ρ1, tg (.int (i : Int)) ρ = some ρ1 ∧ (∀ d, sIx (iT Ds) (.int (i : Int)) = some d → te ρ1 g = some (d, g))) : lcGo tg bYes te ρ ((up x).map .int) g = some ((pickAt Ds x).map .int, g) := by
  unfold pickAt
  rw [List.map_map, List.map_map]
  refine lcp x _ _ fun i hi => ?_
  obtain ⟨ρ1, e1, e2⟩ := h i hi
  have := e2 _ (ix_at (get_at (hx i hi)))
  unfold lcK
  simp only [Function.comp_apply, e1, u_yes, u_mret, this]
def cps (P Ds : List Int) : List (List Nat) := if Ds.length < P.length then [] else (lots Ds.length P.length).filter fun x => decide (partOf (pickAt Ds x) = P)
theorem cps_mem {P Ds : List Int} {x : List Nat} (h : x ∈ cps P Ds) : x ∈ lots Ds.length P.length := by
  unfold cps at h
  split at h
  · cases h
  · exact (List.mem_filter.mp h).1
theorem m_copies (P Ds : List Int) (h1 : Ds.length ≤ 1000) (h2 : P.length ≤ 1000) (hz : ∀ j, j ≤ P.length → Ds.length ^ j ≤ 1000000) : copies_of_s [iT P, iT Ds] = some (.tuple ((cps P Ds).map nT)) := by
  have q := m_lots Ds.length P.length h1 h2 hz
  have lc : lcGo (gN 3) copies_of_T14 copies_of_E14 [some (iT P), some (iT Ds), some (.list (if Ds.length < P.length then [] else (lots Ds.length P.length).map nT)), none, none] (if Ds.length < P.length then [] else (lots Ds.length P.length).map nT) g0 = some ((cps P Ds).map nT, g0) := by
    by_cases c : Ds.length < P.length
    · simp only [cps, c, if_true]; rfl
    · simp only [cps, c, if_false]
      refine lcf _ nT nT _ fun x hx => ?_
      obtain ⟨x1, x2, x3⟩ := lots_mem hx
      have pg := pick_go (tg := gN 4) (te := copies_of_E37) (ρ := [some (iT P), some (iT Ds), some (.list ((lots Ds.length P.length).map nT)), some (nT x), none]) (g := g0) x x2 fun i hi => ⟨_, rfl, fun d hd => by simp [copies_of_E37, hd]⟩
      have t : copies_of_T14 [some (iT P), some (iT Ds), some (.list ((lots Ds.length P.length).map nT)), some (nT x), none] g0 = some (decide (partOf (pickAt Ds x) = P), g0) :=
        p_of (p_op (p_cp (p_c1 (p_lc (p_seqT (xs := (up x).map .int) rfl) pg (by rw [List.length_map, pickAt_len, sizeLine_eq]; omega))) (m_partL _ (by rw [pickAt_len]; omega))) (e := iT P) (by simp) u_eqIT)
      unfold lcK
      have e : gN 3 (nT x) [some (iT P), some (iT Ds), some (.list ((lots Ds.length P.length).map nT)), none, none] = some [some (iT P), some (iT Ds), some (.list ((lots Ds.length P.length).map nT)), some (nT x), none] := rfl
      simp only [e, t]
      cases decide (partOf (pickAt Ds x) = P) <;> simp [copies_of_E14]
  have lz : ((cps P Ds).map nT).length ≤ sizeLine := by
    have := lots_len Ds.length P.length
    have := hz P.length (Nat.le_refl _)
    rw [List.length_map, sizeLine_eq]
    unfold cps
    split
    · simp
    · have := List.length_filter_le (fun x => decide (partOf (pickAt Ds x) = P)) (lots Ds.length P.length)
      omega
  unfold copies_of_s copies_of_b
  refine p_P ?_
  refine (p_seq (p_asg (p_cp (ds := [.int Ds.length, .int P.length]) (by simp [iT]) q))).trans ?_
  exact p_ret (p_cb (p_c1 (p_lc (p_seqL rfl) lc lz)) rfl)
theorem m_choices (n k : Nat) (hn : n ≤ 1000) (hk : k ≤ 1000) (hz : ∀ j, j ≤ k → n ^ j ≤ 1000000) : law_choices_s [.int n, .int k] = some (.list ((lots n k).map nT)) := by
    obtain ⟨⟨v3, v4, v5, v6⟩, e⟩ := for_turn (tg := gN 3) (b := law_choices_L3) (g := g0) k (fun (s : List (List Nat)) (j : Option D × Option D × Option D × Option D) => [some (.int n), some (.int k), some (.list (s.map nT)), j.1, j.2.1, j.2.2.1, j.2.2.2]) (lots n) (none, none, none, none) _ rfl
      fun i ⟨v3, v4, v5, v6⟩ hi => by
        have lz := lots_len n i
        have lz1 := hz i (by omega)
        have lz2 := lots_len n (i + 1)
        have lz3 := hz (i + 1) (by omega)
        have lt : (lots n (i + 1)) = (lots n i).flatMap (lotsOn n) := rfl
        obtain ⟨⟨w5, w6⟩, e⟩ := for_flat (tg := gN 5) (b := law_choices_L12) (g := g0) (lots n i) nT (fun (l : List (List Nat)) (j : Option D × Option D) => [some (.int n), some (.int k), some (.list ((lots n i).map nT)), some (.int i), some (.list (l.map nT)), j.1, j.2]) (lotsOn n) [] (v5, v6) 1000000 (by
            rw [← lt]; simp; omega)
          fun l ⟨v5, v6⟩ x hx hl => by
            obtain ⟨h1, h2, h3⟩ := lots_mem hx
            have lc : lcGo (gN 6) law_choices_T41 law_choices_E41 [some (.int n), some (.int k), some (.list ((lots n i).map nT)), some (.int i), some (.list (l.map nT)), some (nT x), none] ((List.range n).map fun (j : Nat) => PyData.int (j : Int)) g0 = some ((lotsOn n x).map nT, g0) := by
              unfold lotsOn
              rw [← range_nx n x (fun j => decide (nx x ≤ j)) (fun j => rfl), List.map_map]
              refine lcf _ (fun (j : Nat) => PyData.int (j : Int)) _ _ fun j hj => ?_
              have lz : (up x).length + 1 ≤ sizeLine := by rw [sizeLine_eq]; simp [up]; omega
              have e : gN 6 (.int (j : Int)) [some (.int n), some (.int k), some (.list ((lots n i).map nT)), some (.int i), some (.list (l.map nT)), some (nT x), none] = some [some (.int n), some (.int k), some (.list ((lots n i).map nT)), some (.int i), some (.list (l.map nT)), some (nT x), some (.int j)] := rfl
              have t : law_choices_T41 [some (.int n), some (.int k), some (.list ((lots n i).map nT)), some (.int i), some (.list (l.map nT)), some (nT x), some (.int j)] g0 = some (decide (nx x ≤ j), g0) := by
                rcases nx_of (x := x) with ⟨q1, q2⟩ | ⟨z, m, q1, q2⟩
                · rw [q1]; subst q2
                  simp [law_choices_T41, eq_nT0]
                · rw [q2]; subst q1
                  have e : decide ((m : Int) < (j : Int)) = decide (m + 1 ≤ j) := by rw [Bool.eq_iff_iff, decide_eq_true_iff, decide_eq_true_iff]; omega
                  simp [law_choices_T41, eq_nT z m, ix_nT z m]
                  omega
              have u : law_choices_E41 [some (.int n), some (.int k), some (.list ((lots n i).map nT)), some (.int i), some (.list (l.map nT)), some (nT x), some (.int j)] g0 = some (nT (x ++ [j]), g0) := by
                simp [law_choices_E41, nT, iT, up] at lz ⊢
                simp [lz]
              unfold lcK
              simp only [e, t]
              cases decide (nx x ≤ j)
              · rfl
              · simp only [u, Function.comp_apply, if_true]
            refine ⟨[some (.int n), some (.int k), some (.list ((lots n i).map nT)), some (.int i), some (.list (l.map nT)), some (nT x), v6], (some (nT x), v6), by simp, ?_⟩
            unfold law_choices_L12
            refine (p_ext (p_lc (p_r1 (m := n) (by simp) (by omega)) lc (by rw [List.length_map, sizeLine_eq]; omega)) (by simp; rfl) (by rw [List.length_map, List.length_map, sizeLine_eq]; omega)).trans ?_
            rw [← List.map_append]; rfl
        refine ⟨[some (.int n), some (.int k), some (.list ((lots n i).map nT)), some (.int i), v4, v5, v6], (some (.int i), some (.list ((lots n (i + 1)).map nT)), w5, w6), by simp, ?_⟩
        unfold law_choices_L3
        refine (p_seq (p_asg (d := .list []) (by simp))).trans ?_
        refine (p_seq ((p_for (ds := (lots n i).map nT) (by simp)).trans e)).trans ?_
        simp [lt]
    unfold law_choices_s law_choices_b
    refine p_P ?_
    refine (p_seq (p_asg (d := .list [.tuple []]) (by simp))).trans ?_
    refine (p_seq ((p_for (p_r1 (m := k) (by simp) (by omega))).trans e)).trans ?_
    simp
theorem sort_asc {xs : List Int} (h : xs.Pairwise (· ≤ ·)) (hl : xs.length ≤ 1000000) : sSorted [iT xs] = some (.list (xs.map .int)) := by
  have e1 : sortD (xs.map .int) = xs.map .int := by
    refine List.mergeSort_of_pairwise ?_
    rw [List.pairwise_map]
    refine h.imp fun {a b} hab => ?_
    show (!PySem.W.dataLt (.int b) (.int a)) = true
    rw [PySem.W.dataLt_int]
    simp; omega
  have e2 : okSort (xs.map .int) = true := by
    have l := layAll_ints xs
    unfold okSort
    simp [l, notNone, PySem.W.alike, PyData.depth]
    rw [sizeLine_eq]; omega
  unfold iT
  simp [e1, e2]
theorem m_left (Ds : List Int) (x : List Nat) (h1 : x.length ≤ 1000) (h2 : ∀ i ∈ x, i < Ds.length) (h3 : x.Pairwise (· < ·)) : law_left_s [iT Ds, nT x] = some (iT (partOf (pickAt Ds x))) := by
  have so : sSorted [nT x] = some (.list ((up x).map .int)) := sort_asc (xs := up x) (by rw [up, List.pairwise_map]; exact h3.imp fun hab => by omega) (by simp [up]; omega)
  have pg := pick_go (tg := gN 2) (te := law_left_E7) (ρ := [some (iT Ds), some (nT x), none]) (g := g0) x h2 fun i hi => ⟨_, rfl, fun d hd => by simp [law_left_E7, hd]⟩
  unfold law_left_s law_left_b
  refine p_P ?_
  exact p_ret (p_cp (p_c1 (p_lc (p_seqL (p_cb (ds := [nT x]) (by simp) so)) pg (by rw [List.length_map, pickAt_len, sizeLine_eq]; omega))) (m_labels _ (by rw [pickAt_len]; omega)))
end PP

set_option Elab.async false
set_option linter.all false
set_option maxRecDepth 100000
set_option maxHeartbeats 4000000
namespace PP
open PySem PySem.Spec L2 Q
theorem pick_ok (most : Int) (hm : most < 2 ^ 62) (g : G) : ∃ r g', law_pick_s [.int most] g = some (.int r, g') ∧ 0 ≤ r ∧ (r < most ∨ r = 0) := pickA_ok most hm g
/-- a draw below n -/
theorem pick_n (n : Nat) (hn : n < 10000000) (g : G) : ∃ (r : Nat) (g' : G), law_pick_s [.int (n : Int)] g = some (.int (r : Int), g') ∧ (r < n ∨ r = 0) := by
  obtain ⟨r, g', e, h1, h2⟩ := pick_ok (n : Int) (by omega) g
  refine ⟨r.toNat, g', ?_, by omega⟩
  have : ((r.toNat : Nat) : Int) = r := by omega
  rw [this]; exact e
theorem of_ok {ds : List D} (h0 : ds ≠ []) (hl : ds.length < 10000000) (g : G) : ∃ d g', law_of_s [.list ds] g = some (d, g') ∧ d ∈ ds := ofA_ok h0 (by omega) g
theorem of_okT {ds : List D} (h0 : ds ≠ []) (hl : ds.length < 10000000) (g : G) : ∃ d g', law_of_s [.tuple ds] g = some (d, g') ∧ d ∈ ds := by
  obtain ⟨r, g', e, h1⟩ := pick_n ds.length hl g
  have hp : 0 < ds.length := List.length_pos_iff.mpr h0
  have hr : r < ds.length := by omega
  have hx : L2.atI ds (r : Int) = some ds[r] := L2.atI_nat (by simpa using List.getElem?_eq_getElem hr)
  refine ⟨ds[r], g', ?_, List.getElem_mem hr⟩
  simp [law_of_s, runD, law_of_b, e, hx]
/-! ### layers -/
theorem m_deep {odds : List D} {b k n : Nat} (h0 : odds ≠ []) (hl : odds.length < 10000000) (ho : ∀ o ∈ odds, Gd b k n o) (g : G) : ∃ d g', law_deep_s [.list odds] g = some (d, g') ∧ Gd b (k + 34) (n + 204) d := by
  obtain ⟨d0, g1, e1, h1⟩ := of_ok h0 hl g
  obtain ⟨ρ', g', e, v, w, e2, hg⟩ := for_inv (tgt := gN 3) (b := law_deep_L3) (ds := rangeD 0 34) (ρ := [none, some (.list odds), some d0, none]) (g := g1)
    (fun i ρ _ => ∃ v w, ρ = [none, some (.list odds), some v, w] ∧ Gd b (k + i) (n + 6 * i) v) ⟨d0, none, rfl, ho d0 h1⟩ fun i d ρ g hd ⟨v, w, e1, hv⟩ => by
      subst e1
      obtain ⟨r, g2, e2, _⟩ := pick_n 5 (by decide) g
      have e2' : law_pick_s [.int 5] g = some (.int (r : Int), g2) := e2
      have gL : Gd b (k + (i + 1)) (n + 6 * (i + 1)) (.list [v]) := (Gds.cons hv Gds.nil).L.mono (by omega) (by omega) (by omega)
      have gT : Gd b (k + (i + 1)) (n + 6 * (i + 1)) (.tuple [v]) := (Gds.cons hv Gds.nil).T.mono (by omega) (by omega) (by omega)
      by_cases c : r = 0
      · exact ⟨_, [none, some (.list odds), some (.list [v]), some d], g2, rfl, by simp [law_deep_L3, e2', c], _, _, rfl, gL⟩
      · exact ⟨_, [none, some (.list odds), some (.tuple [v]), some d], g2, rfl, by simp [law_deep_L3, e2', c], _, _, rfl, gT⟩
  rw [rangeD_len] at hg
  subst e2
  refine ⟨v, g', ?_, hg⟩
  have q1 : inR 34 = true := rfl
  unfold law_deep_s law_deep_b
  refine r_D ?_
  refine (r_seq (r_asg ((r_cd (by simp)).trans e1))).trans ?_
  refine (r_seq ((r_for (g1 := g1) (ds := rangeD 0 34) (by simp [q1])).trans e)).trans ?_
  simp
/-! ### bent values -/
theorem wzs_at {ys : List D} {i : Nat} (h : i < ys.length) : wzs ys = wzs (ys.take i) + (wz ys[i] + 2) + wzs (ys.drop (i + 1)) := by
  have e : ys = ys.take i ++ ys[i] :: ys.drop (i + 1) := by rw [List.getElem_cons_drop, List.take_append_drop]
  have e2 := wzs_app (ys.take i) (ys[i] :: ys.drop (i + 1))
  rw [← e] at e2
  rw [e2]; simp only [wzs]; omega
theorem isA_intB {d : D} (h : isA (tyD d) "int" = true) (h2 : isA (tyD d) "bool" = false) : ∃ i, d = .int i := by
  cases d <;> simp [isA, tyD] at h h2
  exact ⟨_, rfl⟩
theorem cutTo (ys : List D) (r : Nat) (h : r ≤ ys.length) : cutD ys none (some (r : Int)) = ys.take r := cut_to ys r h
theorem cutFrom (ys : List D) (r : Nat) (h : r ≤ ys.length) : cutD ys (some (r : Int)) none = ys.drop r := cut_from ys r h
/-- what is asked of a def that bends -/
def Bends (f : List D → M D) (odds : List D) (b k0 n0 m : Nat) : Prop := ∀ (d : D) (k n : Nat) (g : G), d.depth ≤ m → Gd b k n d → n ≤ 4000000 → ∃ z g', f [d, .list odds] g = some (z, g') ∧ Gd (b + 2) (k + k0 + 1) (2 * n + n0 + 10) z
theorem bend_step {self_ : List D → M D} {odds : List D} {b k0 n0 m : Nat} (h0 : odds ≠ []) (hl : odds.length < 10000000) (ho : ∀ o ∈ odds, Gd b k0 n0 o) (hn0 : n0 ≤ 1000000) (hs : ∀ m', m' < m → Bends self_ odds b k0 n0 m') : Bends (runD 5 (law_bent_v2_b self_)) odds b k0 n0 m := by
  intro d k n g hm hd hn
  have odd : ∀ g, ∃ z g', law_of_s [.list odds] g = some (z, g') ∧ Gd (b + 2) (k + k0 + 1) (2 * n + n0 + 10) z := fun g => by
    obtain ⟨z, g', e, h⟩ := of_ok h0 hl g
    exact ⟨z, g', e, (ho z h).mono (by omega) (by omega) (by omega)⟩
  by_cases ci : ∃ i, d = .int i
  · obtain ⟨i, rfl⟩ := ci
    obtain ⟨r, g1, e1, _⟩ := pick_n 3 (by decide) g
    have e1' : law_pick_s [.int 3] g = some (.int (r : Int), g1) := e1
    by_cases c : r = 0
    · obtain ⟨z, g2, e2, h⟩ := odd g1
      refine ⟨z, g2, ?_, h⟩
      subst c
      simp [runD, law_bent_v2_b, isA, tyD, e1', e2]
    · obtain ⟨z, g2, e2, h⟩ := of_ok (ds := [.int 1, .int (-1), .int 2]) (by simp) (by decide) g1
      have hb : i.natAbs ≤ b := by simpa [okD] using hd.ok
      obtain ⟨j, rfl, hj⟩ : ∃ j, z = .int j ∧ j.natAbs ≤ 2 := by
        simp only [List.mem_cons, List.not_mem_nil, or_false] at h
        rcases h with h | h | h <;> exact ⟨_, h, by decide⟩
      refine ⟨.int (i + j), g2, ?_, (Gd.int (b := b + 2) (by omega)).mono (by omega) (by omega) (by have := hd.wt; simp only [wz] at this; omega)⟩
      have c' : 0 < r := by omega
      simp [runD, law_bent_v2_b, isA, tyD, e1', c', e2]
  · have ci' : bAnd (bTru (eIsi "int" (eV 1))) (bAnd (bNot (bTru (eIsi "bool" (eV 1)))) (bOf (eOp sGt (eCD law_pick_s (sCons (eC (.int 3)) sNil)) (eC (.int 0))))) [none, some d, some (.list odds), none, none] g = some (false, g) := by
      by_cases h1 : isA (tyD d) "int" = true
      · by_cases h2 : isA (tyD d) "bool" = true
        · simp [h1, h2]
        · exact absurd (isA_intB h1 (by simpa using h2)) ci
      · simp [h1]
    by_cases ct : ∃ x xs, d = .tuple (x :: xs)
    · obtain ⟨x, xs, rfl⟩ := ct
      obtain ⟨r7, g1, e7, _⟩ := pick_n 7 (by decide) g
      have e7' : law_pick_s [.int 7] g = some (.int (r7 : Int), g1) := e7
      generalize hys : x :: xs = ys at *
      have hne : ys ≠ [] := by rw [← hys]; simp
      have t0 : sEqA (.tuple ys) (.tuple []) = some (.bool false) := by rw [u_eqA0T, ← hys]; rfl
      obtain ⟨gy, g4, gk⟩ := hd.ofT
      have yl : ys.length ≤ 2000000 := by have := wzs_len ys; have := gy.wt; omega
      by_cases c7 : r7 = 0
      · subst c7
        obtain ⟨z, g2, e2, h⟩ := odd g1
        refine ⟨z, g2, r_D ?_, h⟩
        refine (r_seq (s := sIf _ _ _) ((r_ifF ci').trans rfl)).trans ?_
        refine (r_seqR (d := z) (g1 := g2) ((r_ifT (g1 := g1) ?_).trans (r_ret ((r_cd rfl).trans e2)))).trans rfl
        simp [isA, tyD, t0, e7']
      · have hc7 : bOr (bNot (bTru (eIsi "tuple" (eV 1)))) (bOr (bOf (eOp sEqA (eV 1) (eTup sNil))) (bOf (eOp sEqA (eCD law_pick_s (sCons (eC (.int 7)) sNil)) (eC (.int 0))))) [none, some (.tuple ys), some (.list odds), none, none] g = some (false, g1) := by
          simp [isA, tyD, t0, e7', c7]
        obtain ⟨r, g2, e8, hr⟩ := pick_n ys.length (by omega) g1
        have hr : r < ys.length := by
          have := List.length_pos_iff.mpr hne
          omega
        obtain ⟨how, g3, e9, hh⟩ := pick_n 8 (by decide) g2
        have e9' : law_pick_s [.int 8] g2 = some (.int (how : Int), g3) := e9
        have wa := wzs_at hr
        have wy := gy.wt
        have hx : sIx (.tuple ys) (.int (r : Int)) = some ys[r] := L2.atI_nat (by simpa using List.getElem?_eq_getElem hr)
        have c1 := cutTo ys r (by omega)
        have c2 := cutFrom ys (r + 1) (by omega)
        have c3 := cutTo ys (r + 1) (by omega)
        have c4 := cutFrom ys r (by omega)
        push_cast at c2 c3
        have tl : (ys.take r).length ≤ 2000000 := by rw [List.length_take]; omega
        have dl : (ys.drop (r + 1)).length ≤ 2000000 := by rw [List.length_drop]; omega
        have tl2 : (ys.take (r + 1)).length ≤ 2000000 := by rw [List.length_take]; omega
        have dl2 : (ys.drop r).length ≤ 2000000 := by rw [List.length_drop]; omega
        have par : ∀ t : SS, sSeq (sPar 3 4 (eCD law_pick_s (sCons (eCB sLenD (sCons (eV 1) sNil)) sNil)) (eCD law_pick_s (sCons (eC (.int 8)) sNil))) t [none, some (.tuple ys), some (.list odds), none, none] g1 = t [none, some (.tuple ys), some (.list odds), some (.int (r : Int)), some (.int (how : Int))] g3 := fun t => by
          simp [e8, e9']
        have gyx := gy.mem (List.getElem_mem hr)
        have gyx' : Gd b (k - 1) (wz ys[r]) ys[r] := ⟨gyx.ok, gyx.dp, Nat.le_refl _⟩
        by_cases ch : how < 5
        · have hdp : (ys[r]).depth ≤ m - 1 := by
            have : (PyData.tuple ys).depth = PyData.depthAll ys + 1 := by simp [PyData.depth]
            have := depths_le.mp (Nat.le_refl (PyData.depthAll ys)) ys[r] (List.getElem_mem hr)
            omega
          have hm1 : 1 ≤ m := by
            have : (PyData.tuple ys).depth = PyData.depthAll ys + 1 := by simp [PyData.depth]
            omega
          obtain ⟨z, g5, e5, gz⟩ := hs (m - 1) (by omega) ys[r] (k - 1) (wz ys[r]) g3 hdp gyx' (by omega)
          refine ⟨.tuple (ys.take r ++ z :: ys.drop (r + 1)), g5, r_D ?_, ?_⟩
          · refine (r_seq (s := sIf _ _ _) ((r_ifF ci').trans rfl)).trans ?_
            refine (r_seq (s := sIf _ _ _) ((r_ifF hc7).trans rfl)).trans ?_
            refine (par _).trans ?_
            refine (r_seqR (d := .tuple (ys.take r ++ z :: ys.drop (r + 1))) (g1 := g5) ?_)
            have ch' : (how : Int) < 5 := by omega
            have z1 : (ys.take r).length + 1 ≤ sizeLine := by rw [sizeLine_eq]; omega
            have z2 : (ys.take r).length + (1 + (ys.drop (r + 1)).length) ≤ sizeLine := by rw [sizeLine_eq]; omega
            have z3 : (ys.take r).length + 1 + (ys.drop (r + 1)).length ≤ sizeLine := by rw [sizeLine_eq]; omega
            generalize ys.take r = A at *
            generalize ys.drop (r + 1) = B at *
            simp [ch', c1, c2, hx, e5, z1, z2, z3, -List.length_take, -List.length_drop]
          · have a1 : Gds (b + 2) (k - 1 + k0 + 1) (wzs (ys.take r)) (ys.take r) := ⟨okDs_mono (by omega) (gy.take r).ok, by have := (gy.take r).dp; omega, Nat.le_refl _⟩
            have a2 : Gds (b + 2) (k - 1 + k0 + 1) (wzs (ys.drop (r + 1))) (ys.drop (r + 1)) := ⟨okDs_mono (by omega) (gy.drop (r + 1)).ok, by have := (gy.drop (r + 1)).dp; omega, Nat.le_refl _⟩
            exact (a1.app (Gds.cons gz a2)).T.mono (Nat.le_refl _) (by omega) (by omega)
        · have v0 : Gd (b + 2) (k + k0 + 1) (2 * n + n0 + 10) (.tuple (ys.take r ++ ys.drop (r + 1))) := by
            have a1 : Gds b (k - 1) (wzs (ys.take r)) (ys.take r) := ⟨(gy.take r).ok, (gy.take r).dp, Nat.le_refl _⟩
            have a2 : Gds b (k - 1) (wzs (ys.drop (r + 1))) (ys.drop (r + 1)) := ⟨(gy.drop (r + 1)).ok, (gy.drop (r + 1)).dp, Nat.le_refl _⟩
            exact (a1.app a2).T.mono (by omega) (by omega) (by omega)
          have v1 : Gd (b + 2) (k + k0 + 1) (2 * n + n0 + 10) (.tuple (ys.take (r + 1) ++ ys.drop r)) := by
            exact ((gy.take (r + 1)).app (gy.drop r)).T.mono (by omega) (by omega) (by omega)
          have v2 : Gd (b + 2) (k + k0 + 1) (2 * n + n0 + 10) (.list ys) := gy.L.mono (by omega) (by omega) (by omega)
          obtain ⟨z, hz, gz⟩ : ∃ z, L2.atI [.tuple (ys.take r ++ ys.drop (r + 1)), .tuple (ys.take (r + 1) ++ ys.drop r), .list ys] ((how : Int) - 5) = some z ∧ Gd (b + 2) (k + k0 + 1) (2 * n + n0 + 10) z := by
            have : how = 5 ∨ how = 6 ∨ how = 7 := by omega
            rcases this with h | h | h <;> subst h
            · exact ⟨_, rfl, v0⟩
            · exact ⟨_, rfl, v1⟩
            · exact ⟨_, rfl, v2⟩
          refine ⟨z, g3, r_D ?_, gz⟩
          refine (r_seq (s := sIf _ _ _) ((r_ifF ci').trans rfl)).trans ?_
          refine (r_seq (s := sIf _ _ _) ((r_ifF hc7).trans rfl)).trans ?_
          refine (par _).trans ?_
          have ch' : ¬ (how : Int) < 5 := by omega
          refine (r_seq (s := sIf _ _ _) (ρ' := [none, some (.tuple ys), some (.list odds), some (.int (r : Int)), some (.int (how : Int))]) (g1 := g3) (by simp [ch'])).trans ?_
          have z1 : (ys.take r).length + (ys.drop (r + 1)).length ≤ sizeLine := by rw [sizeLine_eq]; omega
          have z2 : (ys.take (r + 1)).length + (ys.drop r).length ≤ sizeLine := by rw [sizeLine_eq]; omega
          generalize ys.take r = A at *
          generalize ys.drop (r + 1) = B at *
          generalize ys.take (r + 1) = A2 at *
          generalize ys.drop r = B2 at *
          simp [c1, c2, c3, c4, z1, z2, hz]
    · have hc7 : bOr (bNot (bTru (eIsi "tuple" (eV 1)))) (bOr (bOf (eOp sEqA (eV 1) (eTup sNil))) (bOf (eOp sEqA (eCD law_pick_s (sCons (eC (.int 7)) sNil)) (eC (.int 0))))) [none, some d, some (.list odds), none, none] g = some (true, g) := by
        cases d <;> simp [isA, tyD]
        rename_i xs
        cases xs with
        | nil => simp
        | cons x xs => exact absurd ⟨x, xs, rfl⟩ ct
      obtain ⟨z, g2, e2, h⟩ := odd g
      refine ⟨z, g2, r_D ?_, h⟩
      refine (r_seq (s := sIf _ _ _) ((r_ifF ci').trans rfl)).trans ?_
      exact r_seqR ((r_ifT hc7).trans (r_ret ((r_cd rfl).trans e2)))
theorem bent_f {odds : List D} {b k0 n0 : Nat} (h0 : odds ≠ []) (hl : odds.length < 10000000) (ho : ∀ o ∈ odds, Gd b k0 n0 o) (hn0 : n0 ≤ 1000000) : ∀ m j, m ≤ j → Bends (law_bent_v2_f (j + 1)) odds b k0 n0 m := by
  intro m
  induction m with
  | zero => exact fun j _ => bend_step h0 hl ho hn0 fun m' h => absurd h (Nat.not_lt_zero _)
  | succ m ih =>
    intro j hj
    obtain ⟨j, rfl⟩ : ∃ i, j = i + 1 := ⟨j - 1, by omega⟩
    refine bend_step h0 hl ho hn0 fun m' h d k n g hm => ?_
    exact ih j (by omega) d k n g (by omega)
theorem m_bent {odds : List D} {b k0 n0 : Nat} (h0 : odds ≠ []) (hl : odds.length < 10000000) (ho : ∀ o ∈ odds, Gd b k0 n0 o) (hn0 : n0 ≤ 1000000) : Bends law_bent_v2_s odds b k0 n0 2 := bent_f h0 hl ho hn0 2 3 (by decide)
theorem m_parting (n : Nat) (hn : n ≤ 1000) (g : G) : ∃ P g', law_parting_s [.int (n : Int)] g = some (iT P, g') ∧ RG P ∧ P.length = n := by
  obtain ⟨zs, g', e, hl, hz⟩ := lcr (tg := gN 2) (te := law_parting_E7) (ρ := [none, some (.int (n : Int)), none]) (g := g) (fun z => ∃ i, z = .int i) ((List.range n).map fun (i : Nat) => .int (i : Int)) fun d hd g => by
    obtain ⟨i, hi, rfl⟩ := List.mem_map.mp hd
    have hi := List.mem_range.mp hi
    obtain ⟨r, g1, e1, h1⟩ := pick_n n (by omega) g
    obtain ⟨r2, g2, e2, h2⟩ := pick_n (1 + r) (by omega) g1
    push_cast at e2
    exact ⟨.int (r2 : Int), g2, by simp [lcK, law_parting_E7, e1, e2], _, rfl⟩
  obtain ⟨ls, rfl⟩ : ∃ ls : List Int, zs = ls.map .int := by
    clear e hl
    induction zs with
    | nil => exact ⟨[], rfl⟩
    | cons z r ih =>
      obtain ⟨i, rfl⟩ := hz z (by simp)
      obtain ⟨ls, rfl⟩ := ih fun y hy => hz y (List.mem_cons_of_mem _ hy)
      exact ⟨i :: ls, rfl⟩
  have ll : ls.length = n := by simpa using hl
  refine ⟨partOf ls, g', ?_, partOf_twice ls, by simp [partOf, ll]⟩
  unfold law_parting_s law_parting_b
  refine r_D ?_
  exact r_ret (r_cp (r_c1 (r_lc (r_r1 (m := n) (g1 := g) rfl (by omega)) e (by rw [List.length_map, sizeLine_eq]; omega))) (m_labels ls (by omega)))
theorem nx_range (k : Nat) : nx (List.range k) = k := by
  rcases nx_of (x := List.range k) with ⟨q1, q2⟩ | ⟨z, m, q1, q2⟩
  · have : (List.range k).length = 0 := by rw [q2]; rfl
    rw [List.length_range] at this
    rw [q1, this]
  · cases k with
    | zero => simp at q1
    | succ k =>
      rw [List.range_succ] at q1
      have := List.append_inj_right' q1 rfl
      have e : k = m := by simpa using this
      rw [q2, e]
theorem lots_ne {n k : Nat} (h : k ≤ n) : lots n k ≠ [] := by
  have : List.range k ∈ lots n k := by
    induction k with
    | zero => simp [lots]
    | succ k ih =>
      refine List.mem_flatMap.mpr ⟨List.range k, ih (by omega), ?_⟩
      unfold lotsOn
      rw [List.range_succ, nx_range]
      exact List.mem_map.mpr ⟨k, List.mem_range'_1.mpr (by omega), rfl⟩
  intro e; rw [e] at this; cases this
end PP

set_option Elab.async false
set_option linter.all false
set_option maxRecDepth 100000
set_option maxHeartbeats 4000000
/-! PD: dicts whose keys are rows of numbers; how often each is met. -/
namespace PP
open PySem PySem.Spec L2 Q
def kx (x : List Int) : List Key := x.map .inl
theorem keyT_kx (x : List Int) : keyT (kx x) = iT x := by
  unfold keyT kx iT
  rw [List.map_map]; rfl
theorem keyTO_iT (x : List Int) : keyTO (iT x) = some (kx x) := by rw [← keyT_kx]; exact keyTO_keyT _
theorem keyO_iT (x : List Int) : keyO (iT x) = none := rfl
theorem kx_inj {x y : List Int} (h : kx x = kx y) : x = y := (List.map_inj_right (fun a b e => by cases e; rfl)).mp h
def kd (m : List (List Int × D)) : D := .dict (m.map fun p => (iT p.1, p.2))
theorem tvs_kd (m : List (List Int × D)) : tvsO (m.map fun p => (iT p.1, p.2)) = some (m.map fun p => (kx p.1, p.2)) := by
  induction m with
  | nil => rfl
  | cons p r ih => simp only [List.map_cons, tvsO, keyTO_iT, ih]
theorem look_kd (m : List (List Int × D)) (x : List Int) : dLook (kd m) (iT x) = some (lookX m x) := by
  unfold dLook kd
  simp only [keyO_iT, keyTO_iT, tvs_kd, Option.map_some]
  congr 1
  unfold lookX
  induction m with
  | nil => rfl
  | cons p r ih =>
    simp only [List.map_cons, List.find?_cons]
    by_cases h : p.1 = x
    · simp [h]
    · have h2 : ¬ kx p.1 = kx x := fun e => h (kx_inj e)
      simp only [h, h2, decide_false]
      exact ih
theorem store_kd (m : List (List Int × D)) (x : List Int) (v : D) (hl : m.length < sizeLine) : dStore (kd m) (iT x) v = some (kd (putX m x v)) := by
  unfold dStore kd
  simp only [keyO_iT, keyTO_iT, tvs_kd, Option.bind_some, List.length_map, hl, if_true]
  congr 1
  unfold outT putX
  have e1 : ((m.map fun p => (kx p.1, p.2)).any fun p => decide (p.1 = kx x)) = m.any fun p => decide (p.1 = x) := by
    rw [List.any_map]
    congr 1
    funext p
    simp only [Function.comp_apply]
    by_cases h : p.1 = x
    · simp [h]
    · have h2 : ¬ kx p.1 = kx x := fun e => h (kx_inj e)
      simp [h, h2]
  rw [e1]
  split
  · simp only [List.map_map]
    congr 1
    refine List.map_congr_left fun p _ => ?_
    simp only [Function.comp_apply]
    by_cases h : p.1 = x
    · simp [h, keyT_kx]
    · have h2 : ¬ kx p.1 = kx x := fun e => h (kx_inj e)
      simp [h, h2, keyT_kx]
  · rw [List.map_append, List.map_append, List.map_map]
    congr 2
    · refine List.map_congr_left fun p _ => ?_
      simp [keyT_kx]
    · simp [keyT_kx]
/-! ### how often each is met -/
def metR (L : List (List Int)) : List (List Int) := L.foldl (fun m l => if l ∈ m then m else m ++ [l]) []
theorem metR_snoc (L : List (List Int)) (x : List Int) : metR (L ++ [x]) = if x ∈ metR L then metR L else metR L ++ [x] := by
  unfold metR; rw [List.foldl_append]; rfl
theorem mem_metR (L : List (List Int)) (x : List Int) : x ∈ metR L ↔ x ∈ L := by
  suffices h : ∀ L : List (List Int), ∀ m : List (List Int), x ∈ L.foldl (fun m l => if l ∈ m then m else m ++ [l]) m ↔ x ∈ m ∨ x ∈ L by
    have := h L []
    simpa [metR] using this
  intro L
  induction L with
  | nil => intro m; simp
  | cons l r ih =>
    intro m
    rw [List.foldl_cons, ih]
    by_cases q : l ∈ m
    · rw [if_pos q]
      constructor
      · rintro (h | h)
        · exact .inl h
        · exact .inr (List.mem_cons_of_mem _ h)
      · rintro (h | h)
        · exact .inl h
        · rcases List.mem_cons.mp h with h | h
          · rw [h]; exact .inl q
          · exact .inr h
    · rw [if_neg q]; simp [or_assoc]
theorem metR_nodup (L : List (List Int)) : (metR L).Nodup := by
  suffices h : ∀ L : List (List Int), ∀ m : List (List Int), m.Nodup → (L.foldl (fun m l => if l ∈ m then m else m ++ [l]) m).Nodup from h L [] List.nodup_nil
  intro L
  induction L with
  | nil => intro m h; exact h
  | cons l r ih =>
    intro m h
    rw [List.foldl_cons]
    by_cases q : l ∈ m
    · rw [if_pos q]; exact ih m h
    · rw [if_neg q]
      refine ih _ ?_
      rw [List.nodup_append]
      exact ⟨h, by simp, fun a ha b hb e => q (by rw [List.mem_singleton] at hb; rw [← hb, ← e]; exact ha)⟩
theorem metR_len (L : List (List Int)) : (metR L).length ≤ L.length := by
  suffices h : ∀ L : List (List Int), ∀ m : List (List Int), (L.foldl (fun m l => if l ∈ m then m else m ++ [l]) m).length ≤ m.length + L.length by
    have := h L []
    simpa [metR] using this
  intro L
  induction L with
  | nil => intro m; simp
  | cons l r ih =>
    intro m
    rw [List.foldl_cons]
    have := ih (if l ∈ m then m else m ++ [l])
    by_cases q : l ∈ m
    · rw [if_pos q] at this ⊢; simp; omega
    · rw [if_neg q] at this ⊢; simp at this ⊢; omega
/-- the dict after L -/
def cnt (L : List (List Int)) : List (List Int × D) := (metR L).map fun x => (x, .int (L.count x : Nat))
theorem cnt_nil : kd (cnt []) = .dict [] := rfl
theorem cnt_len (L : List (List Int)) : (cnt L).length ≤ L.length := by
  have := metR_len L
  simpa [cnt] using this
theorem look_map {κ : Type} [DecidableEq κ] (f : κ → D) (m : List κ) (x : κ) : lookX (m.map fun y => (y, f y)) x = if x ∈ m then some (f x) else none := by
  unfold lookX
  induction m with
  | nil => rfl
  | cons y r ih =>
    simp only [List.map_cons, List.find?_cons]
    by_cases h : y = x
    · simp [h]
    · have h' : ¬ x = y := fun e => h e.symm
      simp only [h, decide_false, List.mem_cons, h', false_or]
      exact ih
theorem look_cnt (L : List (List Int)) (x : List Int) : lookX (cnt L) x = if x ∈ L then some (.int (L.count x : Nat)) else none := by
  unfold cnt
  rw [look_map (fun x => PyData.int (L.count x : Nat))]
  by_cases h : x ∈ L
  · rw [if_pos h, if_pos ((mem_metR L x).mpr h)]
  · rw [if_neg h, if_neg (fun z => h ((mem_metR L x).mp z))]
theorem get_cnt (L : List (List Int)) (x : List Int) : (dLook (kd (cnt L)) (iT x)).map (fun o => o.getD (.int 0)) = some (.int (L.count x : Nat)) := by
  rw [look_kd, look_cnt]
  by_cases h : x ∈ L
  · rw [if_pos h]; rfl
  · rw [if_neg h, List.count_eq_zero_of_not_mem h]; rfl
theorem put_cnt (L : List (List Int)) (x : List Int) : putX (cnt L) x (.int ((L.count x : Nat) + 1)) = cnt (L ++ [x]) := by
  unfold putX cnt
  have e1 : (((metR L).map fun x => (x, PyData.int (L.count x : Nat))).any fun p => decide (p.1 = x)) = decide (x ∈ metR L) := by
    rw [List.any_map, Bool.eq_iff_iff, List.any_eq_true, decide_eq_true_iff]
    constructor
    · rintro ⟨y, hy, e⟩
      have : y = x := of_decide_eq_true e
      rw [← this]; exact hy
    · exact fun h => ⟨x, h, by simp⟩
  rw [e1, metR_snoc]
  have hc : ∀ y, ((L ++ [x]).count y : Nat) = L.count y + if y = x then 1 else 0 := fun y => by
    rw [List.count_append, List.count_singleton]
    by_cases h : y = x
    · subst h; simp
    · have : ¬ x = y := fun e => h e.symm
      simp [h, this]
  by_cases h : x ∈ metR L
  · simp only [h, decide_true, if_true]
    rw [List.map_map]
    refine List.map_congr_left fun y hy => ?_
    simp only [Function.comp_apply, hc]
    by_cases e : y = x
    · simp [e]
    · simp [e]
  · simp only [h, decide_false, if_false, Bool.false_eq_true]
    rw [List.map_append]
    congr 1
    · refine List.map_congr_left fun y hy => ?_
      have : y ≠ x := fun e => h (e ▸ hy)
      simp [hc, this]
    · have hz : L.count x = 0 := List.count_eq_zero_of_not_mem fun z => h ((mem_metR L x).mpr z)
      simp [hc, hz]
/-! ### sorted keys -/
def unT : D → List Int
  | .tuple xs => xs.map fun d => match d with
    | .int i => i
    | _ => 0
  | _ => []
theorem unT_iT (x : List Int) : unT (iT x) = x := by
  show (x.map PyData.int).map _ = x
  rw [List.map_map]
  have : ((fun d => match d with
    | PyData.int i => i
    | _ => 0) ∘ PyData.int) = fun i => i := rfl
  rw [this, List.map_id']
def sortR (rs : List (List Int)) : List (List Int) := (sortD (rs.map iT)).map unT
theorem sortR_perm (rs : List (List Int)) : (sortR rs).Perm rs := by
  have h := (List.mergeSort_perm (rs.map iT) leD).map unT
  rw [List.map_map] at h
  have e : (unT ∘ iT) = fun x => x := by funext x; exact unT_iT x
  rw [e, List.map_id'] at h
  exact h
theorem sortR_map (rs : List (List Int)) : sortD (rs.map iT) = (sortR rs).map iT := by
  unfold sortR
  rw [List.map_map]
  have : ∀ d ∈ sortD (rs.map iT), (iT ∘ unT) d = d := fun d hd => by
    have := (List.mergeSort_perm (rs.map iT) leD).mem_iff.mp hd
    obtain ⟨x, _, rfl⟩ := List.mem_map.mp this
    simp only [Function.comp_apply, unT_iT]
  exact (List.map_congr_left this).trans (by rw [List.map_id']) |>.symm
theorem alike_ints : ∀ xs ys : List Int, PySem.W.alikeAll (xs.map .int) (ys.map .int) = true
  | [], _ => by simp [PySem.W.alikeAll]
  | _ :: _, [] => by simp [PySem.W.alikeAll]
  | x :: xs, y :: ys => by simp only [List.map_cons, PySem.W.alikeAll, PySem.W.alike, alike_ints xs ys, Bool.and_self]
theorem okSort_rows (rs : List (List Int)) (hl : rs.length ≤ 1000000) : okSort (rs.map iT) = true := by
  have l := layAll_rows rs
  have dd : ∀ x : List Int, (iT x).depth ≤ 50 := fun x => by
    have := depthAll_ints x
    unfold iT
    simp only [PyData.depth, this]; omega
  have al : ∀ x y : List Int, PySem.W.alike (iT x) (iT y) = true := fun x y => by
    unfold iT; simp only [PySem.W.alike]; exact alike_ints x y
  have nn : ∀ x : List Int, notNone (iT x) = true := fun x => rfl
  unfold okSort
  have a1 : ((rs.map iT).all fun d => (rs.map iT).all fun e => PySem.W.alike d e) = true := by
    rw [List.all_eq_true]
    intro d hd
    obtain ⟨x, _, rfl⟩ := List.mem_map.mp hd
    rw [List.all_eq_true]
    intro e he
    obtain ⟨y, _, rfl⟩ := List.mem_map.mp he
    exact al x y
  have a2 : (rs.map iT).all notNone = true := by
    rw [List.all_eq_true]
    intro d hd
    obtain ⟨x, _, rfl⟩ := List.mem_map.mp hd
    rfl
  have a3 : ((rs.map iT).all fun d => decide (d.depth ≤ 50)) = true := by
    rw [List.all_eq_true]
    intro d hd
    obtain ⟨x, _, rfl⟩ := List.mem_map.mp hd
    exact decide_eq_true (dd x)
  rw [a1, a2, l, a3, decide_eq_true (by rw [List.length_map, sizeLine_eq]; omega)]; rfl
theorem sort_kd (L : List (List Int)) (hl : L.length ≤ 1000000) : sSorted [kd (cnt L)] = some (.list ((sortR (metR L)).map iT)) := by
  have e : (cnt L).map (fun p => iT p.1) = (metR L).map iT := by unfold cnt; rw [List.map_map]; rfl
  have i : itemsD (kd (cnt L)) = some ((metR L).map iT) := by
    show some (((cnt L).map fun p => (iT p.1, p.2)).map (·.1)) = _
    rw [List.map_map]
    exact congrArg some e
  have := metR_len L
  rw [u_sorted1, i]
  simp only [okSort_rows (metR L) (by omega), if_true, sortR_map]
theorem ixA_cnt (L : List (List Int)) (x : List Int) (h : x ∈ L) : sIxA (kd (cnt L)) (iT x) = some (.int (L.count x : Nat)) := by
  have e := look_kd (cnt L) x
  rw [look_cnt, if_pos h] at e
  unfold kd at e ⊢
  unfold sIxA
  simp only [e, Option.bind_some, id]
/-! ### sums -/
theorem sum_perm {a b : List Int} (h : a.Perm b) : a.sum = b.sum := by
  induction h with
  | nil => rfl
  | cons x _ ih => simp [ih]
  | swap x y l => simp; omega
  | trans _ _ h1 h2 => rw [h1, h2]
theorem sum_ind (M : List (List Int)) (y : List Int) (hM : M.Nodup) : (M.map fun x => if y = x then (1 : Int) else 0).sum = if y ∈ M then 1 else 0 := by
  induction M with
  | nil => rfl
  | cons x r ih =>
    rw [List.nodup_cons] at hM
    rw [List.map_cons, List.sum_cons, ih hM.2]
    by_cases h : y = x
    · subst h; simp [hM.1]
    · simp [h]
theorem sum_count (M L : List (List Int)) (p : List Int → Bool) (hM : M.Nodup) (h : ∀ x ∈ L, p x = true → x ∈ M) (hp : ∀ x ∈ M, p x = true) : (M.map fun x => ((L.count x : Nat) : Int)).sum = ((L.filter p).length : Nat) := by
  induction L with
  | nil =>
    have z : ∀ N : List (List Int), (N.map fun x => ((([] : List (List Int)).count x : Nat) : Int)).sum = 0 := fun N => by
      induction N with
      | nil => rfl
      | cons x r ih => rw [List.map_cons, List.sum_cons, ih]; rfl
    exact z M
  | cons y L ih =>
    have ih := ih fun x hx => h x (List.mem_cons_of_mem _ hx)
    have e : (M.map fun x => (((y :: L).count x : Nat) : Int)) = M.map fun x => ((L.count x : Nat) : Int) + if y = x then 1 else 0 := List.map_congr_left fun x _ => by
      rw [List.count_cons]
      by_cases q : y = x
      · simp [q]
      · simp [q]
    have sm : ∀ (N : List (List Int)) (f g : List Int → Int), (N.map fun x => f x + g x).sum = (N.map f).sum + (N.map g).sum := fun N f g => by
      induction N with
      | nil => rfl
      | cons x r ih => simp only [List.map_cons, List.sum_cons, ih]; omega
    rw [e, sm, ih, sum_ind M y hM]
    by_cases q : p y = true
    · rw [if_pos (h y (by simp) q), List.filter_cons, if_pos q, List.length_cons]; omega
    · rw [if_neg (fun z => q (hp y z)), List.filter_cons, if_neg q]; omega
end PP

set_option Elab.async false
set_option linter.all false
set_option maxRecDepth 100000
set_option maxHeartbeats 4000000
namespace K10
open PySem PySem.Spec PyProof.Rows L2 Q PP
def law_T90_24 : ST := (bOf (eOp sEqA (eCP law_left_s (sCons (eV 3) (sCons (eV 13) sNil))) (eV 8)))
def law_E90_24 : SE := (eV 13)
def law_L85_8 : SS := (sSeq (sAsg 6 (eCD law_pick_s (sCons (eOp sAdd (eCB sMin2 (sCons (eV 4) (sCons (eC (.int 5)) sNil))) (eC (.int 1))) sNil)))
  (sSeq (sAsg 7 (eCP law_choices_s (sCons (eV 4) (sCons (eV 6) sNil))))
  (sSeq (sAsg 8 (eCP law_left_s (sCons (eV 3) (sCons (eCD law_of_s (sCons (eV 7) sNil)) sNil))))
  (sSeq (sAsg 8 (eIf (bOf (eOp sGt (eCD law_pick_s (sCons (eC (.int 3)) sNil)) (eC (.int 0)))) (eV 8) (eCD law_parting_s (sCons (eV 6) sNil))))
  (sSeq (sAsg 9 (eCB sTuple (sCons (eLc (iSeq (eV 7)) [13] (gN 13) law_T90_24 law_E90_24) sNil)))
  (sSeq (sIf (bOf (eOp sNeA (eCB sReprE1 (sCons (eLst (sCons (eCP copies_of_s (sCons (eV 8) (sCons (eV 3) sNil))) (sCons (eCP count_of_s (sCons (eV 8) (sCons (eV 3) sNil))) sNil))) sNil)) (eCB sReprE1 (sCons (eLst (sCons (eV 9) (sCons (eCB sLenD (sCons (eV 9) sNil)) sNil))) sNil))))
  (sRet (eC (.bool false)))
  sNext)
  (sSeq (sIf (bOf (eOp sNeA (eCP count_of_s (sCons (eCP turned_s (sCons (eV 8) sNil)) (sCons (eCP turned_s (sCons (eV 3) sNil)) sNil))) (eCB sLenD (sCons (eV 9) sNil))))
  (sRet (eC (.bool false)))
  sNext)
  (sSeq (sIf (bAnd (bOf (eOp sLt (eV 6) (eC (.int 5)))) (bOf (eOp sNeA (eCP form_worth_s (sCons (eTup (sCons (eTup (sCons (eV 8) (sCons (eC (.int 5)) sNil))) sNil)) (sCons (eV 3) sNil))) (eOp sMul (eC (.int 5)) (eCB sLenD (sCons (eV 9) sNil))))))
  (sRet (eC (.bool false)))
  sNext)
  (sSeq (sAsg 10 (eCD law_parting_s (sCons (eV 6) sNil)))
  (sIf (bOf (eOp sNeA (eCB sReprE1 (sCons (eLst (sCons (eCP count_of_s (sCons (eV 8) (sCons (eV 8) sNil))) (sCons (eCP count_of_s (sCons (eV 10) (sCons (eV 8) sNil))) sNil))) sNil)) (eCB sReprE1 (sCons (eLst (sCons (eC (.int 1)) (sCons (eCB sInt (sCons (eOp sEqA (eV 10) (eV 8)) sNil)) sNil))) sNil))))
  (sRet (eC (.bool false)))
  sNext))))))))))
def law_L104_12 : SS := (sSeq (sAsg 14 (eCP law_left_s (sCons (eV 3) (sCons (eV 13) sNil))))
  (sPutD 12 (eOp sAdd (eGet2 (eV 12) (eV 14) (eC (.int 0))) (eC (.int 1))) (eV 14)))
def law_L103_8 : SS := (sFor (iSeq (eCP law_choices_s (sCons (eV 4) (sCons (eV 6) sNil)))) (gN 13) law_L104_12)
def law_E108_36 : SE := (eTup (sCons (eV 14) (sCons (eOp sIxA (eV 12) (eV 14)) sNil)))
def law_T111_19 : ST := (bOf (eOp sEqA (eCB sLenD (sCons (eV 14) sNil)) (eV 6)))
def law_E111_19 : SE := (eV 17)
def law_L110_8 : SS := (sIf (bOf (eOp sNeA (eCB sSum (sCons (eLc (iSeq (eV 15)) [14, 17] (gT 2 (gsC (gN 14) (gsC (gN 17) gsN))) law_T111_19 law_E111_19) sNil)) (eCP law_over_s (sCons (eV 4) (sCons (eV 6) sNil)))))
  (sRet (eC (.bool false)))
  sNext)
def law_T113_25 : ST := (bOf (eOp sEqA (eCB sLenD (sCons (eV 14) sNil)) (eV 4)))
def law_E113_25 : SE := (eV 14)
def law_E115_21 : SE := (eTup (sCons (eV 14) (sCons (eC (.int 1)) sNil)))
def law_E116_55 : SE := (eV 17)
def law_L82_4 : SS := (sSeq (sAsg 3 (eCD law_parting_s (sCons (eCD law_pick_s (sCons (eC (.int 9)) sNil)) sNil)))
  (sSeq (sAsg 4 (eCB sLenD (sCons (eV 3) sNil)))
  (sSeq (sFor (iRange1 (eC (.int 3))) (gN 5) law_L85_8)
  (sSeq (sIf (bOf (eOp sNeA (eCB sReprE1 (sCons (eLst (sCons (eCP count_of_s (sCons (eTup sNil) (sCons (eV 3) sNil))) (sCons (eCP copies_of_s (sCons (eTup sNil) (sCons (eV 3) sNil))) sNil))) sNil)) (eCB sReprE1 (sCons (eLst (sCons (eC (.int 1)) (sCons (eTup (sCons (eTup sNil) sNil)) sNil))) sNil))))
  (sRet (eC (.bool false)))
  sNext)
  (sSeq (sPar 11 12 (eCD law_pick_s (sCons (eC (.int 5)) sNil)) eDict0)
  (sSeq (sFor (iRange1 (eOp sAdd (eCB sMin2 (sCons (eV 11) (sCons (eV 4) sNil))) (eC (.int 1)))) (gN 6) law_L103_8)
  (sSeq (sAsg 15 (eCP counts_of_s (sCons (eV 3) (sCons (eV 11) sNil))))
  (sSeq (sIf (bOf (eOp sNeA (eCB sReprE1 (sCons (eV 15) sNil)) (eCB sReprE1 (sCons (eCB sTuple (sCons (eLc (iSeq (eCB sSorted (sCons (eV 12) sNil))) [14] (gN 14) bYes law_E108_36) sNil)) sNil))))
  (sRet (eC (.bool false)))
  sNext)
  (sSeq (sFor (iRange1 (eOp sAdd (eV 11) (eC (.int 1)))) (gN 6) law_L110_8)
  (sSeq (sIf (bAnd (bOf (eOp sLe (eV 4) (eV 11))) (bOf (eOp sNeA (eLc (iSeq (eV 15)) [14, 17] (gT 2 (gsC (gN 14) (gsC (gN 17) gsN))) law_T113_25 law_E113_25) (eLst (sCons (eV 3) sNil)))))
  (sRet (eC (.bool false)))
  sNext)
  (sSeq (sAsg 16 (eCB sTuple (sCons (eLc (iSeq (eV 15)) [14, 17] (gT 2 (gsC (gN 14) (gsC (gN 17) gsN))) bYes law_E115_21) sNil)))
  (sIf (bOf (eOp sNeA (eCB sReprE1 (sCons (eCP form_worth_s (sCons (eV 16) (sCons (eV 3) sNil))) sNil)) (eCB sReprE1 (sCons (eCB sSum (sCons (eLc (iSeq (eV 15)) [14, 17] (gT 2 (gsC (gN 14) (gsC (gN 17) gsN))) bYes law_E116_55) sNil)) sNil))))
  (sRet (eC (.bool false)))
  sNext))))))))))))
def law_b : SS :=
  (sSeq (sFor (iRange1 (eC (.int 3))) (gN 2) law_L82_4)
  (sRet (eOp sEqA (eCP count_of_s (sCons (eTup (sCons (eC (.int 0)) (sCons (eC (.int 0)) sNil))) (sCons (eOp sMulT (eTup (sCons (eC (.int 0)) sNil)) (eC (.int 14))) sNil))) (eC (.int 91)))))
end K10

set_option Elab.async false
set_option linter.all false
set_option maxRecDepth 100000
set_option maxHeartbeats 4000000
namespace K10
open PySem PySem.Spec L2 Q PP
def leftOf (Ds : List Int) (x : List Nat) : List Int := partOf (pickAt Ds x)
theorem leftOf_len (Ds : List Int) (x : List Nat) : (leftOf Ds x).length = x.length := by simp [leftOf, partOf, pickAt]
def blk (Ds : List Int) (s : Nat) : List (List Int) := (lots Ds.length s).map (leftOf Ds)
def seqL (Ds : List Int) (k : Nat) : List (List Int) := (List.range k).flatMap (blk Ds)
theorem seqL_succ (Ds : List Int) (k : Nat) : seqL Ds (k + 1) = seqL Ds k ++ blk Ds k := by
  unfold seqL
  rw [List.range_succ, List.flatMap_append]; simp
theorem len_tab : (List.range 9).all (fun (n : Nat) => (List.range 6).all fun k => decide ((lots n k).length ≤ 70)) = true := by decide +kernel
theorem lots70 {n k : Nat} (hn : n ≤ 8) (hk : k ≤ 5) : (lots n k).length ≤ 70 := of_decide_eq_true (List.all_eq_true.mp (List.all_eq_true.mp len_tab n (List.mem_range.mpr (by omega))) k (List.mem_range.mpr (by omega)))
theorem seqL_len {Ds : List Int} (hn : Ds.length ≤ 8) : ∀ k, k ≤ 6 → (seqL Ds k).length ≤ 70 * k
  | 0, _ => by simp [seqL]
  | k + 1, h => by
    rw [seqL_succ, List.length_append]
    have h1 := seqL_len hn k (by omega)
    have h2 := lots70 hn (show k ≤ 5 by omega)
    have h3 : (blk Ds k).length = (lots Ds.length k).length := List.length_map ..
    omega
theorem pw {n k j : Nat} (hn : n ≤ 8) (hk : k ≤ 5) (hj : j ≤ k) : n ^ j ≤ 1000000 :=
  Nat.le_trans (Nat.pow_le_pow_left hn j) (Nat.le_trans (Nat.pow_le_pow_right (by decide) (by omega : j ≤ 5)) (by decide))
def toldOf (Ds : List Int) (most : Nat) : List (List Int) := sortR (metR (seqL Ds (most + 1)))
def toldD (Ds : List Int) (most : Nat) : List D := (toldOf Ds most).map fun x => .tuple [iT x, .int ((seqL Ds (most + 1)).count x : Nat)]
theorem mem_told {Ds : List Int} {most : Nat} {x : List Int} : x ∈ toldOf Ds most ↔ x ∈ seqL Ds (most + 1) := by
  unfold toldOf
  rw [(sortR_perm _).mem_iff, mem_metR]
theorem told_len {Ds : List Int} (hn : Ds.length ≤ 8) {most : Nat} (hm : most ≤ 4) : (toldOf Ds most).length ≤ 350 := by
  have h1 := (sortR_perm (metR (seqL Ds (most + 1)))).length_eq
  have h2 := metR_len (seqL Ds (most + 1))
  have h3 := seqL_len hn (most + 1) (by omega)
  unfold toldOf
  omega
theorem m_counts (Ds : List Int) (most : Nat) (hn : Ds.length ≤ 8) (hm : most ≤ 4) : counts_of_s [iT Ds, .int most] = some (.tuple (toldD Ds most)) := by
  obtain ⟨⟨v3, v4, v5, v6⟩, e⟩ := for_turn (tg := gN 3) (b := counts_of_L3) (g := g0) (most + 1) (fun (s : List (List Int)) (j : Option D × Option D × Option D × Option D) => [some (iT Ds), some (.int (most : Int)), some (kd (cnt s)), j.1, j.2.1, j.2.2.1, j.2.2.2]) (seqL Ds) (none, none, none, none) _ rfl
    fun i ⟨v3, v4, v5, v6⟩ hi => by
      have hb : blk Ds i = (lots Ds.length i).flatMap fun x => [leftOf Ds x] := by
        unfold blk
        induction lots Ds.length i with
        | nil => rfl
        | cons x r ih => simp only [List.map_cons, List.flatMap_cons, ih, List.singleton_append]
      have l1 := seqL_len hn i (by omega)
      have l2 := lots70 hn (show i ≤ 5 by omega)
      have l3 : (blk Ds i).length = (lots Ds.length i).length := List.length_map ..
      have lo : all_lots_s [.int Ds.length, .int i] = some (.list ((lots Ds.length i).map nT)) := by
        rw [m_lots Ds.length i (by omega) (by omega) fun j hj => pw hn (show i ≤ 5 by omega) hj]
        by_cases c : Ds.length < i
        · rw [if_pos c, lots_nil c]; rfl
        · rw [if_neg c]
      obtain ⟨⟨w4, w5, w6⟩, e⟩ := for_flat (tg := gN 4) (b := counts_of_L11) (g := g0) (lots Ds.length i) nT (fun (l : List (List Int)) (j : Option D × Option D × Option D) => [some (iT Ds), some (.int (most : Int)), some (kd (cnt l)), some (.int (i : Int)), j.1, j.2.1, j.2.2]) (fun x => [leftOf Ds x]) (seqL Ds i) (v4, v5, v6) 1000000 (by rw [← hb]; omega)
        fun l ⟨v4, v5, v6⟩ x hx hl => by
          obtain ⟨x1, x2, x3⟩ := lots_mem hx
          refine ⟨[some (iT Ds), some (.int (most : Int)), some (kd (cnt l)), some (.int (i : Int)), some (nT x), v5, v6], (some (nT x), some (iT (leftOf Ds x)), v6), rfl, ?_⟩
          have pg := pick_go (tg := gN 6) (te := counts_of_E45) (ρ := [some (iT Ds), some (.int (most : Int)), some (kd (cnt l)), some (.int (i : Int)), some (nT x), v5, none]) (g := g0) x x2 fun j hj => ⟨_, rfl, fun d hd => by simp [counts_of_E45, hd]⟩
          have g := get_cnt l (leftOf Ds x)
          have p := store_kd (cnt l) (leftOf Ds x) (.int ((l.count (leftOf Ds x) : Nat) + 1)) (by have := cnt_len l; simp at hl; rw [sizeLine_eq]; omega)
          rw [put_cnt] at p
          unfold counts_of_L11
          refine (p_seq (p_asg (p_cp (p_c1 (p_lc (p_seqT (xs := (up x).map .int) rfl) pg (by rw [List.length_map, pickAt_len, sizeLine_eq]; omega))) (m_partL _ (by rw [pickAt_len]; omega))))).trans ?_
          have hL : iT (partOf (pickAt Ds x)) = iT (leftOf Ds x) := rfl
          rw [hL]
          generalize kd (cnt (l ++ [leftOf Ds x])) = K2 at *
          generalize kd (cnt l) = K1 at *
          generalize iT (leftOf Ds x) = X at *
          simp [g, p]
      refine ⟨[some (iT Ds), some (.int (most : Int)), some (kd (cnt (seqL Ds i))), some (.int (i : Int)), v4, v5, v6], (some (.int (i : Int)), w4, w5, w6), rfl, ?_⟩
      unfold counts_of_L3
      rw [← hb, ← seqL_succ] at e
      have ln : sLenD [iT Ds] = some (.int (Ds.length : Nat)) := by
        show sLenD [.tuple _] = _
        rw [u_lenDT, List.length_map]
      exact (p_for (p_seqL (p_cp (p_cs (p_cb rfl ln) (p_c1 rfl)) lo))).trans e
  have sl := seqL_len hn (most + 1) (by omega)
  have so := sort_kd (seqL Ds (most + 1)) (by omega)
  have lc : ∀ v3 v4, lcGo (gN 5) bYes counts_of_E22 [some (iT Ds), some (.int (most : Int)), some (kd (cnt (seqL Ds (most + 1)))), v3, v4, none, v6] ((toldOf Ds most).map iT) g0 = some (toldD Ds most, g0) := fun v3 v4 => by
    refine lcp _ iT _ fun x hx => ?_
    have ix := ixA_cnt (seqL Ds (most + 1)) x (mem_told.mp hx)
    generalize kd (cnt (seqL Ds (most + 1))) = K1 at *
    simp [lcK, counts_of_E22, ix]
  have tl := told_len hn hm
  unfold counts_of_s counts_of_b
  refine p_P ?_
  refine (p_seq (p_asg (d := .dict []) rfl)).trans ?_
  refine (p_seq ((p_for (p_r1 (m := most + 1) (by simp) (by omega))).trans e)).trans ?_
  exact p_ret (p_cb (p_c1 (p_lc (p_seqL (p_cb (p_c1 rfl) so)) (lc v3 v4) (by unfold toldD; rw [List.length_map, sizeLine_eq]; omega))) rfl)
end K10

set_option Elab.async false
set_option linter.all false
set_option maxRecDepth 100000
set_option maxHeartbeats 4000000
namespace K10
open PySem PySem.Spec L2 Q PP
theorem m_turned (P : List Int) (h : P.length ≤ 1000) : turned_s [iT P] = some (iT (partOf P.reverse)) := by
  have q := m_part P.reverse (by simpa using h)
  have e : iT P.reverse = .tuple (P.map .int).reverse := by unfold iT; rw [List.map_reverse]
  rw [e] at q
  unfold turned_s turned_b
  exact p_P (p_ret (p_cp (p_c1 (by unfold iT; simp)) q))
theorem cps_eq {P Ds : List Int} (h : P.length ≤ Ds.length) : cps P Ds = (lots Ds.length P.length).filter fun x => decide (leftOf Ds x = P) := by
  unfold cps leftOf
  rw [if_neg (by omega)]
theorem cps_len {P Ds : List Int} (hn : Ds.length ≤ 8) (hk : P.length ≤ 5) : (cps P Ds).length ≤ 70 := by
  unfold cps
  split
  · simp
  · exact Nat.le_trans (List.length_filter_le _ _) (lots70 hn hk)
theorem m_cp (P Ds : List Int) (hn : Ds.length ≤ 8) (hk : P.length ≤ 5) : copies_of_s [iT P, iT Ds] = some (.tuple ((cps P Ds).map nT)) :=
  m_copies P Ds (by omega) (by omega) fun j hj => pw hn hk hj
theorem m_count (P Ds : List Int) (hn : Ds.length ≤ 8) (hk : P.length ≤ 5) : count_of_s [iT P, iT Ds] = some (.int ((cps P Ds).length : Nat)) := by
  have l : sLenD [.tuple ((cps P Ds).map nT)] = some (.int ((cps P Ds).length : Nat)) := by rw [u_lenDT, List.length_map]
  unfold count_of_s count_of_b
  exact p_P (p_ret (p_cb (p_c1 (p_cp rfl (m_cp P Ds hn hk))) l))
theorem cMul_small {i j : Int} (h1 : i.natAbs < 2 ^ 20) (h2 : j.natAbs < 2 ^ 20) : cMul i j = true := smallR (by
  have : i.natAbs * j.natAbs < 2 ^ 20 * 2 ^ 20 := Nat.mul_lt_mul'' h1 h2
  rw [← Int.natAbs_mul] at this
  omega)
theorem m_worth (ps : List (List Int × Int)) (Ds : List Int) (hn : Ds.length ≤ 8) (hp : ∀ p ∈ ps, p.1.length ≤ 5 ∧ p.2.natAbs ≤ 1000) (hl : ps.length ≤ 1000) : form_worth_s [.tuple (ps.map fun p => .tuple [iT p.1, .int p.2]), iT Ds] = some (.int ((ps.map fun p => p.2 * (((cps p.1 Ds).length : Nat) : Int)).sum)) := by
  have lc : lcGo (gT 2 (gsC (gN 2) (gsC (gN 3) gsN))) bYes form_worth_E7 [some (.tuple (ps.map fun p => .tuple [iT p.1, .int p.2])), some (iT Ds), none, none] (ps.map fun p => .tuple [iT p.1, .int p.2]) g0 = some ((ps.map fun p => p.2 * (((cps p.1 Ds).length : Nat) : Int)).map .int, g0) := by
    rw [List.map_map]
    refine lcp ps _ _ fun p hpm => ?_
    obtain ⟨h1, h2⟩ := hp p hpm
    have c := m_count p.1 Ds hn h1
    have l := cps_len hn h1
    have m : cMul p.2 ((cps p.1 Ds).length : Nat) = true := cMul_small (by omega) (by omega)
    generalize (ps.map fun p => PyData.tuple [iT p.1, .int p.2]) = Z at *
    generalize iT Ds = W at *
    generalize iT p.1 = X at *
    simp [lcK, form_worth_E7, c, m]
  unfold form_worth_s form_worth_b
  exact p_P (p_ret (p_cb (p_c1 (p_lc (p_seqT rfl) lc (by rw [List.length_map, List.length_map, sizeLine_eq]; omega))) u_sum))
/-! ### tables -/
def okO (n k : Nat) : Bool := match law_over_s [.int (n : Int), .int (k : Int)] with
  | some (.int a) => a == ((lots n k).length : Int)
  | _ => false
theorem over_tab : (List.range 9).all (fun (n : Nat) => (List.range 6).all fun k => okO n k) = true := by decide +kernel
theorem m_over {n k : Nat} (hn : n ≤ 8) (hk : k ≤ 5) : law_over_s [.int (n : Int), .int (k : Int)] = some (.int ((lots n k).length : Nat)) := by
  have h := List.all_eq_true.mp (List.all_eq_true.mp over_tab n (List.mem_range.mpr (by omega))) k (List.mem_range.mpr (by omega))
  unfold okO at h
  split at h
  · rename_i a e
    rw [e, beq_iff_eq.mp h]
  · cases h
theorem full_tab : (List.range 6).all (fun (k : Nat) => lots k k == [List.range k]) = true := by decide +kernel
theorem full {k : Nat} (hk : k ≤ 5) : lots k k = [List.range k] := beq_iff_eq.mp (List.all_eq_true.mp full_tab k (List.mem_range.mpr (by omega)))
def flip (n : Nat) (x : List Nat) : List Nat := (x.map fun i => n - 1 - i).reverse
theorem flip_tab : (List.range 9).all (fun (n : Nat) => (List.range 6).all fun k => ((lots n k).map (flip n)).isPerm (lots n k)) = true := by decide +kernel
theorem flip_perm {n k : Nat} (hn : n ≤ 8) (hk : k ≤ 5) : ((lots n k).map (flip n)).Perm (lots n k) :=
  List.isPerm_iff.mp (List.all_eq_true.mp (List.all_eq_true.mp flip_tab n (List.mem_range.mpr (by omega))) k (List.mem_range.mpr (by omega)))
/-! ### turned -/
theorem part_rev (A : List Int) : partOf A.reverse = partOf (partOf A).reverse := by
  have h : Inj (fun l => ((placeOf (metOf A) l : Nat) : Int)) A.reverse := fun x hx y hy e => partOf_inj A x (List.mem_reverse.mp hx) y (List.mem_reverse.mp hy) e
  have := partOf_map _ A.reverse h
  rw [List.map_reverse] at this
  exact this.symm
theorem pickAt_mem {Ds : List Int} {x : List Nat} (hx : ∀ i ∈ x, i < Ds.length) : ∀ l ∈ pickAt Ds x, l ∈ Ds := fun l hl => by
  obtain ⟨i, hi, rfl⟩ := List.mem_map.mp hl
  exact List.mem_of_getElem? (get_at (hx i hi))
theorem pickAt_map (f : Int → Int) {Ds : List Int} {x : List Nat} (hx : ∀ i ∈ x, i < Ds.length) : pickAt (Ds.map f) x = (pickAt Ds x).map f := by
  unfold pickAt
  rw [List.map_map]
  refine List.map_congr_left fun i hi => ?_
  have h := hx i hi
  simp only [Function.comp_apply]
  rw [List.getD_eq_getElem?_getD, List.getElem?_map, List.getElem?_eq_getElem h, List.getD_eq_getElem?_getD, List.getElem?_eq_getElem h]; rfl
theorem leftOf_part {Ds : List Int} {x : List Nat} (hx : ∀ i ∈ x, i < Ds.length) : leftOf (partOf Ds) x = leftOf Ds x := by
  unfold leftOf
  conv => lhs; unfold partOf; arg 1
  show partOf (pickAt (Ds.map fun l => ((placeOf (metOf Ds) l : Nat) : Int)) x) = _
  rw [pickAt_map _ hx]
  exact partOf_map _ _ fun a ha b hb e => partOf_inj Ds a (pickAt_mem hx a ha) b (pickAt_mem hx b hb) e
theorem pickAt_flip {Ds : List Int} {x : List Nat} (hx : ∀ i ∈ x, i < Ds.length) : pickAt Ds.reverse (flip Ds.length x) = (pickAt Ds x).reverse := by
  unfold pickAt flip
  rw [List.map_reverse, List.map_map]
  congr 1
  refine List.map_congr_left fun i hi => ?_
  have h := hx i hi
  simp only [Function.comp_apply]
  rw [List.getD_eq_getElem?_getD, List.getD_eq_getElem?_getD, List.getElem?_reverse (by omega)]
  congr 2
  omega
theorem turned_same {P Ds : List Int} (hP : RG P) (hn : Ds.length ≤ 8) (hk : P.length ≤ 5) : (cps (partOf P.reverse) (partOf Ds.reverse)).length = (cps P Ds).length := by
  have e1 : (partOf P.reverse).length = P.length := by simp [partOf]
  have e2 : (partOf Ds.reverse).length = Ds.length := by simp [partOf]
  by_cases c : Ds.length < P.length
  · unfold cps
    rw [e1, e2, if_pos c, if_pos c]
  · rw [cps_eq (by omega), cps_eq (by omega), e1, e2]
    have pm := (flip_perm hn hk).symm.filter fun x => decide (leftOf (partOf Ds.reverse) x = partOf P.reverse)
    rw [pm.length_eq, List.filter_map, List.length_map]
    congr 1
    refine List.filter_congr fun x hx => ?_
    obtain ⟨x1, x2, x3⟩ := lots_mem hx
    have hf : ∀ i ∈ flip Ds.length x, i < Ds.reverse.length := fun i hi => by
      unfold flip at hi
      obtain ⟨j, hj, rfl⟩ := List.mem_map.mp (List.mem_reverse.mp hi)
      have := x2 j hj
      rw [List.length_reverse]; omega
    simp only [Function.comp_apply]
    rw [leftOf_part hf]
    unfold leftOf
    rw [pickAt_flip x2, Bool.eq_iff_iff, decide_eq_true_iff, decide_eq_true_iff]
    constructor
    · intro h
      have h2 : partOf (partOf (pickAt Ds x).reverse).reverse = partOf (partOf P.reverse).reverse := by rw [h]
      rw [← part_rev, ← part_rev, List.reverse_reverse, List.reverse_reverse] at h2
      rw [h2]; exact hP
    · intro h
      rw [part_rev, h]
theorem pickAt_all (L : List Int) : pickAt L (List.range L.length) = L := by
  unfold pickAt
  refine List.ext_getElem? fun i => ?_
  rw [List.getElem?_map]
  by_cases h : i < L.length
  · rw [List.getElem?_range h, get_at h]; rfl
  · rw [List.getElem?_eq_none (by simp; omega), List.getElem?_eq_none (by omega)]; rfl
theorem cps_same {T L : List Int} (hL : RG L) (hl : T.length = L.length) (hk : L.length ≤ 5) : (cps T L).length = if T = L then 1 else 0 := by
  rw [cps_eq (by omega), hl, full hk]
  have e : leftOf L (List.range L.length) = L := by
    unfold leftOf
    rw [pickAt_all]; exact hL
  rw [List.filter_cons]
  by_cases h : T = L
  · rw [if_pos (decide_eq_true (by rw [e, h])), if_pos h]; rfl
  · rw [if_neg (by rw [decide_eq_true_iff, e]; exact fun z => h z.symm), if_neg h]; rfl
theorem cps_nil (Ds : List Int) : cps [] Ds = [[]] := by
  rw [cps_eq (Nat.zero_le _)]; rfl
end K10

set_option Elab.async false
set_option linter.all false
set_option maxRecDepth 100000
set_option maxHeartbeats 4000000
namespace K10
open PySem PySem.Spec L2 Q PP
abbrev E (v2 v3 v4 v5 v6 v7 v8 v9 v10 v11 v12 v13 v14 v15 v16 v17 : Option D) : Ev := [none, none, v2, v3, v4, v5, v6, v7, v8, v9, v10, v11, v12, v13, v14, v15, v16, v17]
theorem lot_gd {n k : Nat} (hn : n ≤ 8) (hk : k ≤ 5) {x : List Nat} (hx : x ∈ lots n k) : Gd 8 1 9619 (nT x) := by
  obtain ⟨h1, h2, h3⟩ := lots_mem hx
  have := Gd.iT (b := 8) (xs := up x) fun i hi => by
    obtain ⟨j, hj, rfl⟩ := List.mem_map.mp hi
    have := h2 j hj
    omega
  refine this.mono (Nat.le_refl _) (Nat.le_refl _) ?_
  have : (up x).length = k := by simp [up, h1]
  omega
theorem cps_gd {P Ds : List Int} (hn : Ds.length ≤ 8) (hk : P.length ≤ 5) : Gds 8 1 680000 ((cps P Ds).map nT) := by
  have := Gds.all (b := 8) (k := 1) (n := 9619) (xs := (cps P Ds).map nT) fun d hd => by
    obtain ⟨x, hx, rfl⟩ := List.mem_map.mp hd
    exact lot_gd hn hk (cps_mem hx)
  refine ⟨this.ok, this.dp, Nat.le_trans this.wt ?_⟩
  have := cps_len hn hk
  rw [List.length_map]
  omega
theorem turn_ok (Ds : List Int) (hn : Ds.length ≤ 8) (hR : RG Ds) (v2 v5 v6 v7 v8 v9 v10 v11 v12 v13 v14 v15 v16 : Option D) (g : G) : ∃ w6 w7 w8 w9 w10 g', law_L85_8 (E v2 (some (iT Ds)) (some (.int (Ds.length : Nat))) v5 v6 v7 v8 v9 v10 v11 v12 v13 v14 v15 v16 none) g = some (.nx (E v2 (some (iT Ds)) (some (.int (Ds.length : Nat))) v5 w6 w7 w8 w9 w10 v11 v12 v13 v14 v15 v16 none), g') := by
  obtain ⟨k, g1, e1, h1⟩ := pick_n (min Ds.length 5 + 1) (by omega) g
  have hk : k ≤ 5 := by omega
  have hkn : k ≤ Ds.length := by omega
  have e2 := m_choices Ds.length k (by omega) (by omega) fun j hj => pw hn hk hj
  obtain ⟨c, g2, e3, hc⟩ := of_ok (ds := (lots Ds.length k).map nT) (by simpa using lots_ne hkn) (by
    rw [List.length_map]
    have := lots70 hn hk
    omega) g1
  obtain ⟨x, hx, rfl⟩ := List.mem_map.mp hc
  obtain ⟨x1, x2, x3⟩ := lots_mem hx
  have e4 := m_left Ds x (by omega) x2 x3
  obtain ⟨r3, g3, e5, _⟩ := pick_n 3 (by decide) g2
  have e5' : law_pick_s [.int 3] g2 = some (.int (r3 : Int), g3) := e5
  -- the little one
  have lit : ∃ P g4, eIf (bOf (eOp sGt (eCD law_pick_s (sCons (eC (.int 3)) sNil)) (eC (.int 0)))) (eV 8) (eCD law_parting_s (sCons (eV 6) sNil)) (E v2 (some (iT Ds)) (some (.int (Ds.length : Nat))) v5 (some (.int (k : Int))) (some (.list ((lots Ds.length k).map nT))) (some (iT (partOf (pickAt Ds x)))) v9 v10 v11 v12 v13 v14 v15 v16 none) g2 = some (iT P, g4) ∧ RG P ∧ P.length = k := by
    by_cases c : r3 = 0
    · obtain ⟨P, g4, e6, hP, hl⟩ := m_parting k (by omega) g3
      refine ⟨P, g4, ?_, hP, hl⟩
      rw [r_eifF (g1 := g3) (by simp [e5', c])]
      exact (r_cd rfl).trans e6
    · refine ⟨partOf (pickAt Ds x), g3, ?_, partOf_twice _, by simp [partOf, pickAt, x1]⟩
      rw [r_eifT (g1 := g3) (by simp [e5']; omega)]
      rfl
  obtain ⟨P, g4, e6, hP, Pl⟩ := lit
  have Pk : P.length ≤ 5 := by omega
  have lc : lcGo (gN 13) law_T90_24 law_E90_24 (E v2 (some (iT Ds)) (some (.int (Ds.length : Nat))) v5 (some (.int (k : Int))) (some (.list ((lots Ds.length k).map nT))) (some (iT P)) v9 v10 v11 v12 none v14 v15 v16 none) ((lots Ds.length k).map nT) g4 = some ((cps P Ds).map nT, g4) := by
    rw [cps_eq (by omega), Pl]
    refine lcf _ nT nT _ fun y hy => ?_
    obtain ⟨y1, y2, y3⟩ := lots_mem hy
    have l := m_left Ds y (by omega) y2 y3
    have q := u_eqIT (xs := leftOf Ds y) (ys := P)
    unfold leftOf at q ⊢
    cases h : decide (partOf (pickAt Ds y) = P) <;> rw [h] at q <;> simp [lcK, law_T90_24, law_E90_24, l, q]
  have c1 := m_cp P Ds hn Pk
  have c2 := m_count P Ds hn Pk
  have G1 := cps_gd hn Pk
  have L70 := cps_len hn Pk
  have gl : Gd 80 2 700000 (.tuple ((cps P Ds).map nT)) := G1.T.mono (by decide) (by decide) (by decide)
  have gi : Gd 80 2 700000 (.int ((cps P Ds).length : Nat)) := (Gd.int (b := 80) (by omega)).mono (by decide) (by decide) (by decide)
  have r1 := ((Gds.cons gl (Gds.cons gi Gds.nil)).L).repr (by decide +kernel) (by decide) (by decide)
  have ln : sLenD [.tuple ((cps P Ds).map nT)] = some (.int ((cps P Ds).length : Nat)) := by rw [u_lenDT, List.length_map]
  have t1 := m_turned P (by omega)
  have t2 := m_turned Ds (by omega)
  have t3 := m_count (partOf P.reverse) (partOf Ds.reverse) (by simp [partOf]; omega) (by simp [partOf]; omega)
  rw [turned_same hP hn Pk] at t3
  have w1 := m_worth [(P, 5)] Ds hn (by simp; omega) (by simp)
  simp only [List.map_cons, List.map_nil, List.sum_cons, List.sum_nil, Int.add_zero] at w1
  obtain ⟨T, g5, e7, hT, Tl⟩ := m_parting k (by omega) g4
  have s1 := m_count P P (by omega) Pk
  rw [cps_same hP rfl Pk, if_pos rfl] at s1
  have s2 := m_count T P (by omega) (by omega)
  rw [cps_same hP (by omega) Pk] at s2
  have m5 : cMul 5 (((cps P Ds).length : Nat) : Int) = true := cMul_small (by decide) (by omega)
  have q10 := u_eqIT (xs := T) (ys := P)
  have r2 : sReprE (.list [.int 1, .int ((if T = P then 1 else 0 : Nat) : Int)]) = some (.str (PyData.shown (.list [.int 1, .int ((if T = P then 1 else 0 : Nat) : Int)]))) := by
    have h1 : Gd 1 0 1921 (.int 1) := Gd.int (by decide)
    have h2 : Gd 1 0 1921 (.int ((if T = P then 1 else 0 : Nat) : Int)) := Gd.int (by split <;> decide)
    exact ((Gds.cons h1 (Gds.cons h2 Gds.nil)).L).repr (by decide +kernel) (by decide) (by decide)
  have i10 : sInt [.bool (decide (T = P))] = some (.int ((if T = P then 1 else 0 : Nat) : Int)) := by
    by_cases h : T = P <;> simp [h, sInt]
  refine ⟨some (.int (k : Int)), some (.list ((lots Ds.length k).map nT)), some (iT P), some (.tuple ((cps P Ds).map nT)), some (iT T), g5, ?_⟩
  have s6 : eOp sAdd (eCB sMin2 (sCons (eV 4) (sCons (eC (.int 5)) sNil))) (eC (.int 1)) (E v2 (some (iT Ds)) (some (.int (Ds.length : Nat))) v5 v6 v7 v8 v9 v10 v11 v12 v13 v14 v15 v16 none) g = some (.int ((min Ds.length 5 + 1 : Nat) : Int), g) := by
    simp
    split <;> omega
  have lr : ((lots Ds.length k).map nT).length ≤ sizeLine := by
    have := lots70 hn hk
    rw [List.length_map, sizeLine_eq]; omega
  have cl : ((cps P Ds).map nT).length ≤ sizeLine := by rw [List.length_map, sizeLine_eq]; omega
  unfold law_L85_8
  refine (r_seq (r_asg ((r_cd (r_c1 s6)).trans e1))).trans ?_
  refine (r_seq (r_asg (r_cp (g1 := g1) rfl e2))).trans ?_
  refine (r_seq (r_asg (r_cp (r_cs rfl (r_c1 ((r_cd rfl).trans e3))) e4))).trans ?_
  refine (r_seq (r_asg e6)).trans ?_
  refine (r_seq (r_asg (r_cb (r_c1 (r_lc (g1 := g4) (r_seqL rfl) lc cl)) rfl))).trans ?_
  generalize hA : (cps P Ds).map nT = A at *
  generalize hB : ((cps P Ds).length) = B at *
  generalize hC : (lots Ds.length k).map nT = C at *
  clear lc e2 e3 e4 e6
  generalize iT P = p at *
  generalize iT T = t at *
  generalize iT (partOf P.reverse) = pr at *
  generalize iT (partOf Ds.reverse) = dr at *
  generalize hX : (.int ((if T = P then 1 else 0 : Nat) : Int) : D) = X at *
  generalize hnn : Ds.length = nn at *
  generalize iT Ds = ds at *
  by_cases k5 : (k : Int) < 5 <;> simp [c1, c2, r1, ln, t1, t2, t3, w1, m5, e7, s1, s2, r2, q10, i10, k5]
end K10

set_option Elab.async false
set_option linter.all false
set_option maxRecDepth 100000
set_option maxHeartbeats 4000000
namespace K10
open PySem PySem.Spec L2 Q PP
theorem blk_len {Ds : List Int} {s : Nat} {x : List Int} (h : x ∈ blk Ds s) : x.length = s := by
  obtain ⟨y, hy, rfl⟩ := List.mem_map.mp h
  rw [leftOf_len, (lots_mem hy).1]
theorem seq_filter (Ds : List Int) (k : Nat) : ∀ m, (seqL Ds m).filter (fun x => decide (x.length = k)) = if k < m then blk Ds k else []
  | 0 => by simp [seqL]
  | m + 1 => by
    rw [seqL_succ, List.filter_append, seq_filter Ds k m]
    by_cases e : m = k
    · subst e
      rw [if_neg (by omega), if_pos (by omega), List.nil_append]
      exact List.filter_eq_self.mpr fun x hx => decide_eq_true (blk_len hx)
    · have : (blk Ds m).filter (fun x => decide (x.length = k)) = [] := List.filter_eq_nil_iff.mpr fun x hx => by
        have := blk_len hx
        simp; omega
      rw [this, List.append_nil]
      by_cases h : k < m
      · rw [if_pos h, if_pos (by omega)]
      · rw [if_neg h, if_neg (by omega)]
theorem mem_seq {Ds : List Int} {m : Nat} {x : List Int} (h : x ∈ seqL Ds m) : x.length < m ∧ x ∈ blk Ds x.length ∧ x.length ≤ Ds.length := by
  obtain ⟨s, hs, hx⟩ := List.mem_flatMap.mp h
  have e := blk_len hx
  subst e
  refine ⟨List.mem_range.mp hs, hx, ?_⟩
  rcases Nat.lt_or_ge Ds.length x.length with c | c
  · unfold blk at hx
    rw [lots_nil c] at hx
    cases hx
  · exact c
theorem count_cps {Ds : List Int} {m : Nat} {x : List Int} (h : x ∈ seqL Ds m) : (seqL Ds m).count x = (cps x Ds).length := by
  obtain ⟨h1, h2, h3⟩ := mem_seq h
  have e : (seqL Ds m).count x = ((seqL Ds m).filter (fun y => decide (y.length = x.length))).count x := by
    rw [List.count_filter (by simp)]
  rw [e, seq_filter, if_pos h1, cps_eq h3]
  unfold blk
  rw [List.count_eq_length_filter, List.filter_map, List.length_map]
  congr 1
  refine List.filter_congr fun y _ => ?_
  rw [Bool.eq_iff_iff]
  simp
theorem told_nodup (Ds : List Int) (most : Nat) : (toldOf Ds most).Nodup := (sortR_perm _).nodup_iff.mpr (metR_nodup _)
theorem told_sum {Ds : List Int} {most k : Nat} (h : k ≤ most) : (((toldOf Ds most).filter fun x => decide (x.length = k)).map fun x => (((seqL Ds (most + 1)).count x : Nat) : Int)).sum = ((lots Ds.length k).length : Nat) := by
  rw [sum_count _ (seqL Ds (most + 1)) (fun x => decide (x.length = k)) ((told_nodup Ds most).filter _) (fun x hx hp => List.mem_filter.mpr ⟨mem_told.mpr hx, hp⟩) (fun x hx => (List.mem_filter.mp hx).2), seq_filter, if_pos (by omega)]
  unfold blk
  rw [List.length_map]
theorem told_all (Ds : List Int) (most : Nat) : ((toldOf Ds most).map fun x => (((seqL Ds (most + 1)).count x : Nat) : Int)).sum = ((seqL Ds (most + 1)).length : Nat) := by
  rw [sum_count _ (seqL Ds (most + 1)) (fun _ => true) (told_nodup Ds most) (fun x hx _ => mem_told.mpr hx) (fun _ _ => rfl), List.filter_eq_self.mpr fun _ _ => rfl]
theorem told_whole {Ds : List Int} (hR : RG Ds) {most : Nat} (h : Ds.length ≤ most) (hm : most ≤ 4) : (toldOf Ds most).filter (fun x => decide (x.length = Ds.length)) = [Ds] := by
  have hb : blk Ds Ds.length = [Ds] := by
    unfold blk
    rw [full (by omega)]
    show [leftOf Ds (List.range Ds.length)] = [Ds]
    unfold leftOf
    rw [pickAt_all, hR]
  have hall : ∀ x ∈ (toldOf Ds most).filter (fun x => decide (x.length = Ds.length)), x = Ds := fun x hx => by
    obtain ⟨h1, h2⟩ := List.mem_filter.mp hx
    obtain ⟨_, h3, _⟩ := mem_seq (mem_told.mp h1)
    rw [of_decide_eq_true h2, hb] at h3
    exact List.mem_singleton.mp h3
  have hin : Ds ∈ (toldOf Ds most).filter (fun x => decide (x.length = Ds.length)) := by
    refine List.mem_filter.mpr ⟨mem_told.mpr (List.mem_flatMap.mpr ⟨Ds.length, List.mem_range.mpr (by omega), by rw [hb]; simp⟩), by simp⟩
  have hnd := (told_nodup Ds most).filter fun x => decide (x.length = Ds.length)
  generalize (toldOf Ds most).filter (fun x => decide (x.length = Ds.length)) = M at *
  match M, hall, hin, hnd with
  | [], _, hin, _ => cases hin
  | [x], hall, _, _ => rw [hall x (by simp)]
  | x :: y :: r, hall, _, hnd =>
    have e1 := hall x (by simp)
    have e2 := hall y (by simp)
    exact absurd (e1.trans e2.symm) ((List.pairwise_cons.mp hnd).1 y (by simp))
theorem part_small {ls : List Int} {l : Int} (h : l ∈ partOf ls) : l.natAbs ≤ ls.length := by
  obtain ⟨k, hk, rfl⟩ := List.mem_map.mp h
  have h1 := placeOf_lt (mem_met.mpr hk)
  have h2 := metOf_len ls
  simp only [Int.natAbs_natCast]
  omega
theorem told_len5 {Ds : List Int} {most : Nat} (hm : most ≤ 4) {x : List Int} (h : x ∈ toldOf Ds most) : x.length ≤ 4 := by
  have := (mem_seq (mem_told.mp h)).1
  omega
theorem told_gd {Ds : List Int} (hn : Ds.length ≤ 8) {most : Nat} (hm : most ≤ 4) : Gd 400 3 4000000 (.tuple (toldD Ds most)) := by
  have sl := seqL_len hn (most + 1) (by omega)
  have h := Gds.all (b := 400) (k := 2) (n := 9630) (xs := toldD Ds most) fun d hd => by
    obtain ⟨x, hx, rfl⟩ := List.mem_map.mp hd
    have xl := told_len5 hm hx
    have h1 : Gd 400 1 7700 (iT x) := by
      refine (Gd.iT (b := 400) fun l hl => ?_).mono (Nat.le_refl _) (Nat.le_refl _) (by omega)
      obtain ⟨_, hb, _⟩ := mem_seq (mem_told.mp hx)
      obtain ⟨y, hy, e⟩ := List.mem_map.mp hb
      rw [← e] at hl
      have := part_small hl
      rw [pickAt_len, (lots_mem hy).1] at this
      omega
    have h2 : Gd 400 1 1921 (.int ((seqL Ds (most + 1)).count x : Nat)) := (Gd.int (by have := List.count_le_length (a := x) (l := seqL Ds (most + 1)); omega)).mono (Nat.le_refl _) (by decide) (Nat.le_refl _)
    exact (Gds.cons h1 (Gds.cons h2 Gds.nil)).T.mono (Nat.le_refl _) (Nat.le_refl _) (by decide)
  have hl := told_len hn hm
  have : (toldD Ds most).length ≤ 350 := by unfold toldD; rw [List.length_map]; exact hl
  exact h.T.mono (Nat.le_refl _) (Nat.le_refl _) (by omega)
theorem seq_far (Ds : List Int) (most : Nat) : seqL Ds (min most Ds.length + 1) = seqL Ds (most + 1) := by
  rcases Nat.le_total most Ds.length with h | h
  · rw [Nat.min_eq_left h]
  · rw [Nat.min_eq_right h]
    have key : ∀ j, seqL Ds (Ds.length + 1 + j) = seqL Ds (Ds.length + 1) := fun j => by
      induction j with
      | zero => rfl
      | succ j ih =>
        rw [show Ds.length + 1 + (j + 1) = (Ds.length + 1 + j) + 1 by omega, seqL_succ, ih]
        have : blk Ds (Ds.length + 1 + j) = [] := by unfold blk; rw [lots_nil (by omega)]; rfl
        rw [this, List.append_nil]
    obtain ⟨j, rfl⟩ : ∃ j, most = Ds.length + j := ⟨most - Ds.length, by omega⟩
    rw [show Ds.length + j + 1 = Ds.length + 1 + j by omega, key]
/-- the dict that the law counts in -/
theorem found_ok (Ds : List Int) (hn : Ds.length ≤ 8) (most : Nat) (hm : most ≤ 4) (v2 v5 v6 v7 v8 v9 v10 v13 v14 v15 v16 : Option D) (g : G) : ∃ w6 w13 w14, forGo (gN 6) law_L103_8 ((List.range (min most Ds.length + 1)).map fun (i : Nat) => .int (i : Int)) (E v2 (some (iT Ds)) (some (.int (Ds.length : Nat))) v5 v6 v7 v8 v9 v10 (some (.int (most : Int))) (some (.dict [])) v13 v14 v15 v16 none) g = some (.nx (E v2 (some (iT Ds)) (some (.int (Ds.length : Nat))) v5 w6 v7 v8 v9 v10 (some (.int (most : Int))) (some (kd (cnt (seqL Ds (most + 1))))) w13 w14 v15 v16 none), g) := by
  obtain ⟨⟨w6, w13, w14⟩, e⟩ := for_turn (tg := gN 6) (b := law_L103_8) (g := g) (min most Ds.length + 1) (fun (s : List (List Int)) (j : Option D × Option D × Option D) => E v2 (some (iT Ds)) (some (.int (Ds.length : Nat))) v5 j.1 v7 v8 v9 v10 (some (.int (most : Int))) (some (kd (cnt s))) j.2.1 j.2.2 v15 v16 none) (seqL Ds) (v6, v13, v14) _ rfl
    fun i ⟨v6, v13, v14⟩ hi => by
      have hb : blk Ds i = (lots Ds.length i).flatMap fun x => [leftOf Ds x] := by
        unfold blk
        induction lots Ds.length i with
        | nil => rfl
        | cons x r ih => simp only [List.map_cons, List.flatMap_cons, ih, List.singleton_append]
      have l1 := seqL_len hn i (by omega)
      have l2 := lots70 hn (show i ≤ 5 by omega)
      have l3 : (blk Ds i).length = (lots Ds.length i).length := List.length_map ..
      have lo := m_choices Ds.length i (by omega) (by omega) fun j hj => pw hn (show i ≤ 5 by omega) hj
      obtain ⟨⟨w13, w14⟩, e⟩ := for_flat (tg := gN 13) (b := law_L104_12) (g := g) (lots Ds.length i) nT (fun (l : List (List Int)) (j : Option D × Option D) => E v2 (some (iT Ds)) (some (.int (Ds.length : Nat))) v5 (some (.int (i : Int))) v7 v8 v9 v10 (some (.int (most : Int))) (some (kd (cnt l))) j.1 j.2 v15 v16 none) (fun x => [leftOf Ds x]) (seqL Ds i) (v13, v14) 1000000 (by rw [← hb]; omega)
        fun l ⟨v13, v14⟩ x hx hl => by
          obtain ⟨x1, x2, x3⟩ := lots_mem hx
          refine ⟨E v2 (some (iT Ds)) (some (.int (Ds.length : Nat))) v5 (some (.int (i : Int))) v7 v8 v9 v10 (some (.int (most : Int))) (some (kd (cnt l))) (some (nT x)) v14 v15 v16 none, (some (nT x), some (iT (leftOf Ds x))), rfl, ?_⟩
          have lf : law_left_s [iT Ds, nT x] = some (iT (leftOf Ds x)) := m_left Ds x (by omega) x2 x3
          have gt := get_cnt l (leftOf Ds x)
          have p := store_kd (cnt l) (leftOf Ds x) (.int ((l.count (leftOf Ds x) : Nat) + 1)) (by have := cnt_len l; simp at hl; rw [sizeLine_eq]; omega)
          rw [put_cnt] at p
          unfold law_L104_12
          refine (r_seq (r_asg (r_cp (g1 := g) rfl lf))).trans ?_
          generalize kd (cnt (l ++ [leftOf Ds x])) = K2 at *
          generalize kd (cnt l) = K1 at *
          generalize iT (leftOf Ds x) = X at *
          simp [gt, p]
      refine ⟨E v2 (some (iT Ds)) (some (.int (Ds.length : Nat))) v5 (some (.int (i : Int))) v7 v8 v9 v10 (some (.int (most : Int))) (some (kd (cnt (seqL Ds i)))) v13 v14 v15 v16 none, (some (.int (i : Int)), w13, w14), rfl, ?_⟩
      unfold law_L103_8
      rw [← hb, ← seqL_succ] at e
      exact (r_for (r_seqL (r_cp (g1 := g) rfl lo))).trans e
  rw [seq_far] at e
  exact ⟨w6, w13, w14, e⟩
end K10

set_option Elab.async false
set_option linter.all false
set_option maxRecDepth 100000
set_option maxHeartbeats 4000000
namespace K10
open PySem PySem.Spec L2 Q PP
abbrev cn (Ds : List Int) (most : Nat) (x : List Int) : Int := (((seqL Ds (most + 1)).count x : Nat) : Int)
theorem lcT {Ds : List Int} {most : Nat} {tt : ST} {te : SE} {ρ : Ev} {g : G} (φ : List Int → D) (p : List Int → Bool)
    (h : ∀ x ∈ toldOf Ds most, tt ((ρ.set 14 (some (iT x))).set 17 (some (.int (cn Ds most x)))) g = some (p x, g) ∧ te ((ρ.set 14 (some (iT x))).set 17 (some (.int (cn Ds most x)))) g = some (φ x, g)) :
    lcGo (gT 2 (gsC (gN 14) (gsC (gN 17) gsN))) tt te ρ (toldD Ds most) g = some (((toldOf Ds most).filter p).map φ, g) := by
  unfold toldD
  refine lcf (toldOf Ds most) _ φ p fun x hx => ?_
  obtain ⟨h1, h2⟩ := h x hx
  have s : gT 2 (gsC (gN 14) (gsC (gN 17) gsN)) (.tuple [iT x, .int ((seqL Ds (most + 1)).count x : Nat)]) ρ = some ((ρ.set 14 (some (iT x))).set 17 (some (.int (cn Ds most x)))) := rfl
  unfold lcK
  simp only [s, h1]
  cases hp : p x
  · rfl
  · simp only [h2, if_true]
theorem lenT (zs : List Int) : sLenD [iT zs] = some (.int (zs.length : Nat)) := by
  show sLenD [.tuple _] = _
  rw [u_lenDT, List.length_map]
theorem lap_ok (v2 v3 v4 v5 v6 v7 v8 v9 v10 v11 v12 v13 v14 v15 v16 : Option D) (g : G) : ∃ w3 w4 w5 w6 w7 w8 w9 w10 w11 w12 w13 w14 w15 w16 g', law_L82_4 (E v2 v3 v4 v5 v6 v7 v8 v9 v10 v11 v12 v13 v14 v15 v16 none) g = some (.nx (E v2 w3 w4 w5 w6 w7 w8 w9 w10 w11 w12 w13 w14 w15 w16 none), g') := by
  obtain ⟨n, g1, e1, h1⟩ := pick_n 9 (by decide) g
  obtain ⟨Ds, g2, e2, hR, hn⟩ := m_parting n (by omega) g1
  have hn8 : Ds.length ≤ 8 := by omega
  have e2' : law_parting_s [.int (Ds.length : Nat)] g1 = some (iT Ds, g2) := by rw [hn]; exact e2
  have e1' : law_pick_s [.int 9] g = some (.int (Ds.length : Nat), g1) := by rw [hn]; exact e1
  -- the turns
  obtain ⟨ρ', g3, e3, w5, w6, w7, w8, w9, w10, rfl⟩ := for_inv (tgt := gN 5) (b := law_L85_8) (ds := rangeD 0 3) (ρ := E v2 (some (iT Ds)) (some (.int (Ds.length : Nat))) v5 v6 v7 v8 v9 v10 v11 v12 v13 v14 v15 v16 none) (g := g2)
    (fun _ ρ _ => ∃ v5 v6 v7 v8 v9 v10, ρ = E v2 (some (iT Ds)) (some (.int (Ds.length : Nat))) v5 v6 v7 v8 v9 v10 v11 v12 v13 v14 v15 v16 none) ⟨v5, v6, v7, v8, v9, v10, rfl⟩ fun i d ρ g hd ⟨v5, v6, v7, v8, v9, v10, e1⟩ => by
      subst e1
      obtain ⟨w6, w7, w8, w9, w10, g', e⟩ := turn_ok Ds hn8 hR v2 (some d) v6 v7 v8 v9 v10 v11 v12 v13 v14 v15 v16 g
      exact ⟨_, _, g', rfl, e, some d, w6, w7, w8, w9, w10, rfl⟩
  obtain ⟨most, g4, e4, h4⟩ := pick_n 5 (by decide) g3
  have hm : most ≤ 4 := by omega
  obtain ⟨u6, w13, w14, e5⟩ := found_ok Ds hn8 most hm v2 w5 w6 w7 w8 w9 w10 v13 v14 v15 v16 g4
  have e6 := m_counts Ds most hn8 hm
  have sl := seqL_len hn8 (most + 1) (by omega)
  have so := sort_kd (seqL Ds (most + 1)) (by omega)
  have tl := told_len hn8 hm
  have td : (toldD Ds most).length ≤ sizeLine := by unfold toldD; rw [List.length_map, sizeLine_eq]; omega
  have rT1 := (told_gd hn8 hm).repr (by decide +kernel) (by decide) (by decide)
  have lc108 : lcGo (gN 14) bYes law_E108_36 (E v2 (some (iT Ds)) (some (.int (Ds.length : Nat))) w5 u6 w7 w8 w9 w10 (some (.int (most : Int))) (some (kd (cnt (seqL Ds (most + 1))))) w13 none (some (.tuple (toldD Ds most))) v16 none) ((toldOf Ds most).map iT) g4 = some (toldD Ds most, g4) := by
    refine lcp _ iT _ fun x hx => ?_
    have ix := ixA_cnt (seqL Ds (most + 1)) x (mem_told.mp hx)
    generalize kd (cnt (seqL Ds (most + 1))) = K1 at *
    simp [lcK, law_E108_36, ix]
  -- the sums
  obtain ⟨⟨x6⟩, e7⟩ : ∃ j : Option D × Unit, forGo (gN 6) law_L110_8 ((List.range (most + 1)).map fun (i : Nat) => .int (i : Int)) (E v2 (some (iT Ds)) (some (.int (Ds.length : Nat))) w5 u6 w7 w8 w9 w10 (some (.int (most : Int))) (some (kd (cnt (seqL Ds (most + 1))))) w13 w14 (some (.tuple (toldD Ds most))) v16 none) g4 = some (.nx (E v2 (some (iT Ds)) (some (.int (Ds.length : Nat))) w5 j.1 w7 w8 w9 w10 (some (.int (most : Int))) (some (kd (cnt (seqL Ds (most + 1))))) w13 w14 (some (.tuple (toldD Ds most))) v16 none), g4) :=
    for_turn (tg := gN 6) (b := law_L110_8) (g := g4) (most + 1) (fun (s : Unit) (j : Option D × Unit) => E v2 (some (iT Ds)) (some (.int (Ds.length : Nat))) w5 j.1 w7 w8 w9 w10 (some (.int (most : Int))) (some (kd (cnt (seqL Ds (most + 1))))) w13 w14 (some (.tuple (toldD Ds most))) v16 none) (fun _ => ()) (u6, ()) _ rfl fun i ⟨u6, _⟩ hi => by
      refine ⟨E v2 (some (iT Ds)) (some (.int (Ds.length : Nat))) w5 (some (.int (i : Int))) w7 w8 w9 w10 (some (.int (most : Int))) (some (kd (cnt (seqL Ds (most + 1))))) w13 w14 (some (.tuple (toldD Ds most))) v16 none, (some (.int (i : Int)), ()), rfl, ?_⟩
      have lc : lcGo (gT 2 (gsC (gN 14) (gsC (gN 17) gsN))) law_T111_19 law_E111_19 (E v2 (some (iT Ds)) (some (.int (Ds.length : Nat))) w5 (some (.int (i : Int))) w7 w8 w9 w10 (some (.int (most : Int))) (some (kd (cnt (seqL Ds (most + 1))))) w13 none (some (.tuple (toldD Ds most))) v16 none) (toldD Ds most) g4 = some ((((toldOf Ds most).filter fun x => decide (x.length = i)).map (cn Ds most)).map .int, g4) := by
        rw [List.map_map]
        refine lcT _ _ fun x hx => ?_
        have l := lenT x
        have l2 : decide ((x.length : Int) = (i : Int)) = decide (x.length = i) := by rw [Bool.eq_iff_iff, decide_eq_true_iff, decide_eq_true_iff]; omega
        generalize iT x = X at *
        refine ⟨?_, by simp [law_E111_19]⟩
        simp [law_T111_19, l]
        omega
      have sm := u_sum (xs := ((toldOf Ds most).filter fun x => decide (x.length = i)).map (cn Ds most))
      rw [told_sum (show i ≤ most by omega)] at sm
      have ov := m_over hn8 (show i ≤ 5 by omega)
      have fl : ((((toldOf Ds most).filter fun x => decide (x.length = i)).map (cn Ds most)).map PyData.int).length ≤ sizeLine := by
        have := List.length_filter_le (fun x : List Int => decide (x.length = i)) (toldOf Ds most)
        rw [List.length_map, List.length_map, sizeLine_eq]; omega
      unfold law_L110_8
      exact (r_ifF (r_of (r_op (r_cb (r_c1 (r_lc (r_seqT rfl) lc fl)) sm) (r_cp rfl ov) (by simp)))).trans rfl
  -- the rest
  have whole : bAnd (bOf (eOp sLe (eV 4) (eV 11))) (bOf (eOp sNeA (eLc (iSeq (eV 15)) [14, 17] (gT 2 (gsC (gN 14) (gsC (gN 17) gsN))) law_T113_25 law_E113_25) (eLst (sCons (eV 3) sNil)))) (E v2 (some (iT Ds)) (some (.int (Ds.length : Nat))) w5 x6 w7 w8 w9 w10 (some (.int (most : Int))) (some (kd (cnt (seqL Ds (most + 1))))) w13 w14 (some (.tuple (toldD Ds most))) v16 none) g4 = some (false, g4) := by
    by_cases c : Ds.length ≤ most
    · have lc : lcGo (gT 2 (gsC (gN 14) (gsC (gN 17) gsN))) law_T113_25 law_E113_25 (E v2 (some (iT Ds)) (some (.int (Ds.length : Nat))) w5 x6 w7 w8 w9 w10 (some (.int (most : Int))) (some (kd (cnt (seqL Ds (most + 1))))) w13 none (some (.tuple (toldD Ds most))) v16 none) (toldD Ds most) g4 = some (((toldOf Ds most).filter fun x => decide (x.length = Ds.length)).map iT, g4) := by
        refine lcT _ _ fun x hx => ?_
        have l := lenT x
        generalize iT x = X at *
        refine ⟨?_, by simp [law_E113_25]⟩
        simp [law_T113_25, l]
        omega
      rw [told_whole hR c hm] at lc
      have q := u_neRL (xs := [Ds]) (ys := [Ds])
      have c' : (Ds.length : Int) ≤ (most : Int) := by omega
      have a : eOp sLe (eV 4) (eV 11) (E v2 (some (iT Ds)) (some (.int (Ds.length : Nat))) w5 x6 w7 w8 w9 w10 (some (.int (most : Int))) (some (kd (cnt (seqL Ds (most + 1))))) w13 w14 (some (.tuple (toldD Ds most))) v16 none) g4 = some (.bool true, g4) := by simp [c']
      rw [u_band, u_bnd, r_of a]
      exact r_of (r_op (d := rL [Ds]) (e := rL [Ds]) (r_lc (r_seqT rfl) lc (by simp [sizeLine_eq])) rfl (by rw [q]; simp))
    · have a : eOp sLe (eV 4) (eV 11) (E v2 (some (iT Ds)) (some (.int (Ds.length : Nat))) w5 x6 w7 w8 w9 w10 (some (.int (most : Int))) (some (kd (cnt (seqL Ds (most + 1))))) w13 w14 (some (.tuple (toldD Ds most))) v16 none) g4 = some (.bool false, g4) := by simp; omega
      rw [u_band, u_bnd, r_of a]; rfl
  have lc115 : lcGo (gT 2 (gsC (gN 14) (gsC (gN 17) gsN))) bYes law_E115_21 (E v2 (some (iT Ds)) (some (.int (Ds.length : Nat))) w5 x6 w7 w8 w9 w10 (some (.int (most : Int))) (some (kd (cnt (seqL Ds (most + 1))))) w13 none (some (.tuple (toldD Ds most))) v16 none) (toldD Ds most) g4 = some (((toldOf Ds most).map fun x => (x, (1 : Int))).map fun p => .tuple [iT p.1, .int p.2], g4) := by
    have := lcT (Ds := Ds) (most := most) (tt := bYes) (te := law_E115_21) (ρ := (E v2 (some (iT Ds)) (some (.int (Ds.length : Nat))) w5 x6 w7 w8 w9 w10 (some (.int (most : Int))) (some (kd (cnt (seqL Ds (most + 1))))) w13 none (some (.tuple (toldD Ds most))) v16 none)) (g := g4) (fun x => .tuple [iT x, .int 1]) (fun _ => true) fun x hx => ⟨rfl, by simp [law_E115_21]⟩
    rw [List.filter_eq_self.mpr fun _ _ => rfl] at this
    rw [List.map_map]
    exact this
  have lc116 : ∀ v16, lcGo (gT 2 (gsC (gN 14) (gsC (gN 17) gsN))) bYes law_E116_55 (E v2 (some (iT Ds)) (some (.int (Ds.length : Nat))) w5 x6 w7 w8 w9 w10 (some (.int (most : Int))) (some (kd (cnt (seqL Ds (most + 1))))) w13 none (some (.tuple (toldD Ds most))) v16 none) (toldD Ds most) g4 = some (((toldOf Ds most).map (cn Ds most)).map .int, g4) := fun v16 => by
    have := lcT (Ds := Ds) (most := most) (tt := bYes) (te := law_E116_55) (ρ := (E v2 (some (iT Ds)) (some (.int (Ds.length : Nat))) w5 x6 w7 w8 w9 w10 (some (.int (most : Int))) (some (kd (cnt (seqL Ds (most + 1))))) w13 none (some (.tuple (toldD Ds most))) v16 none)) (g := g4) (fun x => .int (cn Ds most x)) (fun _ => true) fun x hx => ⟨rfl, by simp [law_E116_55]⟩
    rw [List.filter_eq_self.mpr fun _ _ => rfl] at this
    rw [List.map_map]
    exact this
  have sm := u_sum (xs := (toldOf Ds most).map (cn Ds most))
  rw [told_all] at sm
  have fw := m_worth ((toldOf Ds most).map fun x => (x, (1 : Int))) Ds hn8 (fun p hp => by
    obtain ⟨x, hx, rfl⟩ := List.mem_map.mp hp
    exact ⟨by have := told_len5 hm hx; simp only; omega, by simp⟩) (by rw [List.length_map]; omega)
  have fe : (((toldOf Ds most).map fun x => (x, (1 : Int))).map fun p => p.2 * (((cps p.1 Ds).length : Nat) : Int)).sum = ((seqL Ds (most + 1)).length : Nat) := by
    rw [← told_all Ds most, List.map_map]
    congr 1
    refine List.map_congr_left fun x hx => ?_
    simp only [Function.comp_apply, Int.one_mul]
    rw [count_cps (mem_told.mp hx)]
  rw [fe] at fw
  have gS : Gd 400 0 1921 (.int ((seqL Ds (most + 1)).length : Nat)) := Gd.int (by omega)
  have rS := gS.repr (by decide +kernel) (by decide) (by decide)
  have c0 := m_count [] Ds hn8 (by decide)
  have c1 := m_cp [] Ds hn8 (by decide)
  rw [cps_nil] at c0 c1
  have r0 : sReprE (.list [.int 1, .tuple [.tuple []]]) = some (.str (PyData.shown (.list [.int 1, .tuple [.tuple []]]))) := (show Gd 1 3 3000 (.list [.int 1, .tuple [.tuple []]]) from ⟨by decide, by decide, by decide⟩).repr (by decide +kernel) (by decide) (by decide)
  have fl15 : (((toldOf Ds most).map fun x => (x, (1 : Int))).map fun p => PyData.tuple [iT p.1, .int p.2]).length ≤ sizeLine := by rw [List.length_map, List.length_map, sizeLine_eq]; omega
  have fl16 : (((toldOf Ds most).map (cn Ds most)).map PyData.int).length ≤ sizeLine := by rw [List.length_map, List.length_map, sizeLine_eq]; omega
  have fl8 : ((toldOf Ds most).map iT).length ≤ sizeLine := by rw [List.length_map, sizeLine_eq]; omega
  refine ⟨some (iT Ds), some (.int (Ds.length : Nat)), w5, x6, w7, w8, w9, w10, some (.int (most : Int)), some (kd (cnt (seqL Ds (most + 1)))), w13, w14, some (.tuple (toldD Ds most)), some (.tuple (((toldOf Ds most).map fun x => (x, (1 : Int))).map fun p => PyData.tuple [iT p.1, .int p.2])), g4, ?_⟩
  have e3' : sFor (iRange1 (eC (.int 3))) (gN 5) law_L85_8 (E v2 (some (iT Ds)) (some (.int (Ds.length : Nat))) v5 v6 v7 v8 v9 v10 v11 v12 v13 v14 v15 v16 none) g2 = some (.nx (E v2 (some (iT Ds)) (some (.int (Ds.length : Nat))) w5 w6 w7 w8 w9 w10 v11 v12 v13 v14 v15 v16 none), g3) := (r_for (g1 := g2) (ds := rangeD 0 3) (by simp [show inR 3 = true from rfl])).trans e3
  have nil0 : bOf (eOp sNeA (eCB sReprE1 (sCons (eLst (sCons (eCP count_of_s (sCons (eTup sNil) (sCons (eV 3) sNil))) (sCons (eCP copies_of_s (sCons (eTup sNil) (sCons (eV 3) sNil))) sNil))) sNil)) (eCB sReprE1 (sCons (eLst (sCons (eC (.int 1)) (sCons (eTup (sCons (eTup sNil) sNil)) sNil))) sNil))) (E v2 (some (iT Ds)) (some (.int (Ds.length : Nat))) w5 w6 w7 w8 w9 w10 v11 v12 v13 v14 v15 v16 none) g3 = some (false, g3) := by
    have c0' : count_of_s [.tuple [], iT Ds] = some (.int 1) := c0
    have c1' : copies_of_s [.tuple [], iT Ds] = some (.tuple [.tuple []]) := c1
    generalize iT Ds = W at *
    simp [c0', c1', r0]
  have rg : eOp sAdd (eCB sMin2 (sCons (eV 11) (sCons (eV 4) sNil))) (eC (.int 1)) (E v2 (some (iT Ds)) (some (.int (Ds.length : Nat))) w5 w6 w7 w8 w9 w10 (some (.int (most : Int))) (some (.dict [])) v13 v14 v15 v16 none) g4 = some (.int ((min most Ds.length + 1 : Nat) : Int), g4) := by
    simp
    split <;> omega
  unfold law_L82_4
  refine (r_seq (r_asg ((r_cd (r_c1 ((r_cd rfl).trans e1'))).trans e2'))).trans ?_
  refine (r_seq (r_asg (r_cb (g1 := g2) rfl (lenT Ds)))).trans ?_
  refine (r_seq e3').trans ?_
  refine (r_seq (ρ' := E v2 (some (iT Ds)) (some (.int (Ds.length : Nat))) w5 w6 w7 w8 w9 w10 v11 v12 v13 v14 v15 v16 none) (g1 := g3) ((r_ifF nil0).trans rfl)).trans ?_
  refine (r_seq (ρ' := E v2 (some (iT Ds)) (some (.int (Ds.length : Nat))) w5 w6 w7 w8 w9 w10 (some (.int (most : Int))) (some (.dict [])) v13 v14 v15 v16 none) (g1 := g4) (by
    have e4' : law_pick_s [.int 5] g3 = some (.int (most : Int), g4) := e4
    generalize iT Ds = W at *
    simp [e4'])).trans ?_
  refine (r_seq ((r_for (r_r1 (m := min most Ds.length + 1) rg (by omega))).trans e5)).trans ?_
  refine (r_seq (r_asg (r_cp (g1 := g4) rfl e6))).trans ?_
  refine (r_seq (ρ' := E v2 (some (iT Ds)) (some (.int (Ds.length : Nat))) w5 u6 w7 w8 w9 w10 (some (.int (most : Int))) (some (kd (cnt (seqL Ds (most + 1))))) w13 w14 (some (.tuple (toldD Ds most))) v16 none) (g1 := g4) ((r_ifF (r_of (r_op (r_cb (r_c1 rfl) rT1) (r_cb (r_c1 (r_cb (r_c1 (r_lc (r_seqL (r_cb (r_c1 rfl) so)) lc108 td)) rfl)) rT1) (by simp)))).trans rfl)).trans ?_
  refine (r_seq ((r_for (r_r1 (m := most + 1) (g1 := g4) (by simp) (by omega))).trans e7)).trans ?_
  refine (r_seq (ρ' := E v2 (some (iT Ds)) (some (.int (Ds.length : Nat))) w5 x6 w7 w8 w9 w10 (some (.int (most : Int))) (some (kd (cnt (seqL Ds (most + 1))))) w13 w14 (some (.tuple (toldD Ds most))) v16 none) (g1 := g4) ((r_ifF whole).trans rfl)).trans ?_
  refine (r_seq (r_asg (r_cb (r_c1 (r_lc (r_seqT rfl) lc115 fl15)) rfl))).trans ?_
  exact (r_ifF (r_of (r_op (r_cb (r_c1 (r_cp rfl fw)) rS) (r_cb (r_c1 (r_cb (r_c1 (r_lc (r_seqT rfl) (lc116 _) fl16)) sm)) rS) (by simp)))).trans rfl
theorem c91 : (cps [0, 0] (List.replicate 14 0)).length = 91 := by decide +kernel
theorem law_sem : ∀ ns : List Int, ns.length ≤ 63 → ∃ g', law_b (List.replicate 18 none) (gOf 1 11 69069 31 5 2147483629 ns) = some (.rt (.bool true), g') := by
  intro ns _
  obtain ⟨ρ', g', e, v2, v3, v4, v5, v6, v7, v8, v9, v10, v11, v12, v13, v14, v15, v16, rfl⟩ := for_inv (tgt := gN 2) (b := law_L82_4) (ds := rangeD 0 3) (ρ := E none none none none none none none none none none none none none none none none) (g := gOf 1 11 69069 31 5 2147483629 ns)
    (fun _ ρ _ => ∃ v2 v3 v4 v5 v6 v7 v8 v9 v10 v11 v12 v13 v14 v15 v16, ρ = E v2 v3 v4 v5 v6 v7 v8 v9 v10 v11 v12 v13 v14 v15 v16 none) ⟨none, none, none, none, none, none, none, none, none, none, none, none, none, none, none, rfl⟩ fun i d ρ g hd ⟨v2, v3, v4, v5, v6, v7, v8, v9, v10, v11, v12, v13, v14, v15, v16, e1⟩ => by
      subst e1
      obtain ⟨w3, w4, w5, w6, w7, w8, w9, w10, w11, w12, w13, w14, w15, w16, g', e⟩ := lap_ok (some d) v3 v4 v5 v6 v7 v8 v9 v10 v11 v12 v13 v14 v15 v16 g
      exact ⟨_, _, g', rfl, e, some d, w3, w4, w5, w6, w7, w8, w9, w10, w11, w12, w13, w14, w15, w16, rfl⟩
  refine ⟨g', ?_⟩
  unfold law_b
  refine (r_seq ((r_for (ds := rangeD 0 3) (by simp [show inR 3 = true from rfl])).trans e)).trans ?_
  have c := m_copies [0, 0] (List.replicate 14 0) (by decide) (by decide) fun j hj => by
    have hj : j ≤ 2 := hj
    rw [List.length_replicate]
    exact Nat.le_trans (Nat.pow_le_pow_right (by decide) hj) (by decide)
  have l : sLenD [.tuple ((cps [0, 0] (List.replicate 14 0)).map nT)] = some (.int 91) := by rw [u_lenDT, List.length_map, c91]; rfl
  have k : count_of_s [iT [0, 0], iT (List.replicate 14 0)] = some (.int 91) := by
    unfold count_of_s count_of_b
    exact p_P (p_ret (p_cb (p_c1 (p_cp rfl c)) l))
  have m14 : sMulT (.tuple [.int 0]) (.int 14) = some (iT (List.replicate 14 0)) := by
    rw [u_mulT, if_pos (by decide)]; rfl
  have k' : count_of_s [.tuple [.int 0, .int 0], iT (List.replicate 14 0)] = some (.int 91) := k
  generalize iT (List.replicate 14 0) = W at *
  simp [m14, k']
end K10

set_option Elab.async false
set_option linter.all false
set_option maxRecDepth 100000
set_option maxHeartbeats 4000000
namespace K10
open PySem PySem.Spec PyProof.Rows L2 Q PP
def topS (i : Nat) : Stmt := PySem.Challenge.pw_lotvalues_k10_whole_copies_of_partings.main.body.getD i (.Pass ⟨0, 0, 0, 0⟩)
abbrev t_parting_of : Stmt := topS 1
abbrev t_all_lots : Stmt := topS 2
abbrev t_copies_of : Stmt := topS 3
abbrev t_count_of : Stmt := topS 4
abbrev t_counts_of : Stmt := topS 5
abbrev t_turned : Stmt := topS 6
abbrev t_form_worth : Stmt := topS 8
abbrev t_law_open_cells : Stmt := topS 10
abbrev t_law_pick : Stmt := topS 11
abbrev t_law_of : Stmt := topS 12
abbrev t_law_of_labels : Stmt := topS 13
abbrev t_law_parting : Stmt := topS 14
abbrev t_law_choices : Stmt := topS 15
abbrev t_law_left : Stmt := topS 16
abbrev t_law_over : Stmt := topS 17
abbrev t_law : Stmt := topS 18
def N_parting_of : List Str := ["labels", "numbers", "label"]
theorem sc_parting_of : FnScope N_parting_of ["labels"] (defScope t_parting_of) := ⟨rfl, rfl, rfl, by decide +kernel, rfl, by decide +kernel, by decide +kernel⟩
def N_all_lots : List Str := ["many", "some", "found", "turn", "late", "lot", "begin", "number"]
theorem sc_all_lots : FnScope N_all_lots ["many", "some"] (defScope t_all_lots) := ⟨rfl, rfl, rfl, by decide +kernel, rfl, by decide +kernel, by decide +kernel⟩
def N_copies_of : List Str := ["little", "parting", "lots", "lot", "thing"]
theorem sc_copies_of : FnScope N_copies_of ["little", "parting"] (defScope t_copies_of) := ⟨rfl, rfl, rfl, by decide +kernel, rfl, by decide +kernel, by decide +kernel⟩
def N_count_of : List Str := ["little", "parting"]
theorem sc_count_of : FnScope N_count_of ["little", "parting"] (defScope t_count_of) := ⟨rfl, rfl, rfl, by decide +kernel, rfl, by decide +kernel, by decide +kernel⟩
def N_counts_of : List Str := ["parting", "most", "found", "some", "lot", "left", "thing"]
theorem sc_counts_of : FnScope N_counts_of ["parting", "most"] (defScope t_counts_of) := ⟨rfl, rfl, rfl, by decide +kernel, rfl, by decide +kernel, by decide +kernel⟩
def N_turned : List Str := ["parting"]
theorem sc_turned : FnScope N_turned ["parting"] (defScope t_turned) := ⟨rfl, rfl, rfl, by decide +kernel, rfl, by decide +kernel, by decide +kernel⟩
def N_form_worth : List Str := ["form", "parting", "little", "c"]
theorem sc_form_worth : FnScope N_form_worth ["form", "parting"] (defScope t_form_worth) := ⟨rfl, rfl, rfl, by decide +kernel, rfl, by decide +kernel, by decide +kernel⟩
def N_law_open_cells : List Str := ["script", "stirred", "cell", "cells"]
theorem sc_law_open_cells : FnScope N_law_open_cells ["script"] (defScope t_law_open_cells) := ⟨rfl, rfl, rfl, by decide +kernel, rfl, by decide +kernel, by decide +kernel⟩
def N_law_pick : List Str := ["source", "most", "cells", "others", "lap", "stirred"]
theorem sc_law_pick : FnScope N_law_pick ["source", "most"] (defScope t_law_pick) := ⟨rfl, rfl, rfl, by decide +kernel, rfl, by decide +kernel, by decide +kernel⟩
def N_law_of : List Str := ["source", "some"]
theorem sc_law_of : FnScope N_law_of ["source", "some"] (defScope t_law_of) := ⟨rfl, rfl, rfl, by decide +kernel, rfl, by decide +kernel, by decide +kernel⟩
def N_law_of_labels : List Str := ["labels", "met", "label"]
theorem sc_law_of_labels : FnScope N_law_of_labels ["labels"] (defScope t_law_of_labels) := ⟨rfl, rfl, rfl, by decide +kernel, rfl, by decide +kernel, by decide +kernel⟩
def N_law_parting : List Str := ["source", "n", "thing"]
theorem sc_law_parting : FnScope N_law_parting ["source", "n"] (defScope t_law_parting) := ⟨rfl, rfl, rfl, by decide +kernel, rfl, by decide +kernel, by decide +kernel⟩
def N_law_choices : List Str := ["n", "k", "found", "turn", "late", "some", "a"]
theorem sc_law_choices : FnScope N_law_choices ["n", "k"] (defScope t_law_choices) := ⟨rfl, rfl, rfl, by decide +kernel, rfl, by decide +kernel, by decide +kernel⟩
def N_law_left : List Str := ["parting", "things", "thing"]
theorem sc_law_left : FnScope N_law_left ["parting", "things"] (defScope t_law_left) := ⟨rfl, rfl, rfl, by decide +kernel, rfl, by decide +kernel, by decide +kernel⟩
def N_law_over : List Str := ["n", "k", "top", "bottom", "i"]
theorem sc_law_over : FnScope N_law_over ["n", "k"] (defScope t_law_over) := ⟨rfl, rfl, rfl, by decide +kernel, rfl, by decide +kernel, by decide +kernel⟩
def N_law : List Str := ["script", "source", "lap", "parting", "n", "turn", "k", "choices", "little", "due", "twin", "most", "found", "some", "left", "told", "form", "often"]
theorem sc_law : FnScope N_law ["script"] (defScope t_law) := ⟨rfl, rfl, rfl, by decide +kernel, rfl, by decide +kernel, by decide +kernel⟩
/-- what the top leaves: where the defs stand, what is still built in -/
structure Tp (K : PySem.W.Frag) (mg : Str → Option Value) : Prop where
  d_parting_of : ∃ f fd, Fun K "parting_of" "parting_of" t_parting_of f fd ∧ mg "parting_of" = some (.ref f)
  d_all_lots : ∃ f fd, Fun K "all_lots" "all_lots" t_all_lots f fd ∧ mg "all_lots" = some (.ref f)
  d_copies_of : ∃ f fd, Fun K "copies_of" "copies_of" t_copies_of f fd ∧ mg "copies_of" = some (.ref f)
  d_count_of : ∃ f fd, Fun K "count_of" "count_of" t_count_of f fd ∧ mg "count_of" = some (.ref f)
  d_counts_of : ∃ f fd, Fun K "counts_of" "counts_of" t_counts_of f fd ∧ mg "counts_of" = some (.ref f)
  d_turned : ∃ f fd, Fun K "turned" "turned" t_turned f fd ∧ mg "turned" = some (.ref f)
  d_form_worth : ∃ f fd, Fun K "form_worth" "form_worth" t_form_worth f fd ∧ mg "form_worth" = some (.ref f)
  d_law_open_cells : ∃ f fd, Fun K "_law_open_cells" "_law_open_cells" t_law_open_cells f fd ∧ mg "_law_open_cells" = some (.ref f)
  d_law_pick : ∃ f fd, Fun K "_law_pick" "_law_pick" t_law_pick f fd ∧ mg "_law_pick" = some (.ref f)
  d_law_of : ∃ f fd, Fun K "_law_of" "_law_of" t_law_of f fd ∧ mg "_law_of" = some (.ref f)
  d_law_of_labels : ∃ f fd, Fun K "_law_of_labels" "_law_of_labels" t_law_of_labels f fd ∧ mg "_law_of_labels" = some (.ref f)
  d_law_parting : ∃ f fd, Fun K "_law_parting" "_law_parting" t_law_parting f fd ∧ mg "_law_parting" = some (.ref f)
  d_law_choices : ∃ f fd, Fun K "_law_choices" "_law_choices" t_law_choices f fd ∧ mg "_law_choices" = some (.ref f)
  d_law_left : ∃ f fd, Fun K "_law_left" "_law_left" t_law_left f fd ∧ mg "_law_left" = some (.ref f)
  d_law_over : ∃ f fd, Fun K "_law_over" "_law_over" t_law_over f fd ∧ mg "_law_over" = some (.ref f)
  d_law : ∃ f fd, Fun K "law" "law" t_law f fd ∧ mg "law" = some (.ref f)
  m_abs : mg "abs" = none
  m_int : mg "int" = none
  m_len : mg "len" = none
  m_list : mg "list" = none
  m_min : mg "min" = none
  m_range : mg "range" = none
  m_repr : mg "repr" = none
  m_sorted : mg "sorted" = none
  m_sum : mg "sum" = none
  m_tuple : mg "tuple" = none
section
variable {P : Program} {w : World} {K : PySem.W.Frag} {mg : Str → Option Value} {base : Heap}
theorem k_law_open_cells (T : Tp K mg) : Kn P w K mg base 1 "_law_open_cells" (spO K (gOf 1 11 69069 31 5 2147483629)) := by
  obtain ⟨f, fd, F, hm⟩ := T.d_law_open_cells
  have nd := sc_law_open_cells.nd
  exact ⟨⟨f, fd, _, fn_open (t := tOpA K 1 11 69069 31 5 2147483629) F sc_law_open_cells (fun cdv A outer s H E hr hgd => (pss_cons (ps_set nd rfl (Or.inl rfl) pe_int) (pss_cons (ps_for PassesOwn.never rfl (pi_list (pv 0)) (pg_name nd rfl (Or.inl rfl)) (pss_one (ps_set nd rfl (Or.inl rfl) (pe_any (C := fun _ => True) fun B _ => q_fz (q_op o_mod (q_frbw (q_callTy f_int T.m_int (q_acons (q_frbw (q_op o_add (q_frbw (q_op o_add (q_frbw (q_op o_mul (q_var 1) (q_frbw q_int))) (q_frbw (q_op o_mul (q_var 2) (q_frbw q_int))))) (q_frbw q_int))) q_anil))) (q_frbw q_int)))))) (pss_cons (ps_setLc (own := [("cell", 2)]) rfl nd rfl rfl (sw_true rfl rfl rfl (by decide +kernel)) (pi_list (pv 0)) (blkOk_by (N := N_law_open_cells) (sc := defScope t_law_open_cells) (by decide +kernel)) (fun _ _ _ _ _ => pg_name nd rfl (Or.inl rfl)) (fun _ _ _ _ _ => pts_nil) (fun _ _ _ _ _ => pe_any (C := fun _ => True) fun B _ => q_fz (q_callB f_abs T.m_abs (q_acons (q_var 2) q_anil)))) (pss_one (ps_ret (pe_disp (pps_cons pe_str (pe_revL (pv 3)) (pps_cons pe_str pe_int (pps_cons pe_str (pv 1) (pps_cons pe_str pe_int pps_nil)))) rfl rfl (by decide) (by decide)))))))) (fun R a ns H hS hl q => rd_opA hS hl (by decide) (by decide) (fun _ => rfl) q),
    hm, F.kp, F.binds fun _ _ _ _ _ _ us hl => match us, hl with | [_], _ => rfl⟩⟩
theorem k_parting_of (T : Tp K mg) : Kn P w K mg base 1 "parting_of" (spP K 1 sPart) := by
  obtain ⟨f, fd, F, hm⟩ := T.d_parting_of
  have nd := sc_parting_of.nd
  exact ⟨⟨f, fd, _, fn_part F sc_parting_of rfl (fun cdv A outer s H E hr hgd => pss_cons (ps_set nd rfl (by first | exact Or.inl rfl | exact Or.inr rfl) pe_dnewK) (pss_one (ps_ret (pe_callTy call_tuple_of rfl T.m_tuple (by decide +kernel) (pa_cons (pe_lc (own := [("label", 2)]) rfl nd (pi_seq (pv 0)) (blkOk_by (N := N_parting_of) (sc := defScope t_parting_of) (by decide +kernel)) (fun _ _ _ _ _ => pg_name nd rfl (by first | exact Or.inl rfl | exact Or.inr rfl)) (fun _ _ _ _ _ => pts_nil) (fun _ _ _ _ _ => pe_dsetd (pv 1) (pv 2) (pe_callB call_lenD rfl T.m_len (by decide +kernel) (pa_cons (pv 1) pa_nil)) ⟨rfl, rfl, rfl, rfl⟩)) pa_nil))))),
    hm, F.kp, F.binds fun _ _ _ _ _ _ us hl => match us, hl with | [_], _ => rfl⟩⟩

theorem k_all_lots (T : Tp K mg) : Kn P w K mg base 1 "all_lots" (spP K 2 all_lots_s) := by
  obtain ⟨f, fd, F, hm⟩ := T.d_all_lots
  have nd := sc_all_lots.nd
  exact ⟨⟨f, fd, _, fn_pure (O' := []) (Ob := []) F sc_all_lots fun cdv A outer s H E B hr hgd => ((q_seq (q_if (q_tcmp o_gt (q_var 1) (q_var 0))
  (q_sone (q_ret (q_fz (q_lst q_nil))))
  q_snil)
  (q_seq (q_set 2 (q_fz (q_lst (q_cons (q_fz (q_tup q_nil)) q_nil))) nd)
  (q_seq (q_for (q_irange1 (q_var 1) T.m_range) (q_gN 3 nd)
  (q_seq (q_setO 4 (q_lst q_nil) nd)
  (q_seq (q_for (q_iseq (q_varF 2)) (q_gN 5 nd)
  (q_seq (q_set 6 (q_ifE (q_tcmp (o_neA hr.units) (q_var 5) (q_frbw (q_tup q_nil))) (q_fz (q_op o_add (q_bw (q_ix (q_var 5) (q_frbw (q_neg (q_frbw q_int))))) (q_frbw q_int))) (q_fz q_int)) nd)
  (q_sone (q_ext 4 (q_frbw (q_lc (own := [("number", 7)]) rfl nd (q_irange2 (q_var 6) (q_var 0) T.m_range) (blkOk_by (N := N_all_lots) (sc := defScope t_all_lots) (by decide +kernel)) (LcQ.mk' fun B' hB s H C cl fp => ⟨(q_gN 7 nd), q_noif, (q_fz (q_tupS (q_sstar (q_varF 5) (q_sconsS (q_varF 7) q_snilS))))⟩)))))) PassesOwn.never rfl)
  (q_sone (q_wk [4] (q_set 2 (q_fz (q_cut (q_var 4) q_onone q_onone)) nd))))) PassesOwn.never rfl)
  (q_sone (q_ret (q_varF 2))))))),
    hm, F.kp, F.binds fun _ _ _ _ _ _ us hl => match us, hl with | [_, _], _ => rfl⟩⟩
theorem k_turned (T : Tp K mg) : Kn P w K mg base 2 "turned" (spP K 1 turned_s) := by
  obtain ⟨f, fd, F, hm⟩ := T.d_turned
  have nd := sc_turned.nd
  exact ⟨⟨f, fd, _, fn_pure (O' := []) (Ob := []) F sc_turned fun cdv A outer s H E B hr hgd => ((q_sone (q_ret (q_callP (k_parting_of T) (hr.mono (by decide)) hgd (q_cons (q_fz (q_revA (q_var 0))) q_nil))))),
    hm, F.kp, F.binds fun _ _ _ _ _ _ us hl => match us, hl with | [_], _ => rfl⟩⟩
theorem k_law_pick (T : Tp K mg) : Kn P w K mg base 1 "_law_pick" (spD K 1 law_pick_s) := by
  obtain ⟨f, fd, F, hm⟩ := T.d_law_pick
  have nd := sc_law_pick.nd
  exact ⟨⟨f, fd, _, fn_draw (O' := []) (Ob := []) 1 F sc_law_pick rfl fun cdv A outer s H E B hr hgd => ((q_seq (q_if (q_tcmp o_lt (q_var 1) (q_frbw q_int))
  (q_sone (q_ret (q_fz q_int)))
  q_snil)
  (q_pullA 2 (hu_of hr) T.m_len PassesOwn.never nd
  (q_seq (q_set 3 (q_fz (q_srcG (fd := G.left) (hu_of hr))) nd)
  (q_seq (q_if (q_tcmp o_gt (q_var 3) (q_frbw q_int))
  (q_seq (q_srcS (u := (fun v g => { g with left := v })) (hu_of hr) (q_frbw (q_op o_div (q_var 3) (q_var 1))))
  (q_sone (q_ret (q_fz (q_op o_mod (q_frbw (q_callTy f_int T.m_int (q_acons (q_var 3) q_anil))) (q_var 1))))))
  q_snil)
  (q_seq (q_srcS (u := (fun v g => { g with turn := v })) (hu_of hr) (q_frbw (q_op o_add (q_frbw (q_srcG (fd := G.turn) (hu_of hr))) (q_frbw q_int))))
  (q_seq (q_set 4 (q_fz (q_srcG (fd := G.turn) (hu_of hr))) nd)
  (q_seq (q_set 5 (q_fz (q_op o_mod (q_frbw (q_callTy f_int T.m_int (q_acons (q_frbw (q_op o_add (q_frbw (q_srcG (fd := G.mixed) (hu_of hr))) (q_frbw (q_op o_mul (q_var 4) (q_frbw q_int))))) q_anil))) (q_frbw q_int))) nd)
  (q_seq (q_set 5 (q_fz (q_op o_mod (q_frbw (q_callTy f_int T.m_int (q_acons (q_frbw (q_op o_add (q_frbw (q_op o_mul (q_var 5) (q_var 5))) (q_frbw (q_op o_mul (q_var 4) (q_frbw q_int))))) q_anil))) (q_frbw q_int))) nd)
  (q_sone (q_ret (q_fz (q_op o_mod (q_frbw (q_callTy f_int T.m_int (q_acons (q_frbw (q_op o_div (q_var 5) (q_frbw q_int))) q_anil))) (q_var 1)))))))))))))),
    hm, F.kp, F.binds fun _ _ _ _ _ _ us hl => match us, hl with | [_, _], _ => rfl⟩⟩
theorem k_law_of_labels (T : Tp K mg) : Kn P w K mg base 1 "_law_of_labels" (spP K 1 law_of_labels_s) := by
  obtain ⟨f, fd, F, hm⟩ := T.d_law_of_labels
  have nd := sc_law_of_labels.nd
  exact ⟨⟨f, fd, _, fn_pure (O' := []) (Ob := []) F sc_law_of_labels fun cdv A outer s H E B hr hgd => ((q_seq (q_setO 1 (q_lst q_nil) nd)
  (q_seq (q_for (q_iseq (q_varF 0)) (q_gN 2 nd)
  (q_sone (q_if (q_tcmp (o_ni (u65 hr)) (q_var 2) (q_var 1))
  (q_sone (q_app 1 (q_varF 2)))
  q_snil)) PassesOwn.never rfl)
  (q_sone (q_ret (q_fz (q_callTy f_tuple T.m_tuple (q_acons (q_frbw (q_lc (own := [("label", 2)]) rfl nd (q_iseq (q_varF 0)) (blkOk_by (N := N_law_of_labels) (sc := defScope t_law_of_labels) (by decide +kernel)) (LcQ.mk' fun B' hB s H C cl fp => ⟨(q_gN 2 nd), q_noif, (q_fz (q_idx (u65 hr) (q_var 1) (q_var 2)))⟩))) q_anil)))))))),
    hm, F.kp, F.binds fun _ _ _ _ _ _ us hl => match us, hl with | [_], _ => rfl⟩⟩
theorem k_law_choices (T : Tp K mg) : Kn P w K mg base 1 "_law_choices" (spP K 2 law_choices_s) := by
  obtain ⟨f, fd, F, hm⟩ := T.d_law_choices
  have nd := sc_law_choices.nd
  exact ⟨⟨f, fd, _, fn_pure (O' := []) (Ob := []) F sc_law_choices fun cdv A outer s H E B hr hgd => ((q_seq (q_set 2 (q_fz (q_lst (q_cons (q_fz (q_tup q_nil)) q_nil))) nd)
  (q_seq (q_for (q_irange1 (q_var 1) T.m_range) (q_gN 3 nd)
  (q_seq (q_setO 4 (q_lst q_nil) nd)
  (q_seq (q_for (q_iseq (q_varF 2)) (q_gN 5 nd)
  (q_sone (q_ext 4 (q_frbw (q_lc (own := [("a", 6)]) rfl nd (q_irange1 (q_var 0) T.m_range) (blkOk_by (N := N_law_choices) (sc := defScope t_law_choices) (by decide +kernel)) (LcQ.mk' fun B' hB s H C cl fp => ⟨(q_gN 6 nd), (q_if1 (q_or (q_tcmp (o_eqA hr.units) (q_var 5) (q_frbw (q_tup q_nil))) (q_or1 (q_tcmp o_gt (q_var 6) (q_bw (q_ix (q_var 5) (q_frbw (q_neg (q_frbw q_int)))))))).pt), (q_fz (q_op o_add (q_var 5) (q_frbw (q_tup (q_cons (q_varF 6) q_nil)))))⟩))))) PassesOwn.never rfl)
  (q_sone (q_wk [4] (q_set 2 (q_fz (q_callTy f_list T.m_list (q_acons (q_var 4) q_anil))) nd))))) PassesOwn.never rfl)
  (q_sone (q_ret (q_varF 2)))))),
    hm, F.kp, F.binds fun _ _ _ _ _ _ us hl => match us, hl with | [_, _], _ => rfl⟩⟩
theorem k_law_over (T : Tp K mg) : Kn P w K mg base 1 "_law_over" (spP K 2 law_over_s) := by
  obtain ⟨f, fd, F, hm⟩ := T.d_law_over
  have nd := sc_law_over.nd
  exact ⟨⟨f, fd, _, fn_pure (O' := []) (Ob := []) F sc_law_over fun cdv A outer s H E B hr hgd => ((q_seq (q_asgT (q_fz (q_tup (q_cons (q_fz q_int) (q_cons (q_fz q_int) q_nil)))) (q_gT rfl (q_gsC (q_gN 2 nd) (q_gsC (q_gN 3 nd) q_gsN)) 2))
  (q_seq (q_for (q_irange1 (q_var 1) T.m_range) (q_gN 4 nd)
  (q_sone (q_par 2 3 rfl nd (q_fz (q_op o_mul (q_var 2) (q_frbw (q_op o_sub (q_var 0) (q_var 4))))) (q_fz (q_op o_mul (q_var 3) (q_frbw (q_op o_add (q_var 4) (q_frbw q_int))))))) PassesOwn.never rfl)
  (q_sone (q_ret (q_fz (q_op o_div (q_var 2) (q_var 3)))))))),
    hm, F.kp, F.binds fun _ _ _ _ _ _ us hl => match us, hl with | [_, _], _ => rfl⟩⟩
theorem k_copies_of (T : Tp K mg) : Kn P w K mg base 2 "copies_of" (spP K 2 copies_of_s) := by
  obtain ⟨f, fd, F, hm⟩ := T.d_copies_of
  have nd := sc_copies_of.nd
  exact ⟨⟨f, fd, _, fn_pure (O' := []) (Ob := []) F sc_copies_of fun cdv A outer s H E B hr hgd => ((q_seq (q_set 2 (q_callP (k_all_lots T) (hr.mono (by decide)) hgd (q_cons (q_fz (q_callB f_lenD T.m_len (q_acons (q_var 1) q_anil))) (q_cons (q_fz (q_callB f_lenD T.m_len (q_acons (q_var 0) q_anil))) q_nil))) nd)
  (q_sone (q_ret (q_fz (q_callTy f_tuple T.m_tuple (q_acons (q_frbw (q_lc (own := [("lot", 3)]) rfl nd (q_iseq (q_varF 2)) (blkOk_by (N := N_copies_of) (sc := defScope t_copies_of) (by decide +kernel)) (LcQ.mk' fun B' hB s H C cl fp => ⟨(q_gN 3 nd), (q_if1 (q_tcmp (o_eqA hr.units) (q_bw (q_callP (k_parting_of T) (hr.mono (by decide)) hgd (q_cons (q_fz (q_lc (own := [("thing", 4)]) rfl nd (q_iseq (q_varF 3)) (blkOk_by (by kernel_rfl)) (LcQ.mk' fun B' hB s H C cl fp => ⟨(q_gN 4 nd), q_noif, (q_ix (q_var 1) (q_var 4))⟩))) q_nil))) (q_var 0))), (q_varF 3)⟩))) q_anil))))))),
    hm, F.kp, F.binds fun _ _ _ _ _ _ us hl => match us, hl with | [_, _], _ => rfl⟩⟩
theorem k_counts_of (T : Tp K mg) : Kn P w K mg base 2 "counts_of" (spP K 2 counts_of_s) := by
  obtain ⟨f, fd, F, hm⟩ := T.d_counts_of
  have nd := sc_counts_of.nd
  exact ⟨⟨f, fd, _, fn_pure (O' := []) (Ob := []) F sc_counts_of fun cdv A outer s H E B hr hgd => ((q_seq (q_setO 2 q_dict0 nd)
  (q_seq (q_for (q_irange1 (q_frbw (q_op o_add (q_var 1) (q_frbw q_int))) T.m_range) (q_gN 3 nd)
  (q_sone (q_for (q_iseq (q_callP (k_all_lots T) (hr.mono (by decide)) hgd (q_cons (q_fz (q_callB f_lenD T.m_len (q_acons (q_var 0) q_anil))) (q_cons (q_varF 3) q_nil)))) (q_gN 4 nd)
  (q_seq (q_set 5 (q_callP (k_parting_of T) (hr.mono (by decide)) hgd (q_cons (q_fz (q_lc (own := [("thing", 6)]) rfl nd (q_iseq (q_varF 4)) (blkOk_by (N := N_counts_of) (sc := defScope t_counts_of) (by decide +kernel)) (LcQ.mk' fun B' hB s H C cl fp => ⟨(q_gN 6 nd), q_noif, (q_ix (q_var 0) (q_var 6))⟩))) q_nil)) nd)
  (q_sone (q_putD 2 (hu_of hr) (q_fz (q_op o_add (q_bw (q_get2 (hu_of hr) (q_var 2) (q_var 5) (q_fz q_int))) (q_frbw q_int))) (q_var 5)))) PassesOwn.never rfl)) PassesOwn.never rfl)
  (q_sone (q_ret (q_fz (q_callTy f_tuple T.m_tuple (q_acons (q_frbw (q_lc (own := [("left", 5)]) rfl nd (q_iseq (q_fz (q_callB (f_sorted rfl (u65 hr)) T.m_sorted (q_acons (q_var 2) q_anil)))) (blkOk_by (N := N_counts_of) (sc := defScope t_counts_of) (by decide +kernel)) (LcQ.mk' fun B' hB s H C cl fp => ⟨(q_gN 5 nd), q_noif, (q_fz (q_tup (q_cons (q_varF 5) (q_cons (q_ixA (hu_of hr) (q_var 2) (q_var 5)) q_nil))))⟩))) q_anil)))))))),
    hm, F.kp, F.binds fun _ _ _ _ _ _ us hl => match us, hl with | [_, _], _ => rfl⟩⟩
theorem k_law_of (T : Tp K mg) : Kn P w K mg base 2 "_law_of" (spD K 1 law_of_s) := by
  obtain ⟨f, fd, F, hm⟩ := T.d_law_of
  have nd := sc_law_of.nd
  exact ⟨⟨f, fd, _, fn_draw (O' := []) (Ob := []) 1 F sc_law_of rfl fun cdv A outer s H E B hr hgd => ((q_sone (q_ret (q_ix (q_var 1) (q_bw (q_callD (i := 0) (k_law_pick T) (hr.mono (by decide)) hgd (q_cons (q_fz (q_callB f_lenD T.m_len (q_acons (q_var 1) q_anil))) q_nil))))))),
    hm, F.kp, F.binds fun _ _ _ _ _ _ us hl => match us, hl with | [_, _], _ => rfl⟩⟩
theorem k_law_parting (T : Tp K mg) : Kn P w K mg base 2 "_law_parting" (spD K 1 law_parting_s) := by
  obtain ⟨f, fd, F, hm⟩ := T.d_law_parting
  have nd := sc_law_parting.nd
  exact ⟨⟨f, fd, _, fn_draw (O' := []) (Ob := []) 1 F sc_law_parting rfl fun cdv A outer s H E B hr hgd => ((q_sone (q_ret (q_callP (k_law_of_labels T) (hr.mono (by decide)) hgd (q_cons (q_fz (q_lc (own := [("thing", 2)]) rfl nd (q_irange1 (q_var 1) T.m_range) (blkOk_by (N := N_law_parting) (sc := defScope t_law_parting) (by decide +kernel)) (LcQ.mk' fun B' hB s H C cl fp => ⟨(q_gN 2 nd), q_noif, (q_callD (i := 0) (k_law_pick T) (hr.mono (by decide)) hgd (q_cons (q_fz (q_op o_add (q_frbw q_int) (q_bw (q_callD (i := 0) (k_law_pick T) (hr.mono (by decide)) hgd (q_cons (q_varF 1) q_nil))))) q_nil))⟩))) q_nil))))),
    hm, F.kp, F.binds fun _ _ _ _ _ _ us hl => match us, hl with | [_, _], _ => rfl⟩⟩
theorem k_law_left (T : Tp K mg) : Kn P w K mg base 2 "_law_left" (spP K 2 law_left_s) := by
  obtain ⟨f, fd, F, hm⟩ := T.d_law_left
  have nd := sc_law_left.nd
  exact ⟨⟨f, fd, _, fn_pure (O' := []) (Ob := []) F sc_law_left fun cdv A outer s H E B hr hgd => ((q_sone (q_ret (q_callP (k_law_of_labels T) (hr.mono (by decide)) hgd (q_cons (q_fz (q_lc (own := [("thing", 2)]) rfl nd (q_iseq (q_fz (q_callB (f_sorted rfl (u65 hr)) T.m_sorted (q_acons (q_var 1) q_anil)))) (blkOk_by (N := N_law_left) (sc := defScope t_law_left) (by decide +kernel)) (LcQ.mk' fun B' hB s H C cl fp => ⟨(q_gN 2 nd), q_noif, (q_ix (q_var 0) (q_var 2))⟩))) q_nil))))),
    hm, F.kp, F.binds fun _ _ _ _ _ _ us hl => match us, hl with | [_, _], _ => rfl⟩⟩
theorem k_count_of (T : Tp K mg) : Kn P w K mg base 3 "count_of" (spP K 2 count_of_s) := by
  obtain ⟨f, fd, F, hm⟩ := T.d_count_of
  have nd := sc_count_of.nd
  exact ⟨⟨f, fd, _, fn_pure (O' := []) (Ob := []) F sc_count_of fun cdv A outer s H E B hr hgd => ((q_sone (q_ret (q_fz (q_callB f_lenD T.m_len (q_acons (q_bw (q_callP (k_copies_of T) (hr.mono (by decide)) hgd (q_cons (q_varF 0) (q_cons (q_varF 1) q_nil)))) q_anil)))))),
    hm, F.kp, F.binds fun _ _ _ _ _ _ us hl => match us, hl with | [_, _], _ => rfl⟩⟩
theorem k_form_worth (T : Tp K mg) : Kn P w K mg base 4 "form_worth" (spP K 2 form_worth_s) := by
  obtain ⟨f, fd, F, hm⟩ := T.d_form_worth
  have nd := sc_form_worth.nd
  exact ⟨⟨f, fd, _, fn_pure (O' := []) (Ob := []) F sc_form_worth fun cdv A outer s H E B hr hgd => ((q_sone (q_ret (q_fz (q_callB (f_sum rfl) T.m_sum (q_acons (q_frbw (q_lc (own := [("little", 2), ("c", 3)]) rfl nd (q_iseq (q_varF 0)) (blkOk_by (N := N_form_worth) (sc := defScope t_form_worth) (by decide +kernel)) (LcQ.mk' fun B' hB s H C cl fp => ⟨(q_gT rfl (q_gsC (q_gN 2 nd) (q_gsC (q_gN 3 nd) q_gsN)) 2), q_noif, (q_fz (q_op o_mul (q_var 3) (q_bw (q_callP (k_count_of T) (hr.mono (by decide)) hgd (q_cons (q_varF 2) (q_cons (q_varF 1) q_nil))))))⟩))) q_anil)))))),
    hm, F.kp, F.binds fun _ _ _ _ _ _ us hl => match us, hl with | [_, _], _ => rfl⟩⟩
theorem all_law {fa : Addr} (hsem : ∀ ns : List Int, ns.length ≤ 63 → ∃ g', law_b (List.replicate N_law.length none) (gOf 1 11 69069 31 5 2147483629 ns) = some (.rt (.bool true), g')) (T : Tp K mg) (hfa : mg "law" = some (.ref fa)) : ∃ fd : FuncData, (∀ (s : Shared) (u : Value), BindsTo s fd ⟨[u], []⟩ [("script", u)]) ∧ ∀ B : Heap, K.In B → B.Ns mainGlobals mg → GOk P w K mg B CX0 5 fa fd ["script"] (spLaw K) := by
  obtain ⟨f, fd, F, hm⟩ := T.d_law
  cases hfa.symm.trans hm
  have nd := sc_law.nd
  refine ⟨fd, ?_, fun base _ _ => fn_law (gs := gOf 1 11 69069 31 5 2147483629) (b := law_b) (O' := []) (Ob := []) F sc_law (by decide) hsem fun cdv A outer s H E hr hgd => q_law (k_law_open_cells T) (hr.mono (by decide)) hgd nd fun B =>
  ((q_seq (q_for (q_irange1 (q_frbw q_int) T.m_range) (q_gN 2 nd)
  (q_seq (q_set 3 (q_callD (i := 1) (k_law_parting T) (hr.mono (by decide)) hgd (q_cons (q_callD (i := 1) (k_law_pick T) (hr.mono (by decide)) hgd (q_cons (q_fz q_int) q_nil)) q_nil)) nd)
  (q_seq (q_set 4 (q_fz (q_callB f_lenD T.m_len (q_acons (q_var 3) q_anil))) nd)
  (q_seq (q_for (q_irange1 (q_frbw q_int) T.m_range) (q_gN 5 nd)
  (q_seq (q_set 6 (q_callD (i := 1) (k_law_pick T) (hr.mono (by decide)) hgd (q_cons (q_fz (q_op o_add (q_frbw (q_callB (f_min2 rfl) T.m_min (q_acons (q_var 4) (q_acons (q_frbw q_int) q_anil)))) (q_frbw q_int))) q_nil)) nd)
  (q_seq (q_set 7 (q_callP (k_law_choices T) (hr.mono (by decide)) hgd (q_cons (q_varF 4) (q_cons (q_varF 6) q_nil))) nd)
  (q_seq (q_set 8 (q_callP (k_law_left T) (hr.mono (by decide)) hgd (q_cons (q_varF 3) (q_cons (q_callD (i := 1) (k_law_of T) (hr.mono (by decide)) hgd (q_cons (q_varF 7) q_nil)) q_nil))) nd)
  (q_seq (q_set 8 (q_ifE (q_tcmp o_gt (q_bw (q_callD (i := 1) (k_law_pick T) (hr.mono (by decide)) hgd (q_cons (q_fz q_int) q_nil))) (q_frbw q_int)) (q_varF 8) (q_callD (i := 1) (k_law_parting T) (hr.mono (by decide)) hgd (q_cons (q_varF 6) q_nil))) nd)
  (q_seq (q_set 9 (q_fz (q_callTy f_tuple T.m_tuple (q_acons (q_frbw (q_lc (own := [("some", 13)]) rfl nd (q_iseq (q_varF 7)) (blkOk_by (N := N_law) (sc := defScope t_law) (by decide +kernel)) (LcQ.mk' fun B' hB s H C cl fp => ⟨(q_gN 13 nd), (q_if1 (q_tcmp (o_eqA hr.units) (q_bw (q_callP (k_law_left T) (hr.mono (by decide)) hgd (q_cons (q_varF 3) (q_cons (q_varF 13) q_nil)))) (q_var 8))), (q_varF 13)⟩))) q_anil))) nd)
  (q_seq (q_if (q_tcmp (o_neA hr.units) (q_frbw (q_callB (f_reprE (u200 hr) hgd) T.m_repr (q_acons (q_frbw (q_lst (q_cons (q_callP (k_copies_of T) (hr.mono (by decide)) hgd (q_cons (q_varF 8) (q_cons (q_varF 3) q_nil))) (q_cons (q_callP (k_count_of T) (hr.mono (by decide)) hgd (q_cons (q_varF 8) (q_cons (q_varF 3) q_nil))) q_nil)))) q_anil))) (q_frbw (q_callB (f_reprE (u200 hr) hgd) T.m_repr (q_acons (q_frbw (q_lst (q_cons (q_varF 9) (q_cons (q_fz (q_callB f_lenD T.m_len (q_acons (q_var 9) q_anil))) q_nil)))) q_anil))))
  (q_sone (q_ret (q_fz q_bl)))
  q_snil)
  (q_seq (q_if (q_tcmp (o_neA hr.units) (q_bw (q_callP (k_count_of T) (hr.mono (by decide)) hgd (q_cons (q_callP (k_turned T) (hr.mono (by decide)) hgd (q_cons (q_varF 8) q_nil)) (q_cons (q_callP (k_turned T) (hr.mono (by decide)) hgd (q_cons (q_varF 3) q_nil)) q_nil)))) (q_frbw (q_callB f_lenD T.m_len (q_acons (q_var 9) q_anil))))
  (q_sone (q_ret (q_fz q_bl)))
  q_snil)
  (q_seq (q_if (q_and (q_tcmp o_lt (q_var 6) (q_frbw q_int)) (q_and1 (q_tcmp (o_neA hr.units) (q_bw (q_callP (k_form_worth T) (hr.mono (by decide)) hgd (q_cons (q_fz (q_tup (q_cons (q_fz (q_tup (q_cons (q_varF 8) (q_cons (q_fz q_int) q_nil)))) q_nil))) (q_cons (q_varF 3) q_nil)))) (q_frbw (q_op o_mul (q_frbw q_int) (q_frbw (q_callB f_lenD T.m_len (q_acons (q_var 9) q_anil)))))))).pt
  (q_sone (q_ret (q_fz q_bl)))
  q_snil)
  (q_seq (q_set 10 (q_callD (i := 1) (k_law_parting T) (hr.mono (by decide)) hgd (q_cons (q_varF 6) q_nil)) nd)
  (q_sone (q_if (q_tcmp (o_neA hr.units) (q_frbw (q_callB (f_reprE (u200 hr) hgd) T.m_repr (q_acons (q_frbw (q_lst (q_cons (q_callP (k_count_of T) (hr.mono (by decide)) hgd (q_cons (q_varF 8) (q_cons (q_varF 8) q_nil))) (q_cons (q_callP (k_count_of T) (hr.mono (by decide)) hgd (q_cons (q_varF 10) (q_cons (q_varF 8) q_nil))) q_nil)))) q_anil))) (q_frbw (q_callB (f_reprE (u200 hr) hgd) T.m_repr (q_acons (q_frbw (q_lst (q_cons (q_fz q_int) (q_cons (q_fz (q_callTy f_int T.m_int (q_acons (q_frbw (q_cmp (o_eqA hr.units) (q_var 10) (q_var 8))) q_anil))) q_nil)))) q_anil))))
  (q_sone (q_ret (q_fz q_bl)))
  q_snil))))))))))) PassesOwn.never rfl)
  (q_seq (q_if (q_tcmp (o_neA hr.units) (q_frbw (q_callB (f_reprE (u200 hr) hgd) T.m_repr (q_acons (q_frbw (q_lst (q_cons (q_callP (k_count_of T) (hr.mono (by decide)) hgd (q_cons (q_fz (q_tup q_nil)) (q_cons (q_varF 3) q_nil))) (q_cons (q_callP (k_copies_of T) (hr.mono (by decide)) hgd (q_cons (q_fz (q_tup q_nil)) (q_cons (q_varF 3) q_nil))) q_nil)))) q_anil))) (q_frbw (q_callB (f_reprE (u200 hr) hgd) T.m_repr (q_acons (q_frbw (q_lst (q_cons (q_fz q_int) (q_cons (q_fz (q_tup (q_cons (q_fz (q_tup q_nil)) q_nil))) q_nil)))) q_anil))))
  (q_sone (q_ret (q_fz q_bl)))
  q_snil)
  (q_seq (q_asgFO 11 12 rfl nd (q_callD (i := 1) (k_law_pick T) (hr.mono (by decide)) hgd (q_cons (q_fz q_int) q_nil)) q_dict0)
  (q_seq (q_for (q_irange1 (q_frbw (q_op o_add (q_frbw (q_callB (f_min2 rfl) T.m_min (q_acons (q_var 11) (q_acons (q_var 4) q_anil)))) (q_frbw q_int))) T.m_range) (q_gN 6 nd)
  (q_sone (q_for (q_iseq (q_callP (k_law_choices T) (hr.mono (by decide)) hgd (q_cons (q_varF 4) (q_cons (q_varF 6) q_nil)))) (q_gN 13 nd)
  (q_seq (q_set 14 (q_callP (k_law_left T) (hr.mono (by decide)) hgd (q_cons (q_varF 3) (q_cons (q_varF 13) q_nil))) nd)
  (q_sone (q_putD 12 (hu_of hr) (q_fz (q_op o_add (q_bw (q_get2 (hu_of hr) (q_var 12) (q_var 14) (q_fz q_int))) (q_frbw q_int))) (q_var 14)))) PassesOwn.never rfl)) PassesOwn.never rfl)
  (q_seq (q_set 15 (q_callP (k_counts_of T) (hr.mono (by decide)) hgd (q_cons (q_varF 3) (q_cons (q_varF 11) q_nil))) nd)
  (q_seq (q_if (q_tcmp (o_neA hr.units) (q_frbw (q_callB (f_reprE (u200 hr) hgd) T.m_repr (q_acons (q_var 15) q_anil))) (q_frbw (q_callB (f_reprE (u200 hr) hgd) T.m_repr (q_acons (q_frbw (q_callTy f_tuple T.m_tuple (q_acons (q_frbw (q_lc (own := [("left", 14)]) rfl nd (q_iseq (q_fz (q_callB (f_sorted rfl (u65 hr)) T.m_sorted (q_acons (q_var 12) q_anil)))) (blkOk_by (N := N_law) (sc := defScope t_law) (by decide +kernel)) (LcQ.mk' fun B' hB s H C cl fp => ⟨(q_gN 14 nd), q_noif, (q_fz (q_tup (q_cons (q_varF 14) (q_cons (q_ixA (hu_of hr) (q_var 12) (q_var 14)) q_nil))))⟩))) q_anil))) q_anil))))
  (q_sone (q_ret (q_fz q_bl)))
  q_snil)
  (q_seq (q_for (q_irange1 (q_frbw (q_op o_add (q_var 11) (q_frbw q_int))) T.m_range) (q_gN 6 nd)
  (q_sone (q_if (q_tcmp (o_neA hr.units) (q_frbw (q_callB (f_sum rfl) T.m_sum (q_acons (q_frbw (q_lc (own := [("left", 14), ("often", 17)]) rfl nd (q_iseq (q_varF 15)) (blkOk_by (N := N_law) (sc := defScope t_law) (by decide +kernel)) (LcQ.mk' fun B' hB s H C cl fp => ⟨(q_gT rfl (q_gsC (q_gN 14 nd) (q_gsC (q_gN 17 nd) q_gsN)) 2), (q_if1 (q_tcmp (o_eqA hr.units) (q_frbw (q_callB f_lenD T.m_len (q_acons (q_var 14) q_anil))) (q_var 6))), (q_varF 17)⟩))) q_anil))) (q_bw (q_callP (k_law_over T) (hr.mono (by decide)) hgd (q_cons (q_varF 4) (q_cons (q_varF 6) q_nil)))))
  (q_sone (q_ret (q_fz q_bl)))
  q_snil)) PassesOwn.never rfl)
  (q_seq (q_if (q_and (q_tcmp o_le (q_var 4) (q_var 11)) (q_and1 (q_tcmp (o_neA hr.units) (q_frbw (q_lc (own := [("left", 14), ("often", 17)]) rfl nd (q_iseq (q_varF 15)) (blkOk_by (N := N_law) (sc := defScope t_law) (by decide +kernel)) (LcQ.mk' fun B' hB s H C cl fp => ⟨(q_gT rfl (q_gsC (q_gN 14 nd) (q_gsC (q_gN 17 nd) q_gsN)) 2), (q_if1 (q_tcmp (o_eqA hr.units) (q_frbw (q_callB f_lenD T.m_len (q_acons (q_var 14) q_anil))) (q_var 4))), (q_varF 14)⟩))) (q_frbw (q_lst (q_cons (q_varF 3) q_nil)))))).pt
  (q_sone (q_ret (q_fz q_bl)))
  q_snil)
  (q_seq (q_set 16 (q_fz (q_callTy f_tuple T.m_tuple (q_acons (q_frbw (q_lc (own := [("left", 14), ("often", 17)]) rfl nd (q_iseq (q_varF 15)) (blkOk_by (N := N_law) (sc := defScope t_law) (by decide +kernel)) (LcQ.mk' fun B' hB s H C cl fp => ⟨(q_gT rfl (q_gsC (q_gN 14 nd) (q_gsC (q_gN 17 nd) q_gsN)) 2), q_noif, (q_fz (q_tup (q_cons (q_varF 14) (q_cons (q_fz q_int) q_nil))))⟩))) q_anil))) nd)
  (q_sone (q_wk [12] (q_if (q_tcmp (o_neA hr.units) (q_frbw (q_callB (f_reprE (u200 hr) hgd) T.m_repr (q_acons (q_bw (q_callP (k_form_worth T) (hr.mono (by decide)) hgd (q_cons (q_varF 16) (q_cons (q_varF 3) q_nil)))) q_anil))) (q_frbw (q_callB (f_reprE (u200 hr) hgd) T.m_repr (q_acons (q_frbw (q_callB (f_sum rfl) T.m_sum (q_acons (q_frbw (q_lc (own := [("left", 14), ("often", 17)]) rfl nd (q_iseq (q_varF 15)) (blkOk_by (N := N_law) (sc := defScope t_law) (by decide +kernel)) (LcQ.mk' fun B' hB s H C cl fp => ⟨(q_gT rfl (q_gsC (q_gN 14 nd) (q_gsC (q_gN 17 nd) q_gsN)) 2), q_noif, (q_varF 17)⟩))) q_anil))) q_anil))))
  (q_sone (q_ret (q_fz q_bl)))
  q_snil)))))))))))))) PassesOwn.never rfl)
  (q_sone (q_ret (q_fz (q_cmp (o_eqA hr.units) (q_bw (q_callP (k_count_of T) (hr.mono (by decide)) hgd (q_cons (q_fz (q_tup (q_cons (q_fz q_int) (q_cons (q_fz q_int) q_nil)))) (q_cons (q_fz (q_op o_mulT (q_frbw (q_tup (q_cons (q_fz q_int) q_nil))) (q_frbw q_int))) q_nil)))) (q_frbw q_int)))))))⟩
  obtain ⟨oc, od, kV, doc, pm, an, cdv, ct, osl, rfl, lk, hcd⟩ := F.ex
  exact fun s u => .of_eq rfl
theorem tp_mk {h : Heap} (X : K.In h) (G : h.Ns mainGlobals mg)
    {f0 : Addr} {od0 an0 : Option Addr} {sl0 : Array (Option Value)} {oc0 kV0 dc0 pm0 cd0 ct0 : Value}
    {f1 : Addr} {od1 an1 : Option Addr} {sl1 : Array (Option Value)} {oc1 kV1 dc1 pm1 cd1 ct1 : Value}
    {f2 : Addr} {od2 an2 : Option Addr} {sl2 : Array (Option Value)} {oc2 kV2 dc2 pm2 cd2 ct2 : Value}
    {f3 : Addr} {od3 an3 : Option Addr} {sl3 : Array (Option Value)} {oc3 kV3 dc3 pm3 cd3 ct3 : Value}
    {f4 : Addr} {od4 an4 : Option Addr} {sl4 : Array (Option Value)} {oc4 kV4 dc4 pm4 cd4 ct4 : Value}
    {f5 : Addr} {od5 an5 : Option Addr} {sl5 : Array (Option Value)} {oc5 kV5 dc5 pm5 cd5 ct5 : Value}
    {f6 : Addr} {od6 an6 : Option Addr} {sl6 : Array (Option Value)} {oc6 kV6 dc6 pm6 cd6 ct6 : Value}
    {f7 : Addr} {od7 an7 : Option Addr} {sl7 : Array (Option Value)} {oc7 kV7 dc7 pm7 cd7 ct7 : Value}
    {f8 : Addr} {od8 an8 : Option Addr} {sl8 : Array (Option Value)} {oc8 kV8 dc8 pm8 cd8 ct8 : Value}
    {f9 : Addr} {od9 an9 : Option Addr} {sl9 : Array (Option Value)} {oc9 kV9 dc9 pm9 cd9 ct9 : Value}
    {f10 : Addr} {od10 an10 : Option Addr} {sl10 : Array (Option Value)} {oc10 kV10 dc10 pm10 cd10 ct10 : Value}
    {f11 : Addr} {od11 an11 : Option Addr} {sl11 : Array (Option Value)} {oc11 kV11 dc11 pm11 cd11 ct11 : Value}
    {f12 : Addr} {od12 an12 : Option Addr} {sl12 : Array (Option Value)} {oc12 kV12 dc12 pm12 cd12 ct12 : Value}
    {f13 : Addr} {od13 an13 : Option Addr} {sl13 : Array (Option Value)} {oc13 kV13 dc13 pm13 cd13 ct13 : Value}
    {f14 : Addr} {od14 an14 : Option Addr} {sl14 : Array (Option Value)} {oc14 kV14 dc14 pm14 cd14 ct14 : Value}
    {f15 : Addr} {od15 an15 : Option Addr} {sl15 : Array (Option Value)} {oc15 kV15 dc15 pm15 cd15 ct15 : Value}
    (a0 : PySem.W.nsIn K mainGlobals "parting_of" = some (some (.ref f0))) (l0 : K.lookup f0 = some ⟨oc0, od0, .func (PySem.W.fnOf "parting_of" "parting_of" (defArgs t_parting_of) (defBody t_parting_of) (defScope t_parting_of) .none kV0 dc0 pm0 an0 cd0 ct0), sl0⟩) (c0 : PySem.W.codeIn K cd0 "parting_of" = true) (k0 : PySem.W.keepIn K (.ref f0) = true)
    (a1 : PySem.W.nsIn K mainGlobals "all_lots" = some (some (.ref f1))) (l1 : K.lookup f1 = some ⟨oc1, od1, .func (PySem.W.fnOf "all_lots" "all_lots" (defArgs t_all_lots) (defBody t_all_lots) (defScope t_all_lots) .none kV1 dc1 pm1 an1 cd1 ct1), sl1⟩) (c1 : PySem.W.codeIn K cd1 "all_lots" = true) (k1 : PySem.W.keepIn K (.ref f1) = true)
    (a2 : PySem.W.nsIn K mainGlobals "copies_of" = some (some (.ref f2))) (l2 : K.lookup f2 = some ⟨oc2, od2, .func (PySem.W.fnOf "copies_of" "copies_of" (defArgs t_copies_of) (defBody t_copies_of) (defScope t_copies_of) .none kV2 dc2 pm2 an2 cd2 ct2), sl2⟩) (c2 : PySem.W.codeIn K cd2 "copies_of" = true) (k2 : PySem.W.keepIn K (.ref f2) = true)
    (a3 : PySem.W.nsIn K mainGlobals "count_of" = some (some (.ref f3))) (l3 : K.lookup f3 = some ⟨oc3, od3, .func (PySem.W.fnOf "count_of" "count_of" (defArgs t_count_of) (defBody t_count_of) (defScope t_count_of) .none kV3 dc3 pm3 an3 cd3 ct3), sl3⟩) (c3 : PySem.W.codeIn K cd3 "count_of" = true) (k3 : PySem.W.keepIn K (.ref f3) = true)
    (a4 : PySem.W.nsIn K mainGlobals "counts_of" = some (some (.ref f4))) (l4 : K.lookup f4 = some ⟨oc4, od4, .func (PySem.W.fnOf "counts_of" "counts_of" (defArgs t_counts_of) (defBody t_counts_of) (defScope t_counts_of) .none kV4 dc4 pm4 an4 cd4 ct4), sl4⟩) (c4 : PySem.W.codeIn K cd4 "counts_of" = true) (k4 : PySem.W.keepIn K (.ref f4) = true)
    (a5 : PySem.W.nsIn K mainGlobals "turned" = some (some (.ref f5))) (l5 : K.lookup f5 = some ⟨oc5, od5, .func (PySem.W.fnOf "turned" "turned" (defArgs t_turned) (defBody t_turned) (defScope t_turned) .none kV5 dc5 pm5 an5 cd5 ct5), sl5⟩) (c5 : PySem.W.codeIn K cd5 "turned" = true) (k5 : PySem.W.keepIn K (.ref f5) = true)
    (a6 : PySem.W.nsIn K mainGlobals "form_worth" = some (some (.ref f6))) (l6 : K.lookup f6 = some ⟨oc6, od6, .func (PySem.W.fnOf "form_worth" "form_worth" (defArgs t_form_worth) (defBody t_form_worth) (defScope t_form_worth) .none kV6 dc6 pm6 an6 cd6 ct6), sl6⟩) (c6 : PySem.W.codeIn K cd6 "form_worth" = true) (k6 : PySem.W.keepIn K (.ref f6) = true)
    (a7 : PySem.W.nsIn K mainGlobals "_law_open_cells" = some (some (.ref f7))) (l7 : K.lookup f7 = some ⟨oc7, od7, .func (PySem.W.fnOf "_law_open_cells" "_law_open_cells" (defArgs t_law_open_cells) (defBody t_law_open_cells) (defScope t_law_open_cells) .none kV7 dc7 pm7 an7 cd7 ct7), sl7⟩) (c7 : PySem.W.codeIn K cd7 "_law_open_cells" = true) (k7 : PySem.W.keepIn K (.ref f7) = true)
    (a8 : PySem.W.nsIn K mainGlobals "_law_pick" = some (some (.ref f8))) (l8 : K.lookup f8 = some ⟨oc8, od8, .func (PySem.W.fnOf "_law_pick" "_law_pick" (defArgs t_law_pick) (defBody t_law_pick) (defScope t_law_pick) .none kV8 dc8 pm8 an8 cd8 ct8), sl8⟩) (c8 : PySem.W.codeIn K cd8 "_law_pick" = true) (k8 : PySem.W.keepIn K (.ref f8) = true)
    (a9 : PySem.W.nsIn K mainGlobals "_law_of" = some (some (.ref f9))) (l9 : K.lookup f9 = some ⟨oc9, od9, .func (PySem.W.fnOf "_law_of" "_law_of" (defArgs t_law_of) (defBody t_law_of) (defScope t_law_of) .none kV9 dc9 pm9 an9 cd9 ct9), sl9⟩) (c9 : PySem.W.codeIn K cd9 "_law_of" = true) (k9 : PySem.W.keepIn K (.ref f9) = true)
    (a10 : PySem.W.nsIn K mainGlobals "_law_of_labels" = some (some (.ref f10))) (l10 : K.lookup f10 = some ⟨oc10, od10, .func (PySem.W.fnOf "_law_of_labels" "_law_of_labels" (defArgs t_law_of_labels) (defBody t_law_of_labels) (defScope t_law_of_labels) .none kV10 dc10 pm10 an10 cd10 ct10), sl10⟩) (c10 : PySem.W.codeIn K cd10 "_law_of_labels" = true) (k10 : PySem.W.keepIn K (.ref f10) = true)
    (a11 : PySem.W.nsIn K mainGlobals "_law_parting" = some (some (.ref f11))) (l11 : K.lookup f11 = some ⟨oc11, od11, .func (PySem.W.fnOf "_law_parting" "_law_parting" (defArgs t_law_parting) (defBody t_law_parting) (defScope t_law_parting) .none kV11 dc11 pm11 an11 cd11 ct11), sl11⟩) (c11 : PySem.W.codeIn K cd11 "_law_parting" = true) (k11 : PySem.W.keepIn K (.ref f11) = true)
    (a12 : PySem.W.nsIn K mainGlobals "_law_choices" = some (some (.ref f12))) (l12 : K.lookup f12 = some ⟨oc12, od12, .func (PySem.W.fnOf "_law_choices" "_law_choices" (defArgs t_law_choices) (defBody t_law_choices) (defScope t_law_choices) .none kV12 dc12 pm12 an12 cd12 ct12), sl12⟩) (c12 : PySem.W.codeIn K cd12 "_law_choices" = true) (k12 : PySem.W.keepIn K (.ref f12) = true)
    (a13 : PySem.W.nsIn K mainGlobals "_law_left" = some (some (.ref f13))) (l13 : K.lookup f13 = some ⟨oc13, od13, .func (PySem.W.fnOf "_law_left" "_law_left" (defArgs t_law_left) (defBody t_law_left) (defScope t_law_left) .none kV13 dc13 pm13 an13 cd13 ct13), sl13⟩) (c13 : PySem.W.codeIn K cd13 "_law_left" = true) (k13 : PySem.W.keepIn K (.ref f13) = true)
    (a14 : PySem.W.nsIn K mainGlobals "_law_over" = some (some (.ref f14))) (l14 : K.lookup f14 = some ⟨oc14, od14, .func (PySem.W.fnOf "_law_over" "_law_over" (defArgs t_law_over) (defBody t_law_over) (defScope t_law_over) .none kV14 dc14 pm14 an14 cd14 ct14), sl14⟩) (c14 : PySem.W.codeIn K cd14 "_law_over" = true) (k14 : PySem.W.keepIn K (.ref f14) = true)
    (a15 : PySem.W.nsIn K mainGlobals "law" = some (some (.ref f15))) (l15 : K.lookup f15 = some ⟨oc15, od15, .func (PySem.W.fnOf "law" "law" (defArgs t_law) (defBody t_law) (defScope t_law) .none kV15 dc15 pm15 an15 cd15 ct15), sl15⟩) (c15 : PySem.W.codeIn K cd15 "law" = true) (k15 : PySem.W.keepIn K (.ref f15) = true)
    (z0 : PySem.W.nsIn K mainGlobals "abs" = some none)
    (z1 : PySem.W.nsIn K mainGlobals "int" = some none)
    (z2 : PySem.W.nsIn K mainGlobals "len" = some none)
    (z3 : PySem.W.nsIn K mainGlobals "list" = some none)
    (z4 : PySem.W.nsIn K mainGlobals "min" = some none)
    (z5 : PySem.W.nsIn K mainGlobals "range" = some none)
    (z6 : PySem.W.nsIn K mainGlobals "repr" = some none)
    (z7 : PySem.W.nsIn K mainGlobals "sorted" = some none)
    (z8 : PySem.W.nsIn K mainGlobals "sum" = some none)
    (z9 : PySem.W.nsIn K mainGlobals "tuple" = some none)
    : Tp K mg := ⟨⟨_, _, fun_mk l0 c0 k0, PySem.W.mg_of X G a0⟩, ⟨_, _, fun_mk l1 c1 k1, PySem.W.mg_of X G a1⟩, ⟨_, _, fun_mk l2 c2 k2, PySem.W.mg_of X G a2⟩, ⟨_, _, fun_mk l3 c3 k3, PySem.W.mg_of X G a3⟩, ⟨_, _, fun_mk l4 c4 k4, PySem.W.mg_of X G a4⟩, ⟨_, _, fun_mk l5 c5 k5, PySem.W.mg_of X G a5⟩, ⟨_, _, fun_mk l6 c6 k6, PySem.W.mg_of X G a6⟩, ⟨_, _, fun_mk l7 c7 k7, PySem.W.mg_of X G a7⟩, ⟨_, _, fun_mk l8 c8 k8, PySem.W.mg_of X G a8⟩, ⟨_, _, fun_mk l9 c9 k9, PySem.W.mg_of X G a9⟩, ⟨_, _, fun_mk l10 c10 k10, PySem.W.mg_of X G a10⟩, ⟨_, _, fun_mk l11 c11 k11, PySem.W.mg_of X G a11⟩, ⟨_, _, fun_mk l12 c12 k12, PySem.W.mg_of X G a12⟩, ⟨_, _, fun_mk l13 c13 k13, PySem.W.mg_of X G a13⟩, ⟨_, _, fun_mk l14 c14 k14, PySem.W.mg_of X G a14⟩, ⟨_, _, fun_mk l15 c15 k15, PySem.W.mg_of X G a15⟩, PySem.W.mg_none_of X G z0, PySem.W.mg_none_of X G z1, PySem.W.mg_none_of X G z2, PySem.W.mg_none_of X G z3, PySem.W.mg_none_of X G z4, PySem.W.mg_none_of X G z5, PySem.W.mg_none_of X G z6, PySem.W.mg_none_of X G z7, PySem.W.mg_none_of X G z8, PySem.W.mg_none_of X G z9⟩
end
end K10

set_option Elab.async false
set_option linter.all false
set_option maxRecDepth 100000
set_option maxHeartbeats 4000000
open PySem PySem.W PyProof.Rows
set_option maxHeartbeats 0 in
theorem PySem.Challenge.cw_lotvalues_k10_whole_copies_of_partings_holds : PySem.Challenge.rw_lotvalues_k10_whole_copies_of_partings.Holds := by
  w_on; o_law; k_head; (case hw => w_witness2)
  k_fill
  refine Q.law_of (l := PySem.Challenge.rw_lotvalues_k10_whole_copies_of_partings) (k := 5) (x := "script") rfl rfl ⟨rfl, by decide, by decide⟩ (fun w h Y => PySem.W.kIn_of Y) ?F
  case F =>
    intro w mg fa h KX G hmg
    refine K10.all_law K10.law_sem ?T hmg
    refine' K10.tp_mk KX G ?a0 ?l0 ?c0 ?k0 ?a1 ?l1 ?c1 ?k1 ?a2 ?l2 ?c2 ?k2 ?a3 ?l3 ?c3 ?k3 ?a4 ?l4 ?c4 ?k4 ?a5 ?l5 ?c5 ?k5 ?a6 ?l6 ?c6 ?k6 ?a7 ?l7 ?c7 ?k7 ?a8 ?l8 ?c8 ?k8 ?a9 ?l9 ?c9 ?k9 ?a10 ?l10 ?c10 ?k10 ?a11 ?l11 ?c11 ?k11 ?a12 ?l12 ?c12 ?k12 ?a13 ?l13 ?c13 ?k13 ?a14 ?l14 ?c14 ?k14 ?a15 ?l15 ?c15 ?k15 ?z0 ?z1 ?z2 ?z3 ?z4 ?z5 ?z6 ?z7 ?z8 ?z9
    (case a0 => k_is); (case l0 => k_is); (case c0 => k_is); (case k0 => k_is); (case a1 => k_is); (case l1 => k_is); (case c1 => k_is); (case k1 => k_is)
    (case a2 => k_is); (case l2 => k_is); (case c2 => k_is); (case k2 => k_is); (case a3 => k_is); (case l3 => k_is); (case c3 => k_is); (case k3 => k_is)
    (case a4 => k_is); (case l4 => k_is); (case c4 => k_is); (case k4 => k_is); (case a5 => k_is); (case l5 => k_is); (case c5 => k_is); (case k5 => k_is)
    (case a6 => k_is); (case l6 => k_is); (case c6 => k_is); (case k6 => k_is); (case a7 => k_is); (case l7 => k_is); (case c7 => k_is); (case k7 => k_is)
    (case a8 => k_is); (case l8 => k_is); (case c8 => k_is); (case k8 => k_is); (case a9 => k_is); (case l9 => k_is); (case c9 => k_is); (case k9 => k_is)
    (case a10 => k_is); (case l10 => k_is); (case c10 => k_is); (case k10 => k_is); (case a11 => k_is); (case l11 => k_is); (case c11 => k_is); (case k11 => k_is)
    (case a12 => k_is); (case l12 => k_is); (case c12 => k_is); (case k12 => k_is); (case a13 => k_is); (case l13 => k_is); (case c13 => k_is); (case k13 => k_is)
    (case a14 => k_is); (case l14 => k_is); (case c14 => k_is); (case k14 => k_is); (case a15 => k_is); (case l15 => k_is); (case c15 => k_is); (case k15 => k_is)
    (case z0 => k_is); (case z1 => k_is); (case z2 => k_is); (case z3 => k_is); (case z4 => k_is); (case z5 => k_is); (case z6 => k_is); (case z7 => k_is)
    (case z8 => k_is); (case z9 => k_is)

