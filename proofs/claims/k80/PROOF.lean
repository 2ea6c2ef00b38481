import PyProof.Rows.All
import Wide.All
import OpenK.AllK
import Wide.FinOn
import HandS.ForMost
import HandS.Deep
import HandS.TupAny
import HandS.Conv
import HandS.Style
import HandS.IsInst
import HandS.Zip
import HandS.Wide
import PyProof.ReprReads
import KE.GoesMore
import HandS.Ends
import PyProof.ReprLen
import PyProof.FitsInt
import HandS.SortRule
import HandS.SortInts
import PySem.Challenge.RW_evenlytied_k80_root_papers_judged
set_option Elab.async false
set_option linter.all false
set_option maxRecDepth 100000
/-! L3: a layer over HandS in which a def is read as a predicate transformer over plain data, with no heap in sight. -/
namespace L3
open PySem L2

abbrev D := PyData
def keyD : Key → D
  | .inl i => .int i
  | .inr x => .str x
def keysD (ks : List Key) : D := .tuple (ks.map keyD)

mutual
/-- v tells d over the clean heap G -/
inductive Dq (G : Hp) : V → D → Prop
  | non : Dq G .non .none
  | bl (b : Bool) : Dq G (.bl b) (.bool b)
  | int (i : Int) : Dq G (.int i) (.int i)
  | str (x : Str) : Dq G (.str x) (.str x)
  | lst {a : Addr} {xs : List V} {ds : List D} : G a = some (.lst xs) → DqA G xs ds → Dq G (.ref a) (.list ds)
  | tup {a : Addr} {xs : List V} {ds : List D} : G a = some (.tup xs) → DqA G xs ds → Dq G (.ref a) (.tuple ds)
  | dik {a : Addr} {kvs : List (Key × V)} {ds : List D} : G a = some (.dK kvs) → DqA G (kvs.map (·.2)) ds → Dq G (.ref a) (.dict ((kvs.map fun p => keyD p.1).zip ds))
  | dit {a : Addr} {kvs : List (List Key × V)} {ds : List D} : G a = some (.dT kvs) → DqA G (kvs.map (·.2)) ds → Dq G (.ref a) (.dict ((kvs.map fun p => keysD p.1).zip ds))
inductive DqA (G : Hp) : List V → List D → Prop
  | nil : DqA G [] []
  | cons {v : V} {vs : List V} {d : D} {ds : List D} : Dq G v d → DqA G vs ds → DqA G (v :: vs) (d :: ds)
end

def Sub (G G' : Hp) : Prop := ∀ a o, G a = some o → G' a = some o
theorem Sub.refl (G : Hp) : Sub G G := fun _ _ h => h
theorem Sub.trans {G G1 G2 : Hp} (h : Sub G G1) (h' : Sub G1 G2) : Sub G G2 := fun a o e => h' a o (h a o e)

mutual
theorem Dq.mono {G G' : Hp} (s : Sub G G') : ∀ {v : V} {d : D}, Dq G v d → Dq G' v d
  | _, _, .non => .non
  | _, _, .bl b => .bl b
  | _, _, .int b => .int b
  | _, _, .str b => .str b
  | _, _, .lst h hs => .lst (s _ _ h) (DqA.mono s hs)
  | _, _, .tup h hs => .tup (s _ _ h) (DqA.mono s hs)
  | _, _, .dik h hs => .dik (s _ _ h) (DqA.mono s hs)
  | _, _, .dit h hs => .dit (s _ _ h) (DqA.mono s hs)
theorem DqA.mono {G G' : Hp} (s : Sub G G') : ∀ {v : List V} {d : List D}, DqA G v d → DqA G' v d
  | _, _, .nil => .nil
  | _, _, .cons h hs => .cons (Dq.mono s h) (DqA.mono s hs)
end
theorem DqA.length {G : Hp} : ∀ {vs : List V} {ds : List D}, DqA G vs ds → vs.length = ds.length
  | _, _, .nil => rfl
  | _, _, .cons _ t => by rw [List.length_cons, List.length_cons, DqA.length t]
theorem DqA.get {G : Hp} : ∀ {vs : List V} {ds : List D} {i : Nat} {d : D}, DqA G vs ds → ds[i]? = some d → ∃ v, vs[i]? = some v ∧ Dq G v d
  | _, _, _, _, .nil, e => by simp at e
  | _, _, 0, _, .cons h _, e => by simp at e; subst e; exact ⟨_, rfl, h⟩
  | _, _, i + 1, d, .cons _ t, e => by
    obtain ⟨v, h1, h2⟩ := DqA.get (i := i) (d := d) t (by simpa using e)
    exact ⟨v, by simpa using h1, h2⟩
theorem DqA.getV {G : Hp} : ∀ {vs : List V} {ds : List D} {i : Nat} {v : V}, DqA G vs ds → vs[i]? = some v → ∃ d, ds[i]? = some d ∧ Dq G v d
  | _, _, _, _, .nil, e => by simp at e
  | _, _, 0, _, .cons h _, e => by simp at e; subst e; exact ⟨_, rfl, h⟩
  | _, _, i + 1, d, .cons _ t, e => by
    obtain ⟨v, h1, h2⟩ := DqA.getV (i := i) (v := d) t (by simpa using e)
    exact ⟨v, by simpa using h1, h2⟩
theorem DqA.app {G : Hp} : ∀ {vs ws : List V} {ds es : List D}, DqA G vs ds → DqA G ws es → DqA G (vs ++ ws) (ds ++ es)
  | _, _, _, _, .nil, h => h
  | _, _, _, _, .cons h t, h' => .cons h (DqA.app t h')
theorem DqA.one {G : Hp} {v : V} {d : D} (h : Dq G v d) : DqA G [v] [d] := .cons h .nil
theorem DqA.of_get {G : Hp} : ∀ {vs : List V} {ds : List D}, vs.length = ds.length → (∀ (i : Nat) v d, vs[i]? = some v → ds[i]? = some d → Dq G v d) → DqA G vs ds
  | [], [], _, _ => .nil
  | v :: vs, d :: ds, hl, h => .cons (h 0 v d rfl rfl) (DqA.of_get (by simpa using hl) fun i v d e1 e2 => h (i + 1) v d (by simpa using e1) (by simpa using e2))
  | [], _ :: _, hl, _ => by simp at hl
  | _ :: _, [], hl, _ => by simp at hl
theorem DqA.set {G : Hp} {v : V} {d : D} (h : Dq G v d) : ∀ {vs : List V} {ds : List D} (i : Nat), DqA G vs ds → DqA G (vs.set i v) (ds.set i d)
  | _, _, _, .nil => .nil
  | _, _, 0, .cons _ t => .cons h t
  | _, _, i + 1, .cons q t => .cons q (DqA.set h i t)
theorem DqA.take {G : Hp} : ∀ {vs : List V} {ds : List D} (n : Nat), DqA G vs ds → DqA G (vs.take n) (ds.take n)
  | _, _, 0, _ => .nil
  | _, _, _ + 1, .nil => .nil
  | _, _, n + 1, .cons r t => .cons r (DqA.take n t)
theorem DqA.drop {G : Hp} : ∀ {vs : List V} {ds : List D} (n : Nat), DqA G vs ds → DqA G (vs.drop n) (ds.drop n)
  | _, _, 0, r => r
  | _, _, _ + 1, .nil => .nil
  | _, _, n + 1, .cons _ t => DqA.drop n t
theorem DqA.reverse {G : Hp} : ∀ {vs : List V} {ds : List D}, DqA G vs ds → DqA G vs.reverse ds.reverse
  | _, _, .nil => .nil
  | _, _, .cons r t => by rw [List.reverse_cons, List.reverse_cons]; exact DqA.app (DqA.reverse t) (.one r)
theorem DqA.dropLast {G : Hp} {vs : List V} {ds : List D} (h : DqA G vs ds) : DqA G vs.dropLast ds.dropLast := by
  rw [List.dropLast_eq_take, List.dropLast_eq_take, h.length]; exact h.take _
theorem DqA.eraseIdx {G : Hp} : ∀ {vs : List V} {ds : List D} (i : Nat), DqA G vs ds → DqA G (vs.eraseIdx i) (ds.eraseIdx i)
  | _, _, _, .nil => .nil
  | _, _, 0, .cons _ t => t
  | _, _, i + 1, .cons q t => .cons q (DqA.eraseIdx i t)
theorem DqA.rep {G : Hp} {vs : List V} {ds : List D} (h : DqA G vs ds) : ∀ k : Nat, DqA G (List.replicate k vs).flatten (List.replicate k ds).flatten
  | 0 => .nil
  | k + 1 => by rw [List.replicate_succ, List.replicate_succ, List.flatten_cons, List.flatten_cons]; exact h.app (DqA.rep h k)
theorem DqA.ints {G : Hp} : ∀ (ns : List Int), DqA G (ns.map V.int) (ns.map PyData.int)
  | [] => .nil
  | n :: r => .cons (.int n) (DqA.ints r)
theorem DqA.of_ints {G : Hp} : ∀ {ns : List Int} {vs : List V}, DqA G vs (ns.map PyData.int) → vs = ns.map V.int
  | [], _, .nil => rfl
  | n :: r, _, .cons (.int _) t => by rw [DqA.of_ints t]; rfl
theorem DqA.of_bls {G : Hp} : ∀ {ns : List Bool} {vs : List V}, DqA G vs (ns.map PyData.bool) → vs = ns.map V.bl
  | [], _, .nil => rfl
  | n :: r, _, .cons (.bl _) t => by rw [DqA.of_bls t]; rfl
mutual
def nodict : D → Bool
  | .none | .bool _ | .int _ | .str _ => true
  | .list ds => nodicts ds
  | .tuple ds => nodicts ds
  | .dict _ => false
def nodicts : List D → Bool
  | [] => true
  | d :: ds => nodict d && nodicts ds
end
mutual
theorem Dq.dp {K : PySem.W.Frag} {G : Hp} : ∀ {v : V} {d : D}, Dq G v d → nodict d = true → Dp K G v d
  | _, _, .non, _ => .non
  | _, _, .bl b, _ => .bl b
  | _, _, .int b, _ => .int b
  | _, _, .str b, _ => .str b
  | _, _, .lst h hs, n => .lst (SqL.of h) (DqA.dp hs (by simpa [nodict] using n))
  | _, _, .tup h hs, n => .tup (SqT.of h) (DqA.dp hs (by simpa [nodict] using n))
  | _, _, .dik _ _, n => by simp [nodict] at n
  | _, _, .dit _ _, n => by simp [nodict] at n
theorem DqA.dp {K : PySem.W.Frag} {G : Hp} : ∀ {v : List V} {d : List D}, DqA G v d → nodicts d = true → DpAll K G v d
  | _, _, .nil, _ => .nil
  | _, _, .cons h hs, n => by
    simp only [nodicts, Bool.and_eq_true] at n
    exact .cons (Dq.dp h n.1) (DqA.dp hs n.2)
end

/-! ### the heaps of a def -/
/-- from (G, H) to (G', H'): what is clean stays, what stands stays but where S allows -/
structure Ext (S : Addr → Prop) (G H G' H' : Hp) : Prop where
  hk : ∀ a o, H a = some o → ¬ S a → H' a = some o
  hd : ∀ a o, H a = some o → ∃ o', H' a = some o'
  gk : Sub G G'
  gh : Sub G' H'
  gn : ∀ a o, G' a = some o → G a = none → H a = none ∨ S a
theorem Ext.refl {S : Addr → Prop} {G H : Hp} (h : Sub G H) : Ext S G H G H :=
  ⟨fun _ _ e _ => e, fun _ o e => ⟨o, e⟩, Sub.refl _, h, fun a o e n => by rw [n] at e; cases e⟩
theorem Ext.trans {S S' : Addr → Prop} {G H G1 H1 G2 H2 : Hp} (x : Ext S G H G1 H1) (y : Ext S' G1 H1 G2 H2) (hS : ∀ a, S' a → S a ∨ H a = none) : Ext S G H G2 H2 where
  hk := fun a o e n => y.hk a o (x.hk a o e n) fun z => (hS a z).elim n fun q => by rw [q] at e; cases e
  hd := fun a o e => let ⟨o', e'⟩ := x.hd a o e; y.hd a o' e'
  gk := x.gk.trans y.gk
  gh := y.gh
  gn := fun a o e n => by
    cases q : G1 a with
    | some u => exact x.gn a u q n
    | none =>
      rcases y.gn a o e q with z | z
      · left
        cases r : H a with
        | none => rfl
        | some u => obtain ⟨o', e'⟩ := x.hd a u r; rw [z] at e'; cases e'
      · exact (hS a z).symm
theorem Ext.none_of {S : Addr → Prop} {G H G1 H1 : Hp} (x : Ext S G H G1 H1) {p : Addr} (h : H1 p = none) : H p = none := by
  cases r : H p with
  | none => rfl
  | some u => obtain ⟨o', e'⟩ := x.hd p u r; rw [h] at e'; cases e'
/-- a new clean object -/
theorem Ext.new {S : Addr → Prop} {G H : Hp} (h : Sub G H) {p : Addr} (n : H p = none) (o : HO) : Ext S G H (upd G p o) (upd H p o) where
  hk := fun a u e _ => by rw [upd_ne (ne_of_none e n)]; exact e
  hd := fun a u e => ⟨u, by rw [upd_ne (ne_of_none e n)]; exact e⟩
  gk := fun a u e => by rw [upd_ne (ne_of_none (h _ _ e) n)]; exact e
  gh := fun a u e => by
    by_cases q : a = p
    · subst q; rw [upd_same] at e ⊢; exact e
    · rw [upd_ne q] at e ⊢; exact h _ _ e
  gn := fun a u e nn => by
    by_cases q : a = p
    · subst q; exact .inl n
    · rw [upd_ne q, nn] at e; cases e
/-- a new object that is not clean (yet) -/
theorem Ext.newT {S : Addr → Prop} {G H : Hp} (h : Sub G H) {p : Addr} (n : H p = none) (o : HO) : Ext S G H G (upd H p o) where
  hk := fun a u e _ => by rw [upd_ne (ne_of_none e n)]; exact e
  hd := fun a u e => ⟨u, by rw [upd_ne (ne_of_none e n)]; exact e⟩
  gk := Sub.refl _
  gh := fun a u e => by rw [upd_ne (ne_of_none (h _ _ e) n)]; exact h _ _ e
  gn := fun a u e nn => by rw [nn] at e; cases e
/-- an object of S is written -/
theorem Ext.wr {S : Addr → Prop} {G H : Hp} (h : Sub G H) {p : Addr} (sp : S p) (g : G p = none) (o : HO) : Ext S G H G (upd H p o) where
  hk := fun a u e n => by rw [upd_ne (fun z => n (by rw [z]; exact sp))]; exact e
  hd := fun a u e => by
    by_cases q : a = p
    · subst q; exact ⟨o, upd_same⟩
    · exact ⟨u, by rw [upd_ne q]; exact e⟩
  gk := Sub.refl _
  gh := fun a u e => by rw [upd_ne (ne_of_none e g)]; exact h _ _ e
  gn := fun a u e nn => by rw [nn] at e; cases e

/-- a list or dict at a, its parts clean -/
inductive Own (G H : Hp) (a : Addr) : D → Prop
  | lst {xs : List V} {ds : List D} : H a = some (.lst xs) → DqA G xs ds → Own G H a (.list ds)
  | dik {kvs : List (Key × V)} {ds : List D} : H a = some (.dK kvs) → DqA G (kvs.map (·.2)) ds → Own G H a (.dict ((kvs.map fun p => keyD p.1).zip ds))
  | dit {kvs : List (List Key × V)} {ds : List D} : H a = some (.dT kvs) → DqA G (kvs.map (·.2)) ds → Own G H a (.dict ((kvs.map fun p => keysD p.1).zip ds))
theorem Own.mono {G H G' H' : Hp} {a : Addr} {d : D} (h : Own G H a d) (g : Sub G G') (e : ∀ o, H a = some o → H' a = some o) : Own G' H' a d := by
  cases h with
  | lst h x => exact .lst (e _ h) (x.mono g)
  | dik h x => exact .dik (e _ h) (x.mono g)
  | dit h x => exact .dit (e _ h) (x.mono g)
theorem Own.ex {G H : Hp} {a : Addr} {d : D} (h : Own G H a d) : ∃ o, H a = some o := by
  cases h with
  | lst h x => exact ⟨_, h⟩
  | dik h x => exact ⟨_, h⟩
  | dit h x => exact ⟨_, h⟩
/-- it is made clean -/
theorem Own.clean {G H : Hp} {a : Addr} {d : D} (h : Own G H a d) (g : G a = none) : ∃ o, H a = some o ∧ Dq (upd G a o) (.ref a) d := by
  have s : ∀ o, Sub G (upd G a o) := fun o b u e => by rw [upd_ne (ne_of_none e g)]; exact e
  cases h with
  | lst h x => exact ⟨_, h, .lst upd_same (x.mono (s _))⟩
  | dik h x => exact ⟨_, h, .dik upd_same (x.mono (s _))⟩
  | dit h x => exact ⟨_, h, .dit upd_same (x.mono (s _))⟩
/-- v tells d, its top perhaps not clean -/
def Sh (G H : Hp) (v : V) (d : D) : Prop := Dq G v d ∨ ∃ a, v = .ref a ∧ Own G H a d
theorem Sh.mono {G H G' H' : Hp} {v : V} {d : D} (h : Sh G H v d) (g : Sub G G') (e : Sub H H') : Sh G' H' v d := by
  rcases h with h | ⟨a, e1, o⟩
  · exact .inl (h.mono g)
  · exact .inr ⟨a, e1, o.mono g fun o q => e a o q⟩
theorem Sh.dq {G H : Hp} {v : V} {d : D} (h : Sh G H v d) (s : Sub G H) : Dq H v d := by
  rcases h with h | ⟨a, rfl, o⟩
  · exact h.mono s
  · cases o with
    | lst h x => exact .lst h (x.mono s)
    | dik h x => exact .dik h (x.mono s)
    | dit h x => exact .dit h (x.mono s)
theorem Sh.lst {G H : Hp} {v : V} {ds : List D} (h : Sh G H v (.list ds)) (s : Sub G H) : ∃ a xs, v = .ref a ∧ H a = some (.lst xs) ∧ DqA G xs ds := by
  rcases h with h | ⟨a, rfl, o⟩
  · cases h with
    | lst h x => exact ⟨_, _, rfl, s _ _ h, x⟩
  · cases o with
    | lst h x => exact ⟨_, _, rfl, h, x⟩
theorem Sh.tup {G H : Hp} {v : V} {ds : List D} (h : Sh G H v (.tuple ds)) (s : Sub G H) : ∃ a xs, v = .ref a ∧ H a = some (.tup xs) ∧ G a = some (.tup xs) ∧ DqA G xs ds := by
  rcases h with h | ⟨a, rfl, o⟩
  · cases h with
    | tup h x => exact ⟨_, _, rfl, s _ _ h, h, x⟩
  · cases o
theorem Sh.int {G H : Hp} {v : V} {i : Int} (h : Sh G H v (.int i)) : v = .int i := by
  rcases h with h | ⟨a, rfl, o⟩
  · cases h; rfl
  · cases o
theorem Sh.bl {G H : Hp} {v : V} {i : Bool} (h : Sh G H v (.bool i)) : v = .bl i := by
  rcases h with h | ⟨a, rfl, o⟩
  · cases h; rfl
  · cases o
theorem Sh.str {G H : Hp} {v : V} {i : Str} (h : Sh G H v (.str i)) : v = .str i := by
  rcases h with h | ⟨a, rfl, o⟩
  · cases h; rfl
  · cases o
theorem Sh.non {G H : Hp} {v : V} (h : Sh G H v .none) : v = .non := by
  rcases h with h | ⟨a, rfl, o⟩
  · cases h; rfl
  · cases o

/-- the source of draws: its dict at d, its cells at c -/
def kCells : Key := .inr "cells"
def kLeft : Key := .inr "left"
def kMixed : Key := .inr "mixed"
def kTurn : Key := .inr "turn"
def SrcAt (H : Hp) (d c : Addr) : Prop := d ≠ c ∧ ∃ (ns : List Int) (l m t : Int), H d = some (.dK [(kCells, .ref c), (kLeft, .int l), (kMixed, .int m), (kTurn, .int t)]) ∧ H c = some (.lst (ns.map V.int))

/-! ### slots, operands -/
inductive SV where
  | no | val (d : D) | own (d : D) | src
abbrev PSt := List SV
inductive OP where
  | d (d : D) | t (d : D) | o (i : Nat) | s
/-- read -/
def OP.rd (ρ : PSt) (x : OP) (Q : D → Prop) : Prop := match x with
  | .d z => Q z
  | .t z => Q z
  | .o i => (match ρ[i]? with
    | some (.own z) => Q z
    | _ => False)
  | .s => False
/-- as a clean value -/
def OP.cl (x : OP) (Q : D → Prop) : Prop := match x with
  | .d z => Q z
  | .t z => Q z
  | _ => False

/-- the entry of a def -/
structure Ent where
  G : Hp
  H : Hp
  sr : Option (Addr × Addr)
def InSr (sr : Option (Addr × Addr)) (a : Addr) : Prop := match sr with
  | some (d, c) => a = d ∨ a = c
  | none => False
/-- what may change within an expression: the own objects, the source -/
def Spc (f : Addr → Option Nat) (sr : Option (Addr × Addr)) (a : Addr) : Prop := f a ≠ none ∨ InSr sr a

def SlotOk (f : Addr → Option Nat) (sr : Option (Addr × Addr)) (G H : Hp) (i : Nat) (x : Option (Option V)) : SV → Prop
  | .no => True
  | .val d => ∃ v, x = some (some v) ∧ Dq G v d
  | .own d => ∃ a, x = some (some (.ref a)) ∧ f a = some i ∧ Own G H a d
  | .src => ∃ d c, x = some (some (.ref d)) ∧ sr = some (d, c)
structure ER (E : Ent) (f : Addr → Option Nat) (sr : Option (Addr × Addr)) (ρ : PSt) (σ : St) (G H : Hp) : Prop where
  ext : Ext (InSr E.sr) E.G E.H G H
  own : ∀ a i, f a = some i → G a = none ∧ E.H a = none ∧ ∃ o, H a = some o
  src : ∀ d c, sr = some (d, c) → G d = none ∧ G c = none ∧ f d = none ∧ f c = none ∧ SrcAt H d c
  srE : sr = E.sr ∨ (E.sr = none ∧ ∀ d c, sr = some (d, c) → E.H d = none ∧ E.H c = none)
  len : σ.length = ρ.length
  at_ : ∀ i s, ρ[i]? = some s → SlotOk f sr G H i σ[i]? s
theorem ER.sub {E : Ent} {f : Addr → Option Nat} {sr : Option (Addr × Addr)} {ρ : PSt} {σ : St} {G H : Hp} (R : ER E f sr ρ σ G H) : Sub G H := R.ext.gh
/-- H₁: the heap ahead of the expression -/
def OpOk (H1 : Hp) (f : Addr → Option Nat) (sr : Option (Addr × Addr)) (σ : St) (G H : Hp) (v : V) : OP → Prop
  | .d d => Dq G v d
  | .t d => ∃ a, v = .ref a ∧ f a = none ∧ ¬ InSr sr a ∧ G a = none ∧ H1 a = none ∧ Own G H a d
  | .o i => ∃ a, v = .ref a ∧ σ[i]? = some (some (.ref a))
  | .s => ∃ c, ∃ d, v = .ref d ∧ sr = some (d, c)

abbrev PTE := PSt → (OP → PSt → Prop) → Prop
abbrev PTT := PSt → (Bool → PSt → Prop) → Prop
abbrev PTA := PSt → (List OP → PSt → Prop) → Prop
structure PEnds where
  nx : PSt → Prop
  rt : D → Prop
  bk : PSt → Prop := fun _ => False
  ct : PSt → Prop := fun _ => False
  /-- a new list is handed back, nobody else has it -/
  rf : D → Prop := fun _ => False
abbrev PTS := PEnds → PSt → Prop

/-- an expression's reading is told by p -/
def Abs (t : TE) (p : PTE) : Prop := ∀ (E : Ent) f sr ρ σ G H (Q : VK) (Qp : OP → PSt → Prop), ER E f sr ρ σ G H → p ρ Qp →
  (∀ v x f' ρ' G' H', Qp x ρ' → (∀ a, f' a ≠ none → f' a = f a) → ER E f' sr ρ' σ G' H' → Ext (Spc f sr) G H G' H' → OpOk H f' sr σ G' H' v x → Q v H') → t σ H Q
def AbsT (t : TT) (p : PTT) : Prop := ∀ (E : Ent) f sr ρ σ G H (Q : Bool → Hp → Prop) (Qp : Bool → PSt → Prop), ER E f sr ρ σ G H → p ρ Qp →
  (∀ b f' ρ' G' H', Qp b ρ' → (∀ a, f' a ≠ none → f' a = f a) → ER E f' sr ρ' σ G' H' → Ext (Spc f sr) G H G' H' → Q b H') → t σ H Q
/-- the addresses of what is not clean yet -/
def tmps : List V → List OP → List Addr
  | .ref a :: vs, .t _ :: xs => a :: tmps vs xs
  | _ :: vs, _ :: xs => tmps vs xs
  | _, _ => []
inductive OpsOk (H1 : Hp) (f : Addr → Option Nat) (sr : Option (Addr × Addr)) (σ : St) (G H : Hp) : List V → List OP → Prop
  | nil : OpsOk H1 f sr σ G H [] []
  | cons {v : V} {vs : List V} {x : OP} {xs : List OP} : OpOk H1 f sr σ G H v x → (∀ a d, v = .ref a → x = .t d → a ∉ tmps vs xs) → OpsOk H1 f sr σ G H vs xs → OpsOk H1 f sr σ G H (v :: vs) (x :: xs)
def AbsA (t : TA) (p : PTA) : Prop := ∀ (E : Ent) f sr ρ σ G H (Q : List V → Hp → Prop) (Qp : List OP → PSt → Prop), ER E f sr ρ σ G H → p ρ Qp →
  (∀ vs xs f' ρ' G' H', Qp xs ρ' → (∀ a, f' a ≠ none → f' a = f a) → ER E f' sr ρ' σ G' H' → Ext (Spc f sr) G H G' H' → OpsOk H f' sr σ G' H' vs xs → Q vs H') → t σ H Q
/-- what is wanted behind a statement -/
structure EndsOk (E : Ent) (G : Hp) (Dp : PEnds) (Ds : Ends) : Prop where
  nx : ∀ f sr ρ σ G' H, Dp.nx ρ → ER E f sr ρ σ G' H → Sub G G' → Ds.nx σ H
  rt : ∀ v d G' H, Dp.rt d → Ext (InSr E.sr) E.G E.H G' H → (∀ d c, E.sr = some (d, c) → G' d = none ∧ G' c = none ∧ SrcAt H d c) → Dq G' v d → Ds.rt v H
  bk : ∀ f sr ρ σ G' H, Dp.bk ρ → ER E f sr ρ σ G' H → Sub G G' → Ds.bk σ H
  ct : ∀ f sr ρ σ G' H, Dp.ct ρ → ER E f sr ρ σ G' H → Sub G G' → Ds.ct σ H
  rf : ∀ v d G' H, Dp.rf d → Ext (InSr E.sr) E.G E.H G' H → (∀ d c, E.sr = some (d, c) → G' d = none ∧ G' c = none ∧ SrcAt H d c) → (∃ a, v = .ref a ∧ G' a = none ∧ E.H a = none ∧ ¬ InSr E.sr a ∧ Own G' H a d) → Ds.rt v H
def AbsS (t : TS) (p : PTS) : Prop := ∀ (E : Ent) f sr ρ σ G H (Ds : Ends) (Dp : PEnds), ER E f sr ρ σ G H → p Dp ρ → EndsOk E G Dp Ds → t Ds σ H

/-- an expression is told by p -/
def QE (X : Cx) (e : Expr) (p : PTE) : Prop := ∃ t, PE X e t ∧ Abs t p
def QT (X : Cx) (e : Expr) (p : PTT) : Prop := ∃ t, PT X e t ∧ AbsT t p
def QA (X : Cx) (es : List Expr) (p : PTA) : Prop := ∃ t, PA X es t ∧ AbsA t p
def QS (X : Cx) (st : Stmt) (p : PTS) : Prop := ∃ t, PS X st t ∧ AbsS t p
def QSs (X : Cx) (st : List Stmt) (p : PTS) : Prop := ∃ t, PSs X st t ∧ AbsS t p
end L3
set_option Elab.async false
set_option linter.all false
set_option maxRecDepth 100000
set_option maxHeartbeats 1000000
namespace L3
open PySem L2

section
variable {E : Ent} {f f' f1 f2 : Addr → Option Nat} {sr : Option (Addr × Addr)} {ρ ρ1 ρ2 : PSt} {σ : St} {G H G1 H1 G2 H2 : Hp} {v : V} {x : OP}
theorem SlotOk.mono {i : Nat} {z : Option (Option V)} {s : SV} (h : SlotOk f sr G H i z s) (g : Sub G G1) (e : ∀ a o, H a = some o → f a = some i → H1 a = some o) : SlotOk f sr G1 H1 i z s := by
  cases s with
  | no => trivial
  | val d => obtain ⟨v, e1, h⟩ := h; exact ⟨v, e1, h.mono g⟩
  | own d => obtain ⟨a, e1, e2, h⟩ := h; exact ⟨a, e1, e2, h.mono g fun o q => e a o q e2⟩
  | src => exact h
theorem fle {a : Addr} (h : ∀ a, f' a ≠ none → f' a = f a) (n : f a = none) : f' a = none := by
  cases q : f' a with
  | none => rfl
  | some i => have := h a (by rw [q]; intro z; cases z); rw [q, n] at this; cases this
theorem Spc.le {a : Addr} (h : ∀ a, f' a ≠ none → f' a = f a) (s : Spc f' sr a) : Spc f sr a := by
  rcases s with s | s
  · exact .inl fun n => s (fle h n)
  · exact .inr s
theorem fle.trans (h : ∀ a, f1 a ≠ none → f1 a = f a) (h' : ∀ a, f2 a ≠ none → f2 a = f1 a) : ∀ a, f2 a ≠ none → f2 a = f a := fun a n => by
  rw [h' a n]; exact h a (by rw [← h' a n]; exact n)
theorem Ext.then (x : Ext (Spc f sr) G H G1 H1) (h : ∀ a, f1 a ≠ none → f1 a = f a) (y : Ext (Spc f1 sr) G1 H1 G2 H2) : Ext (Spc f sr) G H G2 H2 := x.trans y fun a s => .inl (s.le h)
theorem Ext.pure {S : Addr → Prop} (x : Ext (fun _ => False) G H G1 H1) : Ext S G H G1 H1 :=
  ⟨fun a o e _ => x.hk a o e id, x.hd, x.gk, x.gh, fun a o e n => (x.gn a o e n).elim .inl fun z => z.elim⟩
theorem Ext.subH (x : Ext (fun _ => False) G H G1 H1) : Sub H H1 := fun a o e => x.hk a o e id
theorem SrcAt.mono {d c : Addr} (h : SrcAt H d c) (s : ∀ o, (H d = some o → H1 d = some o) ∧ (H c = some o → H1 c = some o)) : SrcAt H1 d c := by
  obtain ⟨n, ns, l, m, t, e1, e2⟩ := h
  exact ⟨n, ns, l, m, t, (s _).1 e1, (s _).2 e2⟩
theorem SrcAt.exd {d c : Addr} (h : SrcAt H d c) : (∃ o, H d = some o) ∧ ∃ o, H c = some o := by
  obtain ⟨n, ns, l, m, t, e1, e2⟩ := h
  exact ⟨⟨_, e1⟩, ⟨_, e2⟩⟩
theorem stayN (h : G a = none) (x : Ext (fun _ => False) G H G1 H1) (e : ∃ o, H a = some o) : G1 a = none := by
  cases q : G1 a with
  | none => rfl
  | some u =>
    obtain ⟨o, e⟩ := e
    rcases x.gn a u q h with z | z
    · rw [z] at e; cases e
    · exact z.elim
/-- nothing of ours is changed -/
theorem ER.pure (R : ER E f sr ρ σ G H) (x : Ext (fun _ => False) G H G1 H1) : ER E f sr ρ σ G1 H1 where
  ext := R.ext.trans x fun _ z => z.elim
  own := fun a i e => by
    obtain ⟨h1, h2, h3⟩ := R.own a i e
    refine ⟨stayN h1 x h3, h2, ?_⟩
    obtain ⟨o, q⟩ := h3
    exact ⟨o, x.subH _ _ q⟩
  src := fun d c e => by
    obtain ⟨h1, h2, h3, h4, h5⟩ := R.src d c e
    obtain ⟨q1, q2⟩ := h5.exd
    exact ⟨stayN h1 x q1, stayN h2 x q2, h3, h4, h5.mono fun o => ⟨x.subH _ _, x.subH _ _⟩⟩
  srE := R.srE
  len := R.len
  at_ := fun i s e => (R.at_ i s e).mono x.gk fun a o q _ => x.subH _ _ q
/-- an operand stays through what follows -/
theorem OpOk.keep {H0 : Hp} (h : OpOk H0 f sr σ G H v x) (hf : ∀ a, f1 a ≠ none → f1 a = f a) (e : Ext (Spc f sr) G H G1 H1) : OpOk H0 f1 sr σ G1 H1 v x := by
  cases x with
  | d d => exact Dq.mono e.gk h
  | o i => exact h
  | s => exact h
  | t d =>
    obtain ⟨a, e1, e2, e3, e4, e5, o⟩ := h
    obtain ⟨u, hu⟩ := o.ex
    have ns : ¬ Spc f sr a := fun z => z.elim (fun z => z e2) e3
    refine ⟨a, e1, fle hf e2, e3, ?_, e5, o.mono e.gk fun o q => e.hk a o q ns⟩
    cases q : G1 a with
    | none => rfl
    | some w =>
      rcases e.gn a w q e4 with z | z
      · rw [z] at hu; cases hu
      · exact (ns z).elim
theorem OpOk.back {H0 : Hp} (h : OpOk H1 f sr σ G H v x) (n : ∀ a, H1 a = none → H0 a = none) : OpOk H0 f sr σ G H v x := by
  cases x with
  | d d => exact h
  | o i => exact h
  | s => exact h
  | t d =>
    obtain ⟨a, e1, e2, e3, e4, e5, o⟩ := h
    exact ⟨a, e1, e2, e3, e4, n a e5, o⟩
/-- read -/
theorem OpOk.rd {H0 : Hp} {Q : D → Prop} (h : OpOk H0 f sr σ G H v x) (R : ER E f sr ρ σ G H) (q : x.rd ρ Q) : ∃ d, Sh G H v d ∧ Q d := by
  cases x with
  | d d => exact ⟨d, .inl h, q⟩
  | s => exact q.elim
  | t d =>
    obtain ⟨a, e1, e2, e3, e4, e5, o⟩ := h
    exact ⟨d, .inr ⟨a, e1, o⟩, q⟩
  | o i =>
    obtain ⟨a, e1, e2⟩ := h
    unfold OP.rd at q
    simp only at q
    split at q
    · rename_i z hz
      have s := R.at_ i _ hz
      obtain ⟨b, eb, _, ob⟩ := s
      rw [e2] at eb
      cases eb
      exact ⟨z, .inr ⟨a, e1, ob⟩, q⟩
    · exact q.elim
/-- the address a, laid after the entry, is made clean -/
theorem ER.clean {a : Addr} {d : D} (R : ER E f sr ρ σ G H) (e2 : f a = none) (e3 : ¬ InSr sr a) (e4 : G a = none) (e5 : E.H a = none) (o : Own G H a d) : ∃ u, Dq (upd G a u) (.ref a) d ∧ ER E f sr ρ σ (upd G a u) H ∧ Sub G (upd G a u) ∧ H a = some u := by
  obtain ⟨u, hu, hd⟩ := o.clean e4
  have sg : Sub G (upd G a u) := fun b w e => by rw [upd_ne (ne_of_none e e4)]; exact e
  refine ⟨u, hd, ⟨⟨R.ext.hk, R.ext.hd, R.ext.gk.trans sg, fun b w e => ?_, fun b w e n => ?_⟩, fun b i e => ?_, fun d' c e => ?_, R.srE, R.len, fun i s e => (R.at_ i s e).mono sg fun _ _ q _ => q⟩, sg, hu⟩
  · by_cases q : b = a
    · subst q; rw [upd_same] at e; rw [← e]; exact hu
    · rw [upd_ne q] at e; exact R.sub _ _ e
  · by_cases q : b = a
    · subst q; exact .inl e5
    · rw [upd_ne q] at e; exact R.ext.gn b w e n
  · obtain ⟨h1, h2, h3⟩ := R.own b i e
    refine ⟨?_, h2, h3⟩
    rw [upd_ne (fun z => by rw [z, e2] at e; cases e)]
    exact h1
  · obtain ⟨h1, h2, h3, h4, h5⟩ := R.src d' c e
    have n1 : d' ≠ a := fun z => e3 (by rw [e, ← z]; exact .inl rfl)
    have n2 : c ≠ a := fun z => e3 (by rw [e, ← z]; exact .inr rfl)
    exact ⟨by rw [upd_ne n1]; exact h1, by rw [upd_ne n2]; exact h2, h3, h4, h5⟩
/-- an operand is made clean -/
theorem OpOk.cl {H0 : Hp} {Q : D → Prop} {S : Addr → Prop} {G0 : Hp} (h : OpOk H0 f sr σ G H v x) (R : ER E f sr ρ σ G H) (n : ∀ a, H0 a = none → E.H a = none) (ex : Ext S G0 H0 G H) (q : x.cl Q) :
    ∃ d G', Q d ∧ Dq G' v d ∧ ER E f sr ρ σ G' H ∧ Ext S G0 H0 G' H ∧ Sub G G' := by
  cases x with
  | d d => exact ⟨d, G, q, h, R, ex, Sub.refl _⟩
  | s => exact q.elim
  | o i => exact q.elim
  | t d =>
    obtain ⟨a, rfl, e2, e3, e4, e5, o⟩ := h
    obtain ⟨u, h1, h2, h3, h4⟩ := R.clean e2 e3 e4 (n a e5) o
    refine ⟨d, _, q, h1, h2, ⟨ex.hk, ex.hd, ex.gk.trans h3, h2.sub, fun b w e nn => ?_⟩, h3⟩
    by_cases q : b = a
    · subst q; exact .inl e5
    · rw [upd_ne q] at e; exact ex.gn b w e nn
theorem ER.noneE (R : ER E f sr ρ σ G H) {a : Addr} (h : H a = none) : E.H a = none := R.ext.none_of h
/-- slot i is made clean -/
theorem ER.freeze {i : Nat} {d : D} (R : ER E f sr ρ σ G H) (e : ρ[i]? = some (.own d)) :
    ∃ a u, σ[i]? = some (some (.ref a)) ∧ f a = some i ∧ Dq (upd G a u) (.ref a) d ∧ ER E (fun b => if b = a then none else f b) sr (ρ.set i (.val d)) σ (upd G a u) H ∧ Sub G (upd G a u) ∧ H a = some u := by
  obtain ⟨a, e1, e2, o⟩ := R.at_ i _ e
  obtain ⟨g1, g2, _⟩ := R.own a i e2
  obtain ⟨u, hu, hd⟩ := o.clean g1
  have sg : Sub G (upd G a u) := fun b w e => by rw [upd_ne (ne_of_none e g1)]; exact e
  refine ⟨a, u, e1, e2, hd, ⟨⟨R.ext.hk, R.ext.hd, R.ext.gk.trans sg, fun b w e => ?_, fun b w e n => ?_⟩, fun b j e => ?_, fun d' c e => ?_, R.srE, by rw [List.length_set]; exact R.len, fun j s ej => ?_⟩, sg, hu⟩
  · by_cases q : b = a
    · subst q; rw [upd_same] at e; rw [← e]; exact hu
    · rw [upd_ne q] at e; exact R.sub _ _ e
  · by_cases q : b = a
    · subst q; exact .inl g2
    · rw [upd_ne q] at e; exact R.ext.gn b w e n
  · by_cases q : b = a
    · simp [q] at e
    · simp only [q, if_false] at e
      obtain ⟨h1, h2, h3⟩ := R.own b j e
      exact ⟨by rw [upd_ne q]; exact h1, h2, h3⟩
  · obtain ⟨h1, h2, h3, h4, h5⟩ := R.src d' c e
    have n1 : d' ≠ a := fun z => by rw [z, e2] at h3; cases h3
    have n2 : c ≠ a := fun z => by rw [z, e2] at h4; cases h4
    exact ⟨by rw [upd_ne n1]; exact h1, by rw [upd_ne n2]; exact h2, by simp only [n1, if_false]; exact h3, by simp only [n2, if_false]; exact h4, h5⟩
  · by_cases q : j = i
    · subst q
      obtain ⟨hl, _⟩ := List.getElem?_eq_some_iff.mp e
      rw [List.getElem?_set_self hl] at ej
      cases ej
      exact ⟨_, e1, hd⟩
    · rw [List.getElem?_set_ne (Ne.symm q)] at ej
      have z := (R.at_ j s ej).mono sg (H1 := H) fun _ _ q _ => q
      cases s with
      | no => trivial
      | val d => exact z
      | src => exact z
      | own d' =>
        obtain ⟨b, b1, b2, b3⟩ := z
        have nb : b ≠ a := fun w => by rw [w, e2] at b2; cases b2; exact q rfl
        exact ⟨b, b1, by simp only [nb, if_false]; exact b2, b3⟩
end

/-! ### names, constants -/
section
variable {X : Cx}
/-- a slot as an operand: an own one is named -/
def pVar (i : Nat) : PTE := fun ρ Q => match ρ[i]? with
  | some (.val d) => Q (.d d) ρ
  | some (.own _) => Q (.o i) ρ
  | some .src => Q .s ρ
  | _ => False
/-- .. an own one is made clean for good -/
def pVarF (i : Nat) : PTE := fun ρ Q => match ρ[i]? with
  | some (.val d) => Q (.d d) ρ
  | some (.own d) => Q (.d d) (ρ.set i (.val d))
  | some .src => Q .s ρ
  | _ => False
def pC (d : D) : PTE := fun ρ Q => Q (.d d) ρ
theorem abs_var (i : Nat) : Abs (tVar i) (pVar i) := by
  intro E f sr ρ σ G H Q Qp R h k
  unfold pVar at h
  split at h
  · rename_i d hd
    obtain ⟨v, e, q⟩ := R.at_ i _ hd
    exact ⟨v, e, k v _ f ρ G H h (fun _ _ => rfl) R (.refl R.sub) q⟩
  · rename_i d hd
    obtain ⟨a, e, _, q⟩ := R.at_ i _ hd
    exact ⟨.ref a, e, k _ _ f ρ G H h (fun _ _ => rfl) R (.refl R.sub) ⟨a, rfl, e⟩⟩
  · rename_i hd
    obtain ⟨d, c, e, q⟩ := R.at_ i _ hd
    exact ⟨.ref d, e, k _ _ f ρ G H h (fun _ _ => rfl) R (.refl R.sub) ⟨c, d, rfl, q⟩⟩
  · exact h.elim
theorem abs_varF (i : Nat) : Abs (tVar i) (pVarF i) := by
  intro E f sr ρ σ G H Q Qp R h k
  unfold pVarF at h
  split at h
  · rename_i d hd
    obtain ⟨v, e, q⟩ := R.at_ i _ hd
    exact ⟨v, e, k v _ f ρ G H h (fun _ _ => rfl) R (.refl R.sub) q⟩
  · rename_i d hd
    obtain ⟨a, u, e, ef, hq, R', sg, hu⟩ := R.freeze hd
    refine ⟨.ref a, e, k _ _ _ _ _ H h (fun b nb => ?_) R' ⟨fun _ _ e _ => e, fun _ o e => ⟨o, e⟩, sg, R'.sub, fun b w e n => ?_⟩ hq⟩
    · by_cases z : b = a
      · simp [z] at nb
      · simp only [z, if_false]
    · by_cases z : b = a
      · subst z; exact .inr (.inl (by rw [ef]; intro z; cases z))
      · rw [upd_ne z, n] at e; cases e
  · rename_i hd
    obtain ⟨d, c, e, q⟩ := R.at_ i _ hd
    exact ⟨.ref d, e, k _ _ f ρ G H h (fun _ _ => rfl) R (.refl R.sub) ⟨c, d, rfl, q⟩⟩
  · exact h.elim
theorem abs_c {v : V} {d : D} (h : ∀ G, Dq G v d) : Abs (tC v) (pC d) := by
  intro E f sr ρ σ G H Q Qp R q k
  exact k v _ f ρ G H q (fun _ _ => rfl) R (.refl R.sub) (h G)
theorem q_v (i : Nat) {x : Str} {pos : Pos} (hN : X.N[i]? = some x := by rfl) (hv : Vis X.env.scope x := by first | exact Or.inl rfl | exact Or.inr (Or.inl rfl) | exact Or.inr (Or.inr rfl)) (hd : (x == ("__debug__" : Str)) = false := by decide)
    (hcd : (x == ("__classdict__" : Str)) = false := by decide) : QE X (.Name x pos) (pVar i) := ⟨_, pe_var hN hv hd hcd, abs_var i⟩
theorem q_f (i : Nat) {x : Str} {pos : Pos} (hN : X.N[i]? = some x := by rfl) (hv : Vis X.env.scope x := by first | exact Or.inl rfl | exact Or.inr (Or.inl rfl) | exact Or.inr (Or.inr rfl)) (hd : (x == ("__debug__" : Str)) = false := by decide)
    (hcd : (x == ("__classdict__" : Str)) = false := by decide) : QE X (.Name x pos) (pVarF i) := ⟨_, pe_var hN hv hd hcd, abs_varF i⟩
theorem q_int {i j pos} : QE X (.Constant (.int i) j pos) (pC (.int i)) := ⟨_, pe_int, abs_c fun _ => .int i⟩
theorem q_bl {i j pos} : QE X (.Constant (.bool i) j pos) (pC (.bool i)) := ⟨_, pe_bl, abs_c fun _ => .bl i⟩
theorem q_non {j pos} : QE X (.Constant .none j pos) (pC .none) := ⟨_, pe_non, abs_c fun _ => .non⟩
theorem q_str {x j pos} : QE X (.Constant (.str x) j pos) (pC (.str x)) := ⟨_, pe_str, abs_c fun _ => .str x⟩
end

/-! ### operations on values: what comes is told by g -/
/-- what an operation hands back -/
def ResOk (H G' H' : Hp) (v : V) : OP → Prop
  | .d d => Dq G' v d
  | .t d => ∃ a, v = .ref a ∧ H a = none ∧ G' a = none ∧ Own G' H' a d
  | _ => False
abbrev G1 := D → (OP → Prop) → Prop
abbrev G2 := D → D → (OP → Prop) → Prop
abbrev GN := List D → (OP → Prop) → Prop
inductive ShA (G H : Hp) : List V → List D → Prop
  | nil : ShA G H [] []
  | cons {v : V} {vs : List V} {d : D} {ds : List D} : Sh G H v d → ShA G H vs ds → ShA G H (v :: vs) (d :: ds)
def AbsG (k : Hp → VK → Prop) (G H : Hp) (g : (OP → Prop) → Prop) : Prop :=
  ∀ (Q : VK) (Qp : OP → Prop), g Qp → (∀ v z G' H', Qp z → Ext (fun _ => False) G H G' H' → ResOk H G' H' v z → Q v H') → k H Q
def OpG (X : Cx) (f : Value → Value → Sem Value) (g : G2) : Prop := ∃ r : R2, OpR X f r ∧ ∀ (G H : Hp) (x y : V) (dx dy : D), Sub G H → Sh G H x dx → Sh G H y dy → AbsG (r x y) G H (g dx dy)
def UnG (X : Cx) (f : Value → Sem Value) (g : G1) : Prop := ∃ r : V → Hp → VK → Prop, UnR X f r ∧ ∀ (G H : Hp) (x : V) (dx : D), Sub G H → Sh G H x dx → AbsG (r x) G H (g dx)
def CallG (X : Cx) (f : Value) (g : GN) : Prop := ∃ r : List V → Hp → VK → Prop, CallR X f r ∧ ∀ (G H : Hp) (xs : List V) (ds : List D), Sub G H → ShA G H xs ds → AbsG (r xs) G H (g ds)
def IxG (X : Cx) (g : G2) : Prop := ∃ r : R2, IxR X r ∧ ∀ (G H : Hp) (x y : V) (dx dy : D), Sub G H → Sh G H x dx → Sh G H y dy → AbsG (r x y) G H (g dx dy)
/-- a flat answer -/
theorem absG_flat {k : Hp → VK → Prop} {G H : Hp} {v : V} {d : D} (s : Sub G H) (hd : ∀ G, Dq G v d) (h : ∀ Q : VK, Q v H → k H Q) : AbsG k G H (fun Qp => Qp (.d d)) :=
  fun Q Qp q kk => h Q (kk v _ G H q (.refl s) (hd G))
section
variable {E : Ent} {f f1 f2 : Addr → Option Nat} {sr : Option (Addr × Addr)} {ρ ρ1 ρ2 : PSt} {σ : St} {G H Ga Ha G' H' : Hp} {v : V} {x : OP}
theorem ER.res (R : ER E f sr ρ σ Ga Ha) (e : Ext (fun _ => False) Ga Ha G' H') (h : ResOk Ha G' H' v x) (n : ∀ a, Ha a = none → H a = none) : OpOk H f sr σ G' H' v x := by
  cases x with
  | d d => exact h
  | o i => exact h.elim
  | s => exact h.elim
  | t d =>
    obtain ⟨a, e1, e2, e3, o⟩ := h
    refine ⟨a, e1, ?_, ?_, e3, n a e2, o⟩
    · cases q : f a with
      | none => rfl
      | some i => obtain ⟨_, _, u, hu⟩ := R.own a i q; rw [e2] at hu; cases hu
    · intro z
      cases hs : sr with
      | none => rw [hs] at z; exact z
      | some dc =>
        obtain ⟨d', c⟩ := dc
        obtain ⟨_, _, _, _, s5⟩ := R.src d' c hs
        obtain ⟨⟨o1, q1⟩, ⟨o2, q2⟩⟩ := s5.exd
        rw [hs] at z
        have z : a = d' ∨ a = c := z
        rcases z with z | z
        · rw [← z, e2] at q1; cases q1
        · rw [← z, e2] at q2; cases q2
end
def pOp (g : G2) (pa pb : PTE) : PTE := fun ρ Q => pa ρ fun x ρ1 => pb ρ1 fun y ρ2 => x.rd ρ2 fun dx => y.rd ρ2 fun dy => g dx dy fun z => Q z ρ2
def pUn (g : G1) (pa : PTE) : PTE := fun ρ Q => pa ρ fun x ρ1 => x.rd ρ1 fun dx => g dx fun z => Q z ρ1
section
variable {X : Cx} {a b : Expr} {pa pb : PTE} {pos : Pos}
theorem abs_op {r : R2} {g : G2} {ta tb : TE} (hr : ∀ (G H : Hp) (x y : V) (dx dy : D), Sub G H → Sh G H x dx → Sh G H y dy → AbsG (r x y) G H (g dx dy)) (ha : Abs ta pa) (hb : Abs tb pb) : Abs (tOp r ta tb) (pOp g pa pb) := by
  intro E f sr ρ σ G H Q Qp R h k
  refine ha E f sr ρ σ G H _ _ R h fun v x f1 ρ1 G1 H1 h1 le1 R1 e1 o1 => ?_
  refine hb E f1 sr ρ1 σ G1 H1 _ _ R1 h1 fun u y f2 ρ2 G2 H2 h2 le2 R2 e2 o2 => ?_
  obtain ⟨dx, sx, h2⟩ := (o1.keep le2 e2).rd R2 h2
  obtain ⟨dy, sy, h2⟩ := o2.rd R2 h2
  have e12 := e1.then le1 e2
  refine hr G2 H2 v u dx dy R2.sub sx sy Q _ h2 fun w z G3 H3 q e3 ro => ?_
  exact k w z f2 ρ2 G3 H3 q (fle.trans le1 le2) (R2.pure e3) (e12.trans e3 fun _ z => z.elim) (R2.res e3 ro fun a n => e12.none_of n)
theorem q_op {op : Operator} {g : G2} (ho : OpG X (binaryOp op) g) (ha : QE X a pa) (hb : QE X b pb) : QE X (.BinOp a op b pos) (pOp g pa pb) := by
  obtain ⟨r, h1, h2⟩ := ho
  obtain ⟨ta, a1, a2⟩ := ha
  obtain ⟨tb, b1, b2⟩ := hb
  exact ⟨_, pe_op h1 a1 b1, abs_op h2 a2 b2⟩
theorem q_cmp {op : CmpOp} {g : G2} (ho : OpG X (compareOp op) g) (ha : QE X a pa) (hb : QE X b pb) (hm : behindInMarks op b = false := by first | exact nomark _ | rfl) : QE X (.Compare a [op] [b] pos) (pOp g pa pb) := by
  obtain ⟨r, h1, h2⟩ := ho
  obtain ⟨ta, a1, a2⟩ := ha
  obtain ⟨tb, b1, b2⟩ := hb
  exact ⟨_, pe_cmpR h1 a1 b1 hm, abs_op h2 a2 b2⟩
theorem q_ix {g : G2} (ho : IxG X g) (ha : QE X a pa) (hb : QE X b pb) (hs : PlainIx b := by exact fun _ _ => rfl) : QE X (.Subscript a b pos) (pOp g pa pb) := by
  obtain ⟨r, h1, h2⟩ := ho
  obtain ⟨ta, a1, a2⟩ := ha
  obtain ⟨tb, b1, b2⟩ := hb
  exact ⟨_, pe_ix h1 a1 b1 hs, abs_op h2 a2 b2⟩
theorem q_un {op : UnaryOp} {g : G1} (ho : UnG X (unaryOp op) g) (ha : QE X a pa) : QE X (.UnaryOp op a pos) (pUn g pa) := by
  obtain ⟨r, h1, h2⟩ := ho
  obtain ⟨ta, a1, a2⟩ := ha
  refine ⟨_, pe_un h1 a1, ?_⟩
  intro E f sr ρ σ G H Q Qp R h k
  refine a2 E f sr ρ σ G H _ _ R h fun v x f1 ρ1 G1 H1 h1 le1 R1 e1 o1 => ?_
  obtain ⟨dx, sx, h1⟩ := o1.rd R1 h1
  refine h2 G1 H1 v dx R1.sub sx Q _ h1 fun w z G3 H3 q e3 ro => ?_
  exact k w z f1 ρ1 G3 H3 q le1 (R1.pure e3) (e1.trans e3 fun _ z => z.elim) (R1.res e3 ro fun a n => e1.none_of n)

/-! ### tests -/
/-- a value that is a bool, as a test -/
def pB (p : PTE) : PTT := fun ρ Q => p ρ fun x ρ1 => match x with
  | .d (.bool b) => Q b ρ1
  | _ => False
theorem abs_b {t : TE} {p : PTE} (h : Abs t p) : AbsT (tB t) (pB p) := by
  intro E f sr ρ σ G H Q Qp R hp k
  refine h E f sr ρ σ G H _ _ R hp fun v x f1 ρ1 G1 H1 h1 le1 R1 e1 o1 => ?_
  split at h1
  · rename_i b
    have o1 : Dq G1 v (.bool b) := o1
    cases o1
    exact ⟨b, rfl, k b f1 ρ1 G1 H1 h1 le1 R1 e1⟩
  · exact h1.elim
theorem qt_val {e : Expr} {p : PTE} (h : QE X e p) (he : ∀ whole, isTrue e X.env whole = (do let v ← whole; standAt e.pos; holding [v] (truthy v)) := by intro _; rfl) : QT X e (pB p) := by
  obtain ⟨t, h1, h2⟩ := h
  exact ⟨_, pt_val h1 he, abs_b h2⟩
theorem qt_cmp {op : CmpOp} {g : G2} (ho : OpG X (compareOp op) g) (ha : QE X a pa) (hb : QE X b pb) (hm : behindInMarks op b = false := by first | exact nomark _ | rfl) : QT X (.Compare a [op] [b] pos) (pB (pOp g pa pb)) := by
  obtain ⟨r, h1, h2⟩ := ho
  obtain ⟨ta, a1, a2⟩ := ha
  obtain ⟨tb, b1, b2⟩ := hb
  exact ⟨_, pt_cmpR h1 a1 b1 hm, abs_b (abs_op h2 a2 b2)⟩
def pNotT (p : PTT) : PTT := fun ρ Q => p ρ fun b ρ1 => Q (!b) ρ1
def pAndT (p q : PTT) : PTT := fun ρ Q => p ρ fun b ρ1 => if b = true then q ρ1 Q else Q false ρ1
def pOrT (p q : PTT) : PTT := fun ρ Q => p ρ fun b ρ1 => if b = true then Q true ρ1 else q ρ1 Q
end
end L3
set_option Elab.async false
set_option linter.all false
set_option maxRecDepth 100000
set_option maxHeartbeats 1000000
namespace L3
open PySem L2
section
variable {X : Cx} {a b c : Expr} {pa pb pc : PTE} {qa qb : PTT} {pos : Pos} {rest : List Expr}
/-! ### and, or, not, if -/
def QW (X : Cx) (e : Expr) (p : PTT) : Prop := ∃ t, PW X e t ∧ AbsT t p
theorem QW.qt {e : Expr} {p : PTT} (h : QW X e p) : QT X e p := let ⟨t, h1, h2⟩ := h; ⟨t, h1.pt, h2⟩
theorem qw_and1 (h : QT X a qa) : QW X (.BoolOp .And [a] pos) qa := let ⟨t, h1, h2⟩ := h; ⟨t, pw_and1 h1, h2⟩
theorem qw_or1 (h : QT X a qa) : QW X (.BoolOp .Or [a] pos) qa := let ⟨t, h1, h2⟩ := h; ⟨t, pw_or1 h1, h2⟩
theorem abs_andT {t u : TT} (ha : AbsT t qa) (hb : AbsT u qb) : AbsT (tAnd t u) (pAndT qa qb) := by
  intro E f sr ρ σ G H Q Qp R hp k
  refine ha E f sr ρ σ G H _ _ R hp fun c f1 ρ1 G1 H1 h1 le1 R1 e1 => ?_
  cases c with
  | false => simp only [Bool.false_eq_true, if_false] at h1 ⊢; exact k _ _ _ _ _ h1 le1 R1 e1
  | true =>
    simp only [if_true] at h1 ⊢
    exact hb E f1 sr ρ1 σ G1 H1 _ _ R1 h1 fun c f2 ρ2 G2 H2 h2 le2 R2 e2 => k _ _ _ _ _ h2 (fle.trans le1 le2) R2 (e1.then le1 e2)
theorem abs_orT {t u : TT} (ha : AbsT t qa) (hb : AbsT u qb) : AbsT (tOr t u) (pOrT qa qb) := by
  intro E f sr ρ σ G H Q Qp R hp k
  refine ha E f sr ρ σ G H _ _ R hp fun c f1 ρ1 G1 H1 h1 le1 R1 e1 => ?_
  cases c with
  | true => simp only [if_true] at h1 ⊢; exact k _ _ _ _ _ h1 le1 R1 e1
  | false =>
    simp only [Bool.false_eq_true, if_false] at h1 ⊢
    exact hb E f1 sr ρ1 σ G1 H1 _ _ R1 h1 fun c f2 ρ2 G2 H2 h2 le2 R2 e2 => k _ _ _ _ _ h2 (fle.trans le1 le2) R2 (e1.then le1 e2)
theorem qw_and (ha : QT X a qa) (hb : QW X (.BoolOp .And (b :: rest) pos) qb) : QW X (.BoolOp .And (a :: b :: rest) pos) (pAndT qa qb) := by
  obtain ⟨t, h1, h2⟩ := ha
  obtain ⟨u, g1, g2⟩ := hb
  exact ⟨_, pw_and h1 g1, abs_andT h2 g2⟩
theorem qw_or (ha : QT X a qa) (hb : QW X (.BoolOp .Or (b :: rest) pos) qb) : QW X (.BoolOp .Or (a :: b :: rest) pos) (pOrT qa qb) := by
  obtain ⟨t, h1, h2⟩ := ha
  obtain ⟨u, g1, g2⟩ := hb
  exact ⟨_, pw_or h1 g1, abs_orT h2 g2⟩
theorem qt_not (ha : QT X a qa) : QT X (.UnaryOp .Not a pos) (pNotT qa) := by
  obtain ⟨t, h1, h2⟩ := ha
  refine ⟨_, pt_not h1, ?_⟩
  intro E f sr ρ σ G H Q Qp R hp k
  exact h2 E f sr ρ σ G H _ _ R hp fun c f1 ρ1 G1 H1 h1 le1 R1 e1 => k _ _ _ _ _ h1 le1 R1 e1
/-- .. as values -/
def pAndV (pa pb : PTE) : PTE := fun ρ Q => pa ρ fun x ρ1 => match x with
  | .d (.bool true) => pb ρ1 Q
  | .d (.bool false) => Q (.d (.bool false)) ρ1
  | _ => False
def pOrV (pa pb : PTE) : PTE := fun ρ Q => pa ρ fun x ρ1 => match x with
  | .d (.bool false) => pb ρ1 Q
  | .d (.bool true) => Q (.d (.bool true)) ρ1
  | _ => False
def pNotV (pa : PTE) : PTE := fun ρ Q => pa ρ fun x ρ1 => match x with
  | .d (.bool b) => Q (.d (.bool !b)) ρ1
  | _ => False
theorem q_one {op} (h : QE X a pa) : QE X (.BoolOp op [a] pos) pa := let ⟨t, h1, h2⟩ := h; ⟨t, pe_one h1, h2⟩
theorem OpOk.back' {E : Ent} {H0 H H1 H2 G G1 G2 : Hp} {f f1 : Addr → Option Nat} {sr : Option (Addr × Addr)} {σ : St} {v : V} {x : OP} (h : OpOk H1 f sr σ G2 H2 v x) {S : Addr → Prop} (e : Ext S G H G1 H1) : OpOk H f sr σ G2 H2 v x :=
  h.back fun a n => e.none_of n
theorem q_and (ha : QE X a pa) (hb : QE X (.BoolOp .And (b :: rest) pos) pb) : QE X (.BoolOp .And (a :: b :: rest) pos) (pAndV pa pb) := by
  obtain ⟨t, h1, h2⟩ := ha
  obtain ⟨u, g1, g2⟩ := hb
  refine ⟨_, pe_and h1 g1, ?_⟩
  intro E f sr ρ σ G H Q Qp R hp k
  refine h2 E f sr ρ σ G H _ _ R hp fun v x f1 ρ1 G1 H1 h1 le1 R1 e1 o1 => ?_
  split at h1
  · cases (show Dq G1 v (.bool true) from o1)
    refine ⟨true, rfl, ?_⟩
    simp only [if_true]
    exact g2 E f1 sr ρ1 σ G1 H1 _ _ R1 h1 fun w y f2 ρ2 G2 H2 h2 le2 R2 e2 o2 => k _ _ _ _ _ _ h2 (fle.trans le1 le2) R2 (e1.then le1 e2) (o2.back fun a n => e1.none_of n)
  · cases (show Dq G1 v (.bool false) from o1)
    refine ⟨false, rfl, ?_⟩
    simp only [Bool.false_eq_true, if_false]
    exact k _ (.d (.bool false)) _ _ _ _ h1 le1 R1 e1 (.bl false)
  · exact h1.elim
theorem q_or (ha : QE X a pa) (hb : QE X (.BoolOp .Or (b :: rest) pos) pb) : QE X (.BoolOp .Or (a :: b :: rest) pos) (pOrV pa pb) := by
  obtain ⟨t, h1, h2⟩ := ha
  obtain ⟨u, g1, g2⟩ := hb
  refine ⟨_, pe_or h1 g1, ?_⟩
  intro E f sr ρ σ G H Q Qp R hp k
  refine h2 E f sr ρ σ G H _ _ R hp fun v x f1 ρ1 G1 H1 h1 le1 R1 e1 o1 => ?_
  split at h1
  · cases (show Dq G1 v (.bool false) from o1)
    refine ⟨false, rfl, ?_⟩
    simp only [Bool.false_eq_true, if_false]
    exact g2 E f1 sr ρ1 σ G1 H1 _ _ R1 h1 fun w y f2 ρ2 G2 H2 h2 le2 R2 e2 o2 => k _ _ _ _ _ _ h2 (fle.trans le1 le2) R2 (e1.then le1 e2) (o2.back fun a n => e1.none_of n)
  · cases (show Dq G1 v (.bool true) from o1)
    refine ⟨true, rfl, ?_⟩
    simp only [if_true]
    exact k _ (.d (.bool true)) _ _ _ _ h1 le1 R1 e1 (.bl true)
  · exact h1.elim
theorem q_not (ha : QE X a pa) : QE X (.UnaryOp .Not a pos) (pNotV pa) := by
  obtain ⟨t, h1, h2⟩ := ha
  refine ⟨_, pe_not h1, ?_⟩
  intro E f sr ρ σ G H Q Qp R hp k
  refine h2 E f sr ρ σ G H _ _ R hp fun v x f1 ρ1 G1 H1 h1 le1 R1 e1 o1 => ?_
  split at h1
  · rename_i b
    cases (show Dq G1 v (.bool b) from o1)
    exact ⟨b, rfl, k _ (.d (.bool !b)) _ _ _ _ h1 le1 R1 e1 (.bl _)⟩
  · exact h1.elim
def pIf (t : PTT) (pa pb : PTE) : PTE := fun ρ Q => t ρ fun c ρ1 => if c = true then pa ρ1 Q else pb ρ1 Q
theorem q_if (ht : QT X c qa) (ha : QE X a pa) (hb : QE X b pb) : QE X (.IfExp c a b pos) (pIf qa pa pb) := by
  obtain ⟨t, h1, h2⟩ := ht
  obtain ⟨u, g1, g2⟩ := ha
  obtain ⟨w, i1, i2⟩ := hb
  refine ⟨_, pe_ifExp h1 g1 i1, ?_⟩
  intro E f sr ρ σ G H Q Qp R hp k
  refine h2 E f sr ρ σ G H _ _ R hp fun c f1 ρ1 G1 H1 h1 le1 R1 e1 => ?_
  cases c with
  | true =>
    simp only [if_true] at h1 ⊢
    exact g2 E f1 sr ρ1 σ G1 H1 _ _ R1 h1 fun w y f2 ρ2 G2 H2 h2 le2 R2 e2 o2 => k _ _ _ _ _ _ h2 (fle.trans le1 le2) R2 (e1.then le1 e2) (o2.back fun a n => e1.none_of n)
  | false =>
    simp only [Bool.false_eq_true, if_false] at h1 ⊢
    exact i2 E f1 sr ρ1 σ G1 H1 _ _ R1 h1 fun w y f2 ρ2 G2 H2 h2 le2 R2 e2 o2 => k _ _ _ _ _ _ h2 (fle.trans le1 le2) R2 (e1.then le1 e2) (o2.back fun a n => e1.none_of n)
/-- a op b op' c -/
def pChain (g g' : G2) (pa pb pc : PTE) : PTE := fun ρ Q => pa ρ fun x ρ1 => pb ρ1 fun y ρ2 => x.rd ρ2 fun dx => y.rd ρ2 fun dy => g dx dy fun z => match z with
  | .d (.bool true) => pc ρ2 fun w ρ3 => y.rd ρ3 fun dy' => w.rd ρ3 fun dw => g' dy' dw fun z => Q z ρ3
  | .d (.bool false) => Q (.d (.bool false)) ρ2
  | _ => False
end

/-! ### arguments, displays -/
section
variable {X : Cx} {e : Expr} {es : List Expr} {p : PTE} {pr : PTA} {pos : Pos}
def pNil : PTA := fun ρ Q => Q [] ρ
def pCons (p : PTE) (pr : PTA) : PTA := fun ρ Q => p ρ fun x ρ1 => pr ρ1 fun xs ρ2 => Q (x :: xs) ρ2
theorem qa_nil : QA X [] pNil := ⟨_, pa_nil, fun E f sr ρ σ G H Q Qp R h k => k [] [] f ρ G H h (fun _ _ => rfl) R (.refl R.sub) .nil⟩
theorem tmps_new {H1 : Hp} {f : Addr → Option Nat} {sr : Option (Addr × Addr)} {σ : St} {G H : Hp} {vs : List V} {xs : List OP} (h : OpsOk H1 f sr σ G H vs xs) : ∀ a, a ∈ tmps vs xs → H1 a = none := by
  induction h with
  | nil => intro a h; simp [tmps] at h
  | @cons v vs x xs ho _ _ ih =>
    intro a h
    cases x with
    | t d =>
      obtain ⟨b, rfl, _, _, _, e5, _⟩ := ho
      simp only [tmps, List.mem_cons] at h
      rcases h with rfl | h
      · exact e5
      · exact ih a h
    | d d => cases v <;> exact ih a (by simpa [tmps] using h)
    | o i => cases v <;> exact ih a (by simpa [tmps] using h)
    | s => cases v <;> exact ih a (by simpa [tmps] using h)
theorem OpsOk.back {H0 H1 : Hp} {f : Addr → Option Nat} {sr : Option (Addr × Addr)} {σ : St} {G H : Hp} {vs : List V} {xs : List OP} (h : OpsOk H1 f sr σ G H vs xs) (n : ∀ a, H1 a = none → H0 a = none) : OpsOk H0 f sr σ G H vs xs := by
  induction h with
  | nil => exact .nil
  | cons ho hd _ ih => exact .cons (ho.back n) hd ih
theorem qa_cons (ha : QE X e p) (hr : QA X es pr) (hs : starEach (e :: es) X.env = (false, eval e X.env) :: starEach es X.env := by rfl) : QA X (e :: es) (pCons p pr) := by
  obtain ⟨t, h1, h2⟩ := ha
  obtain ⟨u, g1, g2⟩ := hr
  refine ⟨_, pa_cons h1 g1 hs, ?_⟩
  intro E f sr ρ σ G H Q Qp R hp k
  refine h2 E f sr ρ σ G H _ _ R hp fun v x f1 ρ1 G1 H1 h1 le1 R1 e1 o1 => ?_
  refine g2 E f1 sr ρ1 σ G1 H1 _ _ R1 h1 fun vs xs f2 ρ2 G2 H2 h2 le2 R2 e2 o2 => ?_
  refine k _ _ f2 ρ2 G2 H2 h2 (fle.trans le1 le2) R2 (e1.then le1 e2) (.cons (o1.keep le2 e2) (fun a d ev ex hm => ?_) (o2.back fun a n => e1.none_of n))
  subst ev ex
  obtain ⟨b, eb, _, _, _, _, o⟩ := o1
  cases eb
  obtain ⟨u, hu⟩ := o.ex
  have := tmps_new o2 a hm
  rw [hu] at this; cases this
/-- all of them clean -/
def clA : List OP → (List D → Prop) → Prop
  | [], Q => Q []
  | x :: xs, Q => x.cl fun d => clA xs fun ds => Q (d :: ds)
/-- all of them read -/
def rdA (ρ : PSt) : List OP → (List D → Prop) → Prop
  | [], Q => Q []
  | x :: xs, Q => x.rd ρ fun d => rdA ρ xs fun ds => Q (d :: ds)
section
variable {E : Ent} {f : Addr → Option Nat} {sr : Option (Addr × Addr)} {ρ : PSt} {σ : St} {G H G0 H0 : Hp}
theorem OpsOk.rd {vs : List V} {xs : List OP} (h : OpsOk H0 f sr σ G H vs xs) (R : ER E f sr ρ σ G H) : ∀ {Q : List D → Prop}, rdA ρ xs Q → ∃ ds, ShA G H vs ds ∧ Q ds := by
  induction h with
  | nil => intro Q q; exact ⟨[], .nil, q⟩
  | cons ho _ _ ih =>
    intro Q q
    obtain ⟨d, s, q⟩ := ho.rd R q
    obtain ⟨ds, ss, q⟩ := ih q
    exact ⟨_, .cons s ss, q⟩
theorem OpsOk.avoid {vs : List V} {xs : List OP} {a : Addr} {u : HO} (h : OpsOk H0 f sr σ G H vs xs) (h3 : Sub G (upd G a u)) : a ∉ tmps vs xs → OpsOk H0 f sr σ (upd G a u) H vs xs := by
  induction h with
  | nil => intro _; exact .nil
  | @cons v' vs' x' xs' ho' hd' hr' ih' =>
    intro nm
    have nm' : a ∉ tmps vs' xs' := fun z => nm (by cases v' <;> cases x' <;> simp [tmps, z])
    refine .cons ?_ hd' (ih' nm')
    cases x' with
    | d d => exact Dq.mono h3 ho'
    | o i => exact ho'
    | s => exact ho'
    | t d' =>
      obtain ⟨b, rfl, b2, b3, b4, b5, ob⟩ := ho'
      have nb : b ≠ a := fun z => nm (by rw [z]; simp [tmps])
      exact ⟨b, rfl, b2, b3, by rw [upd_ne nb]; exact b4, b5, ob.mono h3 fun _ q => q⟩
/-- a made-clean operand does not hurt the others -/
theorem OpsOk.clean {vs : List V} {xs : List OP} (h : OpsOk H0 f sr σ G H vs xs) (n : ∀ a, H0 a = none → E.H a = none) {S : Addr → Prop} : ∀ {Q : List D → Prop} {G : Hp}, OpsOk H0 f sr σ G H vs xs → ER E f sr ρ σ G H → Ext S G0 H0 G H → clA xs Q →
    ∃ ds G', Q ds ∧ DqA G' vs ds ∧ ER E f sr ρ σ G' H ∧ Ext S G0 H0 G' H ∧ Sub G G' := by
  induction h with
  | nil => intro Q G _ R ex q; exact ⟨[], G, q, .nil, R, ex, Sub.refl _⟩
  | @cons v vs x xs _ _ hh ih =>
    intro Q G hx R ex q
    cases hx with
    | cons ho hd hr =>
      cases x with
      | s => exact q.elim
      | o i => exact q.elim
      | d d =>
        obtain ⟨ds, G', q, hq, R', ex', sg⟩ := ih hr R ex q
        exact ⟨d :: ds, G', q, .cons (Dq.mono sg ho) hq, R', ex', sg⟩
      | t d =>
        obtain ⟨a, rfl, e2, e3, e4, e5, o⟩ := id ho
        obtain ⟨u, h1, h2, h3, h4⟩ := R.clean e2 e3 e4 (n a e5) o
        have ex2 : Ext S G0 H0 (upd G a u) H := ⟨ex.hk, ex.hd, ex.gk.trans h3, h2.sub, fun b w e nn => by
          by_cases q : b = a
          · subst q; exact .inl e5
          · rw [upd_ne q] at e; exact ex.gn b w e nn⟩
        have hr2 : OpsOk H0 f sr σ (upd G a u) H vs xs := hr.avoid h3 (hd a d rfl rfl)
        obtain ⟨ds, G', q, hq, R', ex', sg⟩ := ih hr2 h2 ex2 q
        exact ⟨d :: ds, G', q, .cons (h1.mono sg) hq, R', ex', h3.trans sg⟩
end
theorem none_sub {G H : Hp} {p : Addr} (s : Sub G H) (n : H p = none) : G p = none := by
  cases q : G p with
  | none => rfl
  | some u => have := s _ _ q; rw [n] at this; cases this
def pTup (pr : PTA) : PTE := fun ρ Q => pr ρ fun xs ρ1 => clA xs fun ds => ds.length ≤ sizeLine ∧ Q (.d (.tuple ds)) ρ1
def pLst (pr : PTA) : PTE := fun ρ Q => pr ρ fun xs ρ1 => clA xs fun ds => ds.length ≤ sizeLine ∧ Q (.t (.list ds)) ρ1
theorem q_tup {x1} (h : QA X es pr) : QE X (.Tuple es x1 pos) (pTup pr) := by
  obtain ⟨t, h1, h2⟩ := h
  refine ⟨_, pe_tup h1, ?_⟩
  intro E f sr ρ σ G H Q Qp R hp k
  refine h2 E f sr ρ σ G H _ _ R hp fun vs xs f1 ρ1 G1 H1 h1 le1 R1 e1 o1 => ?_
  obtain ⟨ds, G', q, hq, R', ex', sg⟩ := o1.clean (fun a n => R.noneE n) o1 R1 e1 h1
  refine ⟨by rw [hq.length]; exact q.1, fun p np => ?_⟩
  have en := Ext.new (S := fun _ => False) R'.sub np (.tup vs)
  exact k _ _ f1 ρ1 _ _ q.2 le1 (R'.pure en) (ex'.trans en fun _ z => z.elim) (show OpOk H f1 sr σ (upd G' p (.tup vs)) _ _ (.d (.tuple ds)) from .tup upd_same (hq.mono en.gk))
theorem q_lst (h : QA X es pr) : QE X (.List es pos) (pLst pr) := by
  obtain ⟨t, h1, h2⟩ := h
  refine ⟨_, pe_lst h1, ?_⟩
  intro E f sr ρ σ G H Q Qp R hp k
  refine h2 E f sr ρ σ G H _ _ R hp fun vs xs f1 ρ1 G1 H1 h1 le1 R1 e1 o1 => ?_
  obtain ⟨ds, G', q, hq, R', ex', sg⟩ := o1.clean (fun a n => R.noneE n) o1 R1 e1 h1
  refine ⟨by rw [hq.length]; exact q.1, fun p np => ?_⟩
  have en := Ext.newT (S := fun _ => False) R'.sub np (.lst vs)
  have rs : ResOk H1 G' (upd H1 p (.lst vs)) (.ref p) (.t (.list ds)) := ⟨p, rfl, np, none_sub R'.sub np, .lst upd_same hq⟩
  exact k _ _ f1 ρ1 _ _ q.2 le1 (R'.pure en) (ex'.trans en fun _ z => z.elim) (R'.res en rs fun a n => e1.none_of n)
/-! ### built-in functions -/
def pCB (g : GN) (pr : PTA) : PTE := fun ρ Q => pr ρ fun xs ρ1 => rdA ρ1 xs fun ds => g ds fun z => Q z ρ1
theorem abs_cb {r : List V → Hp → VK → Prop} {g : GN} {t : TA} (hr : ∀ (G H : Hp) (xs : List V) (ds : List D), Sub G H → ShA G H xs ds → AbsG (r xs) G H (g ds)) (ha : AbsA t pr) : Abs (tCB r t) (pCB g pr) := by
  intro E f sr ρ σ G H Q Qp R hp k
  refine ha E f sr ρ σ G H _ _ R hp fun vs xs f1 ρ1 G1 H1 h1 le1 R1 e1 o1 => ?_
  obtain ⟨ds, ss, h1⟩ := o1.rd R1 h1
  exact hr G1 H1 vs ds R1.sub ss Q _ h1 fun w z G3 H3 q e3 ro => k w z f1 ρ1 G3 H3 q le1 (R1.pure e3) (e1.trans e3 fun _ z => z.elim) (R1.res e3 ro fun a n => e1.none_of n)
variable {x : Str} {pp : Pos} {id T : String} {g : GN}
theorem q_cb (hc : CallG X (.builtin id) g) (hg : Gl X x) (hm : X.mg x = none) (hv : bootBuiltins x = some (.builtin id)) (ha : QA X (e :: es) pr) (hn : x ≠ "__name__" := by decide) (hdb : (x == ("__debug__" : Str)) = false := by decide)
    (he : starEach (e :: es) X.env = (false, eval e X.env) :: starEach es X.env := by rfl) (hpl : (backTo pos (starEach es X.env)).any (·.1) = false := by rfl) : QE X (.Call (.Name x pp) (e :: es) [] pos) (pCB g pr) := by
  obtain ⟨r, h1, h2⟩ := hc
  obtain ⟨t, a1, a2⟩ := ha
  exact ⟨_, pe_callB h1 hg hm hv a1 hn hdb he hpl, abs_cb h2 a2⟩
theorem q_ct (hc : CallG X (.type T) g) (hg : Gl X x) (hm : X.mg x = none) (hv : bootBuiltins x = some (.type T)) (ha : QA X (e :: es) pr) (hn : x ≠ "__name__" := by decide) (hdb : (x == ("__debug__" : Str)) = false := by decide)
    (he : starEach (e :: es) X.env = (false, eval e X.env) :: starEach es X.env := by rfl) (hpl : (backTo pos (starEach es X.env)).any (·.1) = false := by rfl) : QE X (.Call (.Name x pp) (e :: es) [] pos) (pCB g pr) := by
  obtain ⟨r, h1, h2⟩ := hc
  obtain ⟨t, a1, a2⟩ := ha
  exact ⟨_, pe_callTy h1 hg hm hv a1 hn hdb he hpl, abs_cb h2 a2⟩
end
end L3
set_option Elab.async false
set_option linter.all false
set_option maxRecDepth 100000
set_option maxHeartbeats 1000000
namespace L3
open PySem L2

/-! ### targets -/
def OP.st (x : OP) (Q : SV → Prop) : Prop := match x with
  | .d z => Q (.val z)
  | .t z => Q (.own z)
  | .s => Q .src
  | .o _ => False
/-- an operand that is to be stored -/
def OpS (H1 : Hp) (f : Addr → Option Nat) (sr : Option (Addr × Addr)) (G H : Hp) (v : V) : OP → Prop
  | .d d => Dq G v d
  | .t d => ∃ a, v = .ref a ∧ f a = none ∧ ¬ InSr sr a ∧ G a = none ∧ H1 a = none ∧ Own G H a d
  | .o _ => True
  | .s => ∃ c, ∃ d, v = .ref d ∧ sr = some (d, c)
theorem OpOk.ops {H1 : Hp} {f : Addr → Option Nat} {sr : Option (Addr × Addr)} {σ : St} {G H : Hp} {v : V} {x : OP} (h : OpOk H1 f sr σ G H v x) : OpS H1 f sr G H v x := by
  cases x with
  | d d => exact h
  | t d => exact h
  | o i => trivial
  | s => exact h
structure Chg (f : Addr → Option Nat) (sr : Option (Addr × Addr)) (G H : Hp) (f' : Addr → Option Nat) (G' H' : Hp) (ex : Addr → Prop) : Prop where
  g : Sub G G'
  t : ∀ b o, ¬ ex b → f b = none → ¬ InSr sr b → G b = none → H b = some o → f' b = none ∧ G' b = none ∧ H' b = some o
  l : ∀ b, ¬ ex b → f' b ≠ none → f' b = f b
  x : Ext (fun a => Spc f sr a ∨ ex a) G H G' H'
theorem Chg.d {f : Addr → Option Nat} {sr : Option (Addr × Addr)} {G H : Hp} {f' : Addr → Option Nat} {G' H' : Hp} {ex : Addr → Prop} (c : Chg f sr G H f' G' H' ex) : ∀ a, H' a = none → H a = none := fun a h => c.x.none_of h
def Tex (v : V) (x : OP) (b : Addr) : Prop := v = .ref b ∧ ∃ d, x = .t d
section
variable {E : Ent} {f f' f1 : Addr → Option Nat} {sr : Option (Addr × Addr)} {ρ : PSt} {σ : St} {G H H0 G' H' : Hp} {v : V} {x : OP}
theorem OpS.chg {ex : Addr → Prop} (h : OpS H0 f sr G H v x) (c : Chg f sr G H f' G' H' ex) (n : ∀ a d, v = .ref a → x = .t d → ¬ ex a) : OpS H0 f' sr G' H' v x := by
  cases x with
  | d d => exact Dq.mono c.g h
  | o i => trivial
  | s => exact h
  | t d =>
    obtain ⟨a, e1, e2, e3, e4, e5, o⟩ := h
    obtain ⟨u, hu⟩ := o.ex
    obtain ⟨q1, q2, q3⟩ := c.t a u (n a d e1 rfl) e2 e3 e4 hu
    exact ⟨a, e1, q1, e3, q2, e5, o.mono c.g fun o q => by rw [hu] at q; cases q; exact q3⟩
theorem ER.set (R : ER E f sr ρ σ G H) (i : Nat) (o : OpS H0 f sr G H v x) (n : ∀ a, H0 a = none → E.H a = none) {Q : SV → Prop} (q : x.st Q) :
    ∃ s f', Q s ∧ ER E f' sr (ρ.set i s) (σ.set i (some v)) G H ∧ Chg f sr G H f' G H (Tex v x) := by
  have slots : ∀ (s : SV) (f' : Addr → Option Nat), SlotOk f' sr G H i (some (some v)) s → (∀ a j, f a = some j → j ≠ i → f' a = some j) → ∀ j s', (ρ.set i s)[j]? = some s' → SlotOk f' sr G H j (σ.set i (some v))[j]? s' := by
    intro s f' hs hf j s' e
    by_cases hj : j = i
    · subst hj
      obtain ⟨hl, _⟩ := List.getElem?_eq_some_iff.mp e
      rw [List.length_set] at hl
      rw [List.getElem?_set_self hl] at e
      cases e
      rw [List.getElem?_set_self (by rw [R.len]; exact hl)]
      exact hs
    · rw [List.getElem?_set_ne (Ne.symm hj)] at e
      rw [List.getElem?_set_ne (Ne.symm hj)]
      have z := R.at_ j s' e
      cases s' with
      | no => trivial
      | val d => exact z
      | src => exact z
      | own d =>
        obtain ⟨a, a1, a2, a3⟩ := z
        exact ⟨a, a1, hf a j a2 hj, a3⟩
  have same : ∀ s, SlotOk f sr G H i (some (some v)) s → ER E f sr (ρ.set i s) (σ.set i (some v)) G H := fun s hs =>
    ⟨R.ext, R.own, R.src, R.srE, by rw [List.length_set, List.length_set]; exact R.len, slots s f hs fun _ _ e _ => e⟩
  cases x with
  | o i => exact q.elim
  | d d => exact ⟨_, f, q, same _ ⟨v, rfl, o⟩, ⟨Sub.refl _, fun b w _ h1 _ h2 h3 => ⟨h1, h2, h3⟩, fun _ _ _ => rfl, .refl R.sub⟩⟩
  | s =>
    obtain ⟨c, d, e1, e2⟩ := o
    exact ⟨_, f, q, same _ ⟨d, c, by rw [e1], e2⟩, ⟨Sub.refl _, fun b w _ h1 _ h2 h3 => ⟨h1, h2, h3⟩, fun _ _ _ => rfl, .refl R.sub⟩⟩
  | t d =>
    obtain ⟨a, rfl, e2, e3, e4, e5, ow⟩ := o
    refine ⟨_, fun b => if b = a then some i else f b, q, ⟨R.ext, fun b j e => ?_, fun d' c e => ?_, R.srE, by rw [List.length_set, List.length_set]; exact R.len, slots _ _ ⟨a, rfl, by simp, ow⟩ fun b j e _ => ?_⟩, ⟨Sub.refl _, fun b w nx h1 _ h2 h3 => ⟨?_, h2, h3⟩, fun b nx _ => ?_, .refl R.sub⟩⟩
    · by_cases z : b = a
      · subst z; exact ⟨e4, n _ e5, ow.ex⟩
      · simp only [z, if_false] at e; exact R.own b j e
    · obtain ⟨h1, h2, h3, h4, h5⟩ := R.src d' c e
      have n1 : d' ≠ a := fun z => e3 (by rw [e, ← z]; exact .inl rfl)
      have n2 : c ≠ a := fun z => e3 (by rw [e, ← z]; exact .inr rfl)
      exact ⟨h1, h2, by simp only [n1, if_false]; exact h3, by simp only [n2, if_false]; exact h4, h5⟩
    · have z : b ≠ a := fun z => by rw [z, e2] at e; cases e
      simp only [z, if_false]; exact e
    · have z : b ≠ a := fun z => nx ⟨by rw [z], d, rfl⟩
      simp only [z, if_false]; exact h1
    · have z : b ≠ a := fun z => nx ⟨by rw [z], d, rfl⟩
      simp only [z, if_false]
end
abbrev PTG := OP → PSt → (PSt → Prop) → Prop
abbrev PTGs := List OP → PSt → (PSt → Prop) → Prop
def AbsTo (g : TG) (pg : PTG) : Prop := ∀ (E : Ent) f sr ρ σ G H H0 v x (Q : St → Hp → Prop) (Qp : PSt → Prop), ER E f sr ρ σ G H → OpS H0 f sr G H v x → (∀ a, H0 a = none → E.H a = none) → (∀ a, H a = none → H0 a = none) → pg x ρ Qp →
  (∀ f' ρ' σ' G' H', Qp ρ' → ER E f' sr ρ' σ' G' H' → Chg f sr G H f' G' H' (Tex v x) → Q σ' H') → g v σ H Q
inductive OpsS (H1 : Hp) (f : Addr → Option Nat) (sr : Option (Addr × Addr)) (G H : Hp) : List V → List OP → Prop
  | nil : OpsS H1 f sr G H [] []
  | cons {v : V} {vs : List V} {x : OP} {xs : List OP} : OpS H1 f sr G H v x → (∀ a d, v = .ref a → x = .t d → a ∉ tmps vs xs) → OpsS H1 f sr G H vs xs → OpsS H1 f sr G H (v :: vs) (x :: xs)
theorem OpsOk.ops {H1 : Hp} {f : Addr → Option Nat} {sr : Option (Addr × Addr)} {σ : St} {G H : Hp} {vs : List V} {xs : List OP} (h : OpsOk H1 f sr σ G H vs xs) : OpsS H1 f sr G H vs xs := by
  induction h with
  | nil => exact .nil
  | cons ho hd _ ih => exact .cons ho.ops hd ih
theorem OpsS.chg {H0 G H G' H' : Hp} {f f' : Addr → Option Nat} {sr : Option (Addr × Addr)} {vs : List V} {xs : List OP} {ex : Addr → Prop} (h : OpsS H0 f sr G H vs xs) (c : Chg f sr G H f' G' H' ex) : (∀ a ∈ tmps vs xs, ¬ ex a) → OpsS H0 f' sr G' H' vs xs := by
  induction h with
  | nil => intro _; exact .nil
  | @cons v vs x xs ho hd _ ih =>
    intro n
    refine .cons (ho.chg c fun a d e1 e2 => n a ?_) hd (ih fun a h => n a ?_)
    · subst e1 e2; simp [tmps]
    · cases v <;> cases x <;> simp [tmps, h]
def AbsTos (g : TGs) (pg : PTGs) : Prop := ∀ (E : Ent) f sr ρ σ G H H0 vs xs (Q : St → Hp → Prop) (Qp : PSt → Prop), ER E f sr ρ σ G H → OpsS H0 f sr G H vs xs → (∀ a, H0 a = none → E.H a = none) → (∀ a, H a = none → H0 a = none) → pg xs ρ Qp →
  (∀ f' ρ' σ' G' H', Qp ρ' → ER E f' sr ρ' σ' G' H' → Chg f sr G H f' G' H' (fun a => a ∈ tmps vs xs) → Q σ' H') → g vs σ H Q
theorem Chg.trans {f f1 f2 : Addr → Option Nat} {sr : Option (Addr × Addr)} {G H G1 H1 G2 H2 : Hp} {e1 e2 e : Addr → Prop} (a : Chg f sr G H f1 G1 H1 e1) (b : Chg f1 sr G1 H1 f2 G2 H2 e2) (h1 : ∀ a, e1 a → e a) (h2 : ∀ a, e2 a → e a) : Chg f sr G H f2 G2 H2 e where
  g := a.g.trans b.g
  t := fun c o n q1 q2 q3 q4 => let ⟨z1, z2, z3⟩ := a.t c o (fun z => n (h1 c z)) q1 q2 q3 q4; b.t c o (fun z => n (h2 c z)) z1 q2 z2 z3
  l := fun c n q => by
    have e1 := b.l c (fun z => n (h2 c z)) q
    rw [e1]
    exact a.l c (fun z => n (h1 c z)) (by rw [← e1]; exact q)
  x := by
    have y : Ext (fun c => Spc f sr c ∨ e c) G H G1 H1 := ⟨fun c o q n => a.x.hk c o q fun z => n (z.imp id (h1 c)), a.x.hd, a.x.gk, a.x.gh, fun c o q n => (a.x.gn c o q n).imp id fun z => z.imp id (h1 c)⟩
    refine y.trans b.x fun c z => .inl ?_
    rcases z with (z | z) | z
    · by_cases n : e1 c
      · exact .inr (h1 c n)
      · exact .inl (.inl fun q => z (by
          cases w : f1 c with
          | none => rfl
          | some i => have := a.l c n (by rw [w]; intro z; cases z); rw [w, q] at this; cases this))
    · exact .inl (.inr z)
    · exact .inr (h2 c z)
theorem Chg.mono {f f1 : Addr → Option Nat} {sr : Option (Addr × Addr)} {G H G1 H1 : Hp} {e1 e : Addr → Prop} (a : Chg f sr G H f1 G1 H1 e1) (h1 : ∀ a, e1 a → e a) : Chg f sr G H f1 G1 H1 e :=
  ⟨a.g, fun c o n => a.t c o fun z => n (h1 c z), fun c n => a.l c fun z => n (h1 c z), ⟨fun c o q n => a.x.hk c o q fun z => n (z.imp id (h1 c)), a.x.hd, a.x.gk, a.x.gh, fun c o q n => (a.x.gn c o q n).imp id fun z => z.imp id (h1 c)⟩⟩
theorem Chg.refl {f : Addr → Option Nat} {sr : Option (Addr × Addr)} {G H : Hp} {e : Addr → Prop} (s : Sub G H) : Chg f sr G H f G H e := ⟨Sub.refl _, fun _ _ _ h1 _ h2 h3 => ⟨h1, h2, h3⟩, fun _ _ _ => rfl, .refl s⟩
theorem tmps_d {vs : List V} {ds : List D} : tmps vs (ds.map OP.d) = [] := by
  induction vs generalizing ds with
  | nil => cases ds <;> simp [tmps]
  | cons v vs ih => cases ds <;> cases v <;> simp [tmps, ih]
theorem opsS_d {H0 G H : Hp} {f : Addr → Option Nat} {sr : Option (Addr × Addr)} : ∀ {xs : List V} {ds : List D}, DqA G xs ds → OpsS H0 f sr G H xs (ds.map OP.d)
  | _, _, .nil => .nil
  | _, _, .cons h t => .cons h (fun _ _ _ e => by cases e) (opsS_d t)
def pgN (i : Nat) : PTG := fun x ρ Q => x.st fun s => Q (ρ.set i s)
def pgNil : PTGs := fun xs ρ Q => match xs with
  | [] => Q ρ
  | _ => False
def pgCons (t : PTG) (ts : PTGs) : PTGs := fun xs ρ Q => match xs with
  | x :: r => t x ρ fun ρ1 => ts r ρ1 Q
  | _ => False
def pgT (n : Nat) (ts : PTGs) : PTG := fun x ρ Q => x.cl fun d => match d with
  | .tuple ds => ds.length = n ∧ ts (ds.map OP.d) ρ Q
  | _ => False
theorem absTo_name (i : Nat) : AbsTo (gName i) (pgN i) := by
  intro E f sr ρ σ G H H0 v x Q Qp R o n1 n2 h k
  obtain ⟨s, f', q, R', c⟩ := R.set i o n1 h
  exact k f' _ _ G H q R' c
theorem absTos_nil : AbsTos gNil pgNil := by
  intro E f sr ρ σ G H H0 vs xs Q Qp R o n1 n2 h k
  cases o with
  | nil => exact ⟨rfl, k f ρ σ G H h R (.refl R.sub)⟩
  | cons _ _ _ => exact h.elim
theorem absTos_cons {g : TG} {gs : TGs} {t : PTG} {ts : PTGs} (h1 : AbsTo g t) (h2 : AbsTos gs ts) : AbsTos (gCons g gs) (pgCons t ts) := by
  intro E f sr ρ σ G H H0 vs xs Q Qp R o n1 n2 h k
  cases o with
  | nil => exact h.elim
  | @cons v vs x xs ho hd hr =>
    refine ⟨v, vs, rfl, h1 E f sr ρ σ G H H0 v x _ _ R ho n1 n2 h fun f1 ρ1 σ1 G1 H1 q R1 c => ?_⟩
    refine h2 E f1 sr ρ1 σ1 G1 H1 H0 vs xs Q Qp R1 (hr.chg c fun a ha z => ?_) n1 (fun a q => n2 a (c.d a q)) q fun f2 ρ2 σ2 G2 H2 q R2 d => k f2 ρ2 σ2 G2 H2 q R2 (c.trans d (fun a z => ?_) fun a z => ?_)
    · obtain ⟨e1, d, e2⟩ := z
      exact hd a d e1 e2 ha
    · obtain ⟨e1, d, e2⟩ := z
      subst e1 e2
      simp [tmps]
    · cases v <;> cases x <;> simp [tmps, z]
theorem absTo_tup {K : PySem.W.Frag} {n : Nat} {gs : TGs} {ts : PTGs} (h : AbsTos gs ts) : AbsTo (gTup K n gs) (pgT n ts) := by
  intro E f sr ρ σ G H H0 v x Q Qp R o n1 n2 hp k
  cases x with
  | o i => exact hp.elim
  | s => exact hp.elim
  | t d =>
    obtain ⟨a, e1, e2, e3, e4, e5, ow⟩ := o
    unfold pgT OP.cl at hp
    simp only at hp
    split at hp
    · cases ow
    · exact hp.elim
  | d d =>
    unfold pgT OP.cl at hp
    simp only at hp
    split at hp
    · rename_i ds
      have o : Dq G v (.tuple ds) := o
      cases o with
      | @tup a xs _ ha hq =>
        refine ⟨a, xs, rfl, SqT.of (R.sub _ _ ha), by rw [hq.length]; exact hp.1, ?_⟩
        refine h E f sr ρ σ G H H0 _ _ _ _ R (opsS_d hq) n1 n2 hp.2 fun f2 ρ2 σ2 G2 H2 q R2 d => k f2 ρ2 σ2 G2 H2 q R2 (d.mono fun a z => ?_)
        rw [tmps_d] at z
        cases z
    · exact hp.elim
end L3
set_option Elab.async false
set_option linter.all false
set_option maxRecDepth 100000
set_option maxHeartbeats 1000000
namespace L3
open PySem L2
section
variable {E : Ent} {f f' f1 : Addr → Option Nat} {sr : Option (Addr × Addr)} {ρ : PSt} {σ : St} {G H H0 G' H' : Hp} {v : V} {x : OP} {Dp : PEnds} {Ds : Ends}
theorem EndsOk.mono (k : EndsOk E G Dp Ds) (s : Sub G G') : EndsOk E G' Dp Ds :=
  ⟨fun f sr ρ σ G2 H h R g => k.nx f sr ρ σ G2 H h R (s.trans g), k.rt, fun f sr ρ σ G2 H h R g => k.bk f sr ρ σ G2 H h R (s.trans g), fun f sr ρ σ G2 H h R g => k.ct f sr ρ σ G2 H h R (s.trans g), k.rf⟩
theorem EndsOk.ret (k : EndsOk E G Dp Ds) {d : D} (R : ER E f sr ρ σ G' H) (h : Dp.rt d) (hv : Dq G' v d) : Ds.rt v H := by
  refine k.rt v d G' H h R.ext (fun d c e => ?_) hv
  have : sr = E.sr := by
    rcases R.srE with z | z
    · exact z
    · rw [z.1] at e; cases e
  obtain ⟨h1, h2, _, _, h5⟩ := R.src d c (this.trans e)
  exact ⟨h1, h2, h5⟩
end
section
variable {X : Cx} {st : Stmt} {rest : List Stmt} {e : Expr} {p : PTE} {q qr : PTS} {pos : Pos}
def pNext : PTS := fun D ρ => D.nx ρ
def pSeq (t u : PTS) : PTS := fun D ρ => t { D with nx := u D } ρ
theorem abs_seq {t u : TS} (h1 : AbsS t q) (h2 : AbsS u qr) : AbsS (tSeq t u) (pSeq q qr) := by
  intro E f sr ρ σ G H Ds Dp R hp k
  exact h1 E f sr ρ σ G H _ _ R hp ⟨fun f1 sr1 ρ1 σ1 G1 H1 h R1 g => h2 E f1 sr1 ρ1 σ1 G1 H1 Ds Dp R1 h (k.mono g), k.rt, k.bk, k.ct, k.rf⟩
theorem qss_nil : QSs X [] pNext := ⟨_, pss_nil, fun E f sr ρ σ G H Ds Dp R hp k => k.nx f sr ρ σ G H hp R (Sub.refl _)⟩
theorem qss_cons (h1 : QS X st q) (h2 : QSs X rest qr) : QSs X (st :: rest) (pSeq q qr) := by
  obtain ⟨t, a1, a2⟩ := h1
  obtain ⟨u, b1, b2⟩ := h2
  exact ⟨_, pss_cons a1 b1, abs_seq a2 b2⟩
theorem qss_one (h1 : QS X st q) : QSs X [st] q := let ⟨t, a1, a2⟩ := h1; ⟨t, pss_one a1, a2⟩
def pBreak : PTS := fun D ρ => D.bk ρ
def pCont : PTS := fun D ρ => D.ct ρ
theorem qs_pass : QS X (.Pass pos) pNext := ⟨_, ps_pass, fun E f sr ρ σ G H Ds Dp R hp k => k.nx f sr ρ σ G H hp R (Sub.refl _)⟩
theorem qs_break : QS X (.Break pos) pBreak := ⟨_, ps_break, fun E f sr ρ σ G H Ds Dp R hp k => k.bk f sr ρ σ G H hp R (Sub.refl _)⟩
theorem qs_continue : QS X (.Continue pos) pCont := ⟨_, ps_continue, fun E f sr ρ σ G H Ds Dp R hp k => k.ct f sr ρ σ G H hp R (Sub.refl _)⟩
def pDrop (p : PTE) : PTS := fun D ρ => p ρ fun _ ρ1 => D.nx ρ1
theorem qs_expr (h : QE X e p) (hs : swapsWith e none pos.line X.env = pure false := by rfl) : QS X (.Expr e pos) (pDrop p) := by
  obtain ⟨t, h1, h2⟩ := h
  refine ⟨_, ps_expr h1 hs, ?_⟩
  intro E f sr ρ σ G H Ds Dp R hp k
  exact h2 E f sr ρ σ G H _ _ R hp fun v x f1 ρ1 G1 H1 h le R1 e1 o1 => k.nx f1 sr ρ1 σ G1 H1 h R1 e1.gk
def pRet (p : PTE) : PTS := fun D ρ => p ρ fun x _ => x.cl D.rt
theorem qs_ret (h : QE X e p) : QS X (.Return (some e) pos) (pRet p) := by
  obtain ⟨t, h1, h2⟩ := h
  refine ⟨_, ps_ret h1, ?_⟩
  intro E f sr ρ σ G H Ds Dp R hp k
  refine h2 E f sr ρ σ G H _ _ R hp fun v x f1 ρ1 G1 H1 h le R1 e1 o1 => ?_
  obtain ⟨d, G', q, hd, R', _, _⟩ := o1.cl R1 (fun a n => R.noneE n) e1 h
  exact k.ret R' q hd
def pRetN : PTS := fun D _ => D.rt .none
theorem qs_retN : QS X (.Return none pos) pRetN := ⟨_, ps_retN, fun E f sr ρ σ G H Ds Dp R hp k => k.ret R hp .non⟩
/-- a new list -/
def OP.fr (ρ : PSt) (x : OP) (Q : D → Prop) : Prop := match x with
  | .t z => Q z
  | .o i => (match ρ[i]? with
    | some (.own z) => Q z
    | _ => False)
  | _ => False
def pRetF (p : PTE) : PTS := fun D ρ => p ρ fun x ρ1 => x.fr ρ1 D.rf
theorem qs_retF (h : QE X e p) : QS X (.Return (some e) pos) (pRetF p) := by
  obtain ⟨t, h1, h2⟩ := h
  refine ⟨_, ps_ret h1, ?_⟩
  intro E f sr ρ σ G H Ds Dp R hp k
  refine h2 E f sr ρ σ G H _ _ R hp fun v x f1 ρ1 G1 H1 h le R1 e1 o1 => ?_
  have srok : ∀ d c, E.sr = some (d, c) → G1 d = none ∧ G1 c = none ∧ SrcAt H1 d c := fun d c e => by
    have : sr = E.sr := by
      rcases R1.srE with z | z
      · exact z
      · rw [z.1] at e; cases e
    obtain ⟨q1, q2, _, _, q5⟩ := R1.src d c (this.trans e)
    exact ⟨q1, q2, q5⟩
  have nin : ∀ a, ¬ InSr sr a → ¬ InSr E.sr a := fun a n z => by
    rcases R1.srE with e | e
    · rw [← e] at z; exact n z
    · rw [e.1] at z; exact z
  cases x with
  | d d => exact h.elim
  | s => exact h.elim
  | t d =>
    obtain ⟨a, rfl, e2, e3, e4, e5, o⟩ := id o1
    exact k.rf _ d G1 H1 h R1.ext srok ⟨a, rfl, e4, R.noneE e5, nin a e3, o⟩
  | o i =>
    obtain ⟨a, rfl, ea⟩ := id o1
    unfold OP.fr at h
    simp only at h
    split at h
    · rename_i d hd
      obtain ⟨b, eb, fb, ob⟩ := R1.at_ i _ hd
      rw [ea] at eb
      cases eb
      obtain ⟨q1, q2, q3⟩ := R1.own _ _ fb
      refine k.rf _ d G1 H1 h R1.ext srok ⟨_, rfl, q1, q2, nin _ fun z => ?_, ob⟩
      cases hs : sr with
      | none => rw [hs] at z; exact z
      | some dc =>
        obtain ⟨d', c'⟩ := dc
        obtain ⟨_, _, p1, p2, _⟩ := R1.src d' c' hs
        rw [hs] at z
        have z : _ ∨ _ := z
        rcases z with z | z
        · rw [z, p1] at fb; cases fb
        · rw [z, p2] at fb; cases fb
    · exact h.elim
def pIfS (c : PTT) (t u : PTS) : PTS := fun D ρ => c ρ fun b ρ1 => if b = true then t D ρ1 else u D ρ1
theorem qs_if {c : Expr} {a b : List Stmt} {qc : PTT} (hc : QT X c qc) (ha : QSs X a q) (hb : QSs X b qr) : QS X (.If c a b pos) (pIfS qc q qr) := by
  obtain ⟨t, h1, h2⟩ := hc
  obtain ⟨u, g1, g2⟩ := ha
  obtain ⟨w, i1, i2⟩ := hb
  refine ⟨_, ps_if h1 g1 i1, ?_⟩
  intro E f sr ρ σ G H Ds Dp R hp k
  refine h2 E f sr ρ σ G H _ _ R hp fun c f1 ρ1 G1 H1 h1 le1 R1 e1 => ?_
  cases c with
  | true => simp only [if_true] at h1 ⊢; exact g2 E f1 sr ρ1 σ G1 H1 _ _ R1 h1 (k.mono e1.gk)
  | false => simp only [Bool.false_eq_true, if_false] at h1 ⊢; exact i2 E f1 sr ρ1 σ G1 H1 _ _ R1 h1 (k.mono e1.gk)
/-- x = e -/
def pSet (i : Nat) (p : PTE) : PTS := fun D ρ => p ρ fun x ρ1 => x.st fun s => D.nx (ρ1.set i s)
def pAsg (p : PTE) (t : PTG) : PTS := fun D ρ => p ρ fun x ρ1 => t x ρ1 D.nx
theorem abs_asg {t : TE} {g : TG} {pg : PTG} (h : Abs t p) (hg : AbsTo g pg) : AbsS (tAsg t g) (pAsg p pg) := by
  intro E f sr ρ σ G H Ds Dp R hp k
  refine h E f sr ρ σ G H _ _ R hp fun v x f1 ρ1 G1 H1 h le R1 e1 o1 => ?_
  exact hg E f1 sr ρ1 σ G1 H1 H v x _ _ R1 o1.ops (fun a n => R.noneE n) (fun a n => e1.none_of n) h fun f2 ρ2 σ2 G2 H2 q R2 c => k.nx f2 sr ρ2 σ2 G2 H2 q R2 (e1.gk.trans c.g)
theorem qs_set (i : Nat) {x : Str} {pos' : Pos} (hN : X.N.Nodup) (he : QE X e p) (hi : X.N[i]? = some x := by rfl) (hx : Loc X.env.scope x := by first | exact Or.inl rfl | exact Or.inr rfl) (hs : swapsWith e (some (.Name x pos')) pos.line X.env = pure false := by rfl) (hf : X.fn x = true ∨ X.env.scope.names.lookup x = some .local := by first | exact .inl rfl | exact .inr rfl | assumption) :
    QS X (.Assign [.Name x pos'] e pos) (pSet i p) := by
  obtain ⟨t, h1, h2⟩ := he
  exact ⟨_, ps_set hN hi hx h1 hs hf, abs_asg h2 (absTo_name i)⟩
def QG (X : Cx) (tg : Expr) (t : PTG) : Prop := ∃ g, PG X tg g ∧ AbsTo g t
def QGs (X : Cx) (tg : List Expr) (t : PTGs) : Prop := ∃ g, PGs X tg g ∧ AbsTos g t
theorem qg_name (i : Nat) {x : Str} (hN : X.N.Nodup) (hi : X.N[i]? = some x := by rfl) (hx : Loc X.env.scope x := by first | exact Or.inl rfl | exact Or.inr rfl) (hf : X.fn x = true ∨ X.env.scope.names.lookup x = some .local := by first | exact .inl rfl | exact .inr rfl | assumption) : QG X (.Name x pos) (pgN i) :=
  ⟨_, pg_name hN hi hx hf, absTo_name i⟩
theorem qgs_nil : QGs X [] pgNil := ⟨_, pgs_nil, absTos_nil⟩
theorem qgs_cons {tg : Expr} {tgs : List Expr} {t : PTG} {ts : PTGs} (h1 : QG X tg t) (h2 : QGs X tgs ts) (hs : (assignEach (tg :: tgs) X.env).map (·.2) = assign tg X.env :: (assignEach tgs X.env).map (·.2) := by rfl) : QGs X (tg :: tgs) (pgCons t ts) := by
  obtain ⟨g, a1, a2⟩ := h1
  obtain ⟨gs, b1, b2⟩ := h2
  exact ⟨_, pgs_cons a1 b1 hs, absTos_cons a2 b2⟩
theorem qg_tup {es : List Expr} {k n : Nat} {ts : PTGs} (hc : X.calm = true) (h : QGs X es ts) (hn : (assignEach es X.env).length = n := by rfl) (hst : (assignEach es X.env).findIdx? (·.1) = none := by rfl) : QG X (.Tuple es k pos) (pgT n ts) := by
  obtain ⟨gs, a1, a2⟩ := h
  exact ⟨_, pg_tup hc a1 hn hst, absTo_tup a2⟩
/-- targets = e, by any target -/
theorem qs_asg {tg : Expr} {t : PTG} (he : QE X e p) (hg : QG X tg t) (hs : swapsWithSole [tg] e pos.line X.env = pure false := by rfl) (hw : swappedStores [tg] e X.env = pure none := by rfl)
    (h1 : (assignEach [tg] X.env).map (·.2) = [assign tg X.env] := by rfl) : QS X (.Assign [tg] e pos) (pAsg p t) := by
  obtain ⟨u, a1, a2⟩ := he
  obtain ⟨g, b1, b2⟩ := hg
  exact ⟨_, ps_asg a1 b1 hs hw h1, abs_asg a2 b2⟩
/-- a, b = x, y by a tuple: its parts need not be clean -/
def pAsgT (n : Nat) (pr : PTA) (ts : PTGs) : PTS := fun D ρ => pr ρ fun xs ρ1 => xs.length ≤ sizeLine ∧ xs.length = n ∧ ts xs ρ1 D.nx
theorem OpsOk.len {H1 G H : Hp} {f : Addr → Option Nat} {sr : Option (Addr × Addr)} {σ : St} {vs : List V} {xs : List OP} (h : OpsOk H1 f sr σ G H vs xs) : vs.length = xs.length := by
  induction h with
  | nil => rfl
  | cons _ _ _ ih => rw [List.length_cons, List.length_cons, ih]
theorem OpOk.ext {H1 G H G' H' : Hp} {f : Addr → Option Nat} {sr : Option (Addr × Addr)} {σ : St} {v : V} {x : OP} (h : OpOk H1 f sr σ G H v x) (e : Ext (fun _ => False) G H G' H') : OpOk H1 f sr σ G' H' v x :=
  h.keep (fun _ _ => rfl) e.pure
theorem OpsOk.ext {H1 G H G' H' : Hp} {f : Addr → Option Nat} {sr : Option (Addr × Addr)} {σ : St} {vs : List V} {xs : List OP} (h : OpsOk H1 f sr σ G H vs xs) (e : Ext (fun _ => False) G H G' H') : OpsOk H1 f sr σ G' H' vs xs := by
  induction h with
  | nil => exact .nil
  | cons ho hd _ ih => exact .cons (ho.ext e) hd ih
theorem qs_asgT {tg es : List Expr} {k k1 n : Nat} {pr : PTA} {ts : PTGs} {tpos epos : Pos} (hc : X.calm = true) (he : QA X es pr) (hg : QGs X tg ts) (hs : swapsWithSole [.Tuple tg k tpos] (.Tuple es k1 epos) pos.line X.env = pure false := by rfl) (hw : swappedStores [.Tuple tg k tpos] (.Tuple es k1 epos) X.env = pure none := by rfl)
    (h1 : (assignEach [.Tuple tg k tpos] X.env).map (·.2) = [assign (.Tuple tg k tpos) X.env] := by rfl) (hn : (assignEach tg X.env).length = n := by rfl) (hst : (assignEach tg X.env).findIdx? (·.1) = none := by rfl) : QS X (.Assign [.Tuple tg k tpos] (.Tuple es k1 epos) pos) (pAsgT n pr ts) := by
  obtain ⟨u, a1, a2⟩ := he
  obtain ⟨g, b1, b2⟩ := hg
  refine ⟨_, ps_asg (pe_tup a1) (pg_tup hc b1 hn hst) hs hw h1, ?_⟩
  intro E f sr ρ σ G H Ds Dp R hp k
  refine a2 E f sr ρ σ G H _ _ R hp fun vs xs f1 ρ1 G1 H1 h le R1 e1 o1 => ?_
  obtain ⟨hz, hn', h⟩ := h
  refine ⟨by rw [o1.len]; exact hz, fun p np => ?_⟩
  have en := Ext.newT (S := fun _ => False) R1.sub np (.tup vs)
  have R2 := R1.pure en
  refine ⟨p, vs, rfl, SqT.of upd_same, by rw [o1.len]; exact hn', ?_⟩
  refine b2 E f1 sr ρ1 σ G1 _ H vs xs _ _ R2 (o1.ext en).ops (fun a n => R.noneE n) (fun a n => e1.none_of (en.none_of n)) h fun f2 ρ2 σ2 G2 H2 q R2 c => k.nx f2 sr ρ2 σ2 G2 H2 q R2 (e1.gk.trans c.g)
/-- a, b = x, y by two stores -/
theorem abs_par {i j : Nat} {t : TA} {pr : PTA} (ha : AbsA t pr) : AbsS (tPar i j t) (pAsgT 2 pr (pgCons (pgN i) (pgCons (pgN j) pgNil))) := by
  intro E f sr ρ σ G H Ds Dp R hp k
  refine ha E f sr ρ σ G H _ _ R hp fun vs xs f1 ρ1 G1 H1 h le R1 e1 o1 => ?_
  obtain ⟨_, hn, h⟩ := h
  cases o1 with
  | nil => simp at hn
  | @cons v vs x xs ho hd hr =>
    cases hr with
    | nil => simp at hn
    | @cons w vs y xs ho' hd' hr' =>
      cases hr' with
      | cons _ _ _ => simp at hn
      | nil =>
        refine ⟨v, w, rfl, ?_⟩
        have := (absTos_cons (absTo_name i) (absTos_cons (absTo_name j) absTos_nil)) E f1 sr ρ1 σ G1 H1 H [v, w] [x, y] (fun σ H => Ds.nx σ H) _ R1 (OpsOk.cons ho hd (.cons ho' hd' .nil)).ops (fun a n => R.noneE n) (fun a n => e1.none_of n) h fun f2 ρ2 σ2 G2 H2 q R2 c => k.nx f2 sr ρ2 σ2 G2 H2 q R2 (e1.gk.trans c.g)
        obtain ⟨v', r, e, this⟩ := this
        cases e
        obtain ⟨v', r, e, this⟩ := this
        cases e
        exact this.2
theorem qs_par (i j : Nat) {x y : Str} {a b : Expr} {pr : PTA} {px py pt : Pos} {kt k2 pt2} (hc : X.calm = true) (hN : X.N.Nodup) (ha : QA X [a, b] pr) (hi : X.N[i]? = some x := by rfl) (hj : X.N[j]? = some y := by rfl) (hij : i ≠ j := by decide)
    (hx : X.env.scope.names.lookup x = some .local := by rfl) (hy : X.env.scope.names.lookup y = some .local := by rfl)
    (hw : swappedStores [.Tuple [.Name x px, .Name y py] kt pt] (.Tuple [a, b] k2 pt2) X.env = pure (some [x, y]) := by rfl)
    (hs : swapsWithSole [.Tuple [.Name x px, .Name y py] kt pt] (.Tuple [a, b] k2 pt2) pos.line X.env = pure false := by rfl) :
    QS X (.Assign [.Tuple [.Name x px, .Name y py] kt pt] (.Tuple [a, b] k2 pt2) pos) (pAsgT 2 pr (pgCons (pgN i) (pgCons (pgN j) pgNil))) := by
  obtain ⟨t, h1, h2⟩ := ha
  exact ⟨_, ps_par hc hN hi hj hij hx hy h1 hw hs, abs_par h2⟩
theorem len3 {α : Type} {xs : List α} (h : xs.length = 3) : ∃ x y z, xs = [x, y, z] := by
  match xs, h with
  | [x, y, z], _ => exact ⟨x, y, z, rfl⟩
theorem abs_par3 {i j l : Nat} {t : TA} {pr : PTA} (ha : AbsA t pr) : AbsS (tPar3 i j l t) (pAsgT 3 pr (pgCons (pgN i) (pgCons (pgN j) (pgCons (pgN l) pgNil)))) := by
  intro E f sr ρ σ G H Ds Dp R hp k
  refine ha E f sr ρ σ G H _ _ R hp fun vs xs f1 ρ1 G1 H1 h le R1 e1 o1 => ?_
  obtain ⟨_, hn, h⟩ := h
  have hl := o1.len
  obtain ⟨x, y, z, rfl⟩ := len3 hn
  obtain ⟨u, v, w, rfl⟩ := len3 (hl.trans hn)
  refine ⟨u, v, w, rfl, ?_⟩
  have := (absTos_cons (absTo_name i) (absTos_cons (absTo_name j) (absTos_cons (absTo_name l) absTos_nil))) E f1 sr ρ1 σ G1 H1 H _ _ (fun σ H => Ds.nx σ H) _ R1 o1.ops (fun a n => R.noneE n) (fun a n => e1.none_of n) h fun f2 ρ2 σ2 G2 H2 q R2 c => k.nx f2 sr ρ2 σ2 G2 H2 q R2 (e1.gk.trans c.g)
  obtain ⟨v', r, e, this⟩ := this
  cases e
  obtain ⟨v', r, e, this⟩ := this
  cases e
  obtain ⟨v', r, e, this⟩ := this
  cases e
  exact this.2
theorem qs_par3 (i j l : Nat) {x y z : Str} {a b c : Expr} {pr : PTA} {px py pz pt : Pos} {kt k2 pt2} (hc : X.calm = true) (hN : X.N.Nodup) (ha : QA X [a, b, c] pr) (hi : X.N[i]? = some x := by rfl) (hj : X.N[j]? = some y := by rfl) (hl : X.N[l]? = some z := by rfl) (hij : i ≠ j := by decide) (hil : i ≠ l := by decide) (hjl : j ≠ l := by decide)
    (hx : X.env.scope.names.lookup x = some .local := by rfl) (hy : X.env.scope.names.lookup y = some .local := by rfl) (hz : X.env.scope.names.lookup z = some .local := by rfl)
    (hw : swappedStores [.Tuple [.Name x px, .Name y py, .Name z pz] kt pt] (.Tuple [a, b, c] k2 pt2) X.env = pure (some [x, y, z]) := by rfl)
    (hs : swapsWithSole [.Tuple [.Name x px, .Name y py, .Name z pz] kt pt] (.Tuple [a, b, c] k2 pt2) pos.line X.env = pure false := by rfl) :
    QS X (.Assign [.Tuple [.Name x px, .Name y py, .Name z pz] kt pt] (.Tuple [a, b, c] k2 pt2) pos) (pAsgT 3 pr (pgCons (pgN i) (pgCons (pgN j) (pgCons (pgN l) pgNil)))) := by
  obtain ⟨t, h1, h2⟩ := ha
  exact ⟨_, ps_par3 hc hN hi hj hl hij hil hjl hx hy hz h1 hw hs, abs_par3 h2⟩
/-! ### while -/
def pWhile (c : PTT) (tb : PTS) : PTS := fun D ρ => ∃ W : Nat → PSt → Prop, (∃ m, W m ρ) ∧ ∀ m ρ, W m ρ → c ρ fun b ρ1 => if b = true then
  tb { D with nx := fun ρ' => ∃ m', m' < m ∧ W m' ρ', ct := fun ρ' => ∃ m', m' < m ∧ W m' ρ', bk := D.nx } ρ1 else D.nx ρ1
theorem qs_while {c : Expr} {body : List Stmt} {qc : PTT} (hp : PassesOwn (model X.prog X.w) X.A X.env X.xe) (hc : QT X c qc) (hb : QSs X body q) : QS X (.While c body [] pos) (pWhile qc q) := by
  obtain ⟨t, h1, h2⟩ := hc
  obtain ⟨u, g1, g2⟩ := hb
  refine ⟨_, ps_while hp h1 g1, ?_⟩
  intro E f sr ρ σ G H Ds Dp R ⟨W, ⟨m0, w0⟩, turn⟩ k
  refine ⟨fun m σ' H' => ∃ f' sr' ρ' G', ER E f' sr' ρ' σ' G' H' ∧ Sub G G' ∧ W m ρ', ⟨m0, f, sr, ρ, G, R, Sub.refl _, w0⟩, ?_⟩
  rintro m σ1 H1 ⟨f1, sr1, ρ1, G1, R1, s1, w1⟩
  refine h2 E f1 sr1 ρ1 σ1 G1 H1 _ _ R1 (turn m ρ1 w1) fun b f2 ρ2 G2 H2 q2 le2 R2 e2 => ?_
  cases b with
  | false => simp only [Bool.false_eq_true, if_false] at q2 ⊢; exact k.nx f2 sr1 ρ2 σ1 G2 H2 q2 R2 (s1.trans e2.gk)
  | true =>
    simp only [if_true] at q2 ⊢
    refine ⟨fun σ' H' => ∃ m', m' < m ∧ ∃ f' sr' ρ' G', ER E f' sr' ρ' σ' G' H' ∧ Sub G G' ∧ W m' ρ', fun σ' H' z => z, ?_⟩
    have again : ∀ f sr ρ σ G' H, (∃ m', m' < m ∧ W m' ρ) → ER E f sr ρ σ G' H → Sub G2 G' → ∃ m', m' < m ∧ ∃ f' sr' ρ' G', ER E f' sr' ρ' σ G' H ∧ Sub G G' ∧ W m' ρ' :=
      fun f sr ρ σ G' H ⟨m', hm, w⟩ R s => ⟨m', hm, f, sr, ρ, G', R, (s1.trans e2.gk).trans s, w⟩
    exact g2 E f2 sr1 ρ2 σ1 G2 H2 _ _ R2 q2 ⟨again, k.rt, fun f sr ρ σ G' H h R s => k.nx f sr ρ σ G' H h R ((s1.trans e2.gk).trans s), again, k.rf⟩
/-! ### for -/
abbrev PTI := PSt → (List D → PSt → Prop) → Prop
def ItOk (J : It) (ds : List D) (G0 : Hp) : Prop := ∀ G H, Sub G0 G → Sub G H → (∀ (i : Nat) d, ds[i]? = some d → J.go i H ∧ ∀ x H', J.yld i H x H' → ∃ G', Ext (fun _ => False) G H G' H' ∧ Dq G' x d) ∧ J.stop ds.length H
def AbsI (w : TI) (p : PTI) : Prop := ∀ (E : Ent) f sr ρ σ G H (R : It → Hp → Prop) (Rp : List D → PSt → Prop), ER E f sr ρ σ G H → p ρ Rp →
  (∀ J ds f' ρ' G' H', Rp ds ρ' → (∀ a, f' a ≠ none → f' a = f a) → ER E f' sr ρ' σ G' H' → Ext (Spc f sr) G H G' H' → ItOk J ds G' → R J H') → w σ H R
def QI (X : Cx) (tg iter : Expr) (p : PTI) : Prop := ∃ w, PI X tg iter w ∧ AbsI w p
def pFor (it : PTI) (t : PTG) (tb : PTS) : PTS := fun D ρ => it ρ fun ds ρ1 => ∃ I : Nat → PSt → Prop, I 0 ρ1 ∧
  (∀ (i : Nat) d ρ2, ds[i]? = some d → I i ρ2 → t (.d d) ρ2 fun ρ3 => tb { D with nx := I (i + 1), ct := I (i + 1), bk := D.nx } ρ3) ∧ ∀ ρ2, I ds.length ρ2 → D.nx ρ2
theorem qs_for {tg iter : Expr} {body : List Stmt} {it : PTI} {t : PTG} (hp : PassesOwn (model X.prog X.w) X.A X.env X.xe) (hc : X.calm = true) (hi : QI X tg iter it) (hg : QG X tg t) (hb : QSs X body q)
    (hs : ∀ x, foldedSetIterable iter X.env x = pure x := by intro _; rfl) : QS X (.For tg iter body [] pos) (pFor it t q) := by
  obtain ⟨w, w1, w2⟩ := hi
  obtain ⟨g, g1, g2⟩ := hg
  obtain ⟨u, u1, u2⟩ := hb
  refine ⟨_, ps_for hp hc w1 g1 u1 hs, ?_⟩
  intro E f sr ρ σ G H Ds Dp R hq k
  refine w2 E f sr ρ σ G H _ _ R hq fun J ds f1 ρ1 G1 H1 h le1 R1 e1 ok => ?_
  obtain ⟨I, i0, turn, done⟩ := h
  refine ⟨fun i m σ' H' => m = ds.length - i ∧ i ≤ ds.length ∧ ∃ f' sr' ρ' G', ER E f' sr' ρ' σ' G' H' ∧ Sub G1 G' ∧ I i ρ', ⟨ds.length, by simp, Nat.zero_le _, f1, sr, ρ1, G1, R1, Sub.refl _, i0⟩, ?_⟩
  rintro i m σ2 H2 ⟨rfl, hi, f2, sr2, ρ2, G2, R2, s2, i2⟩
  obtain ⟨o1, o2⟩ := ok G2 H2 s2 R2.sub
  by_cases hlt : i < ds.length
  · obtain ⟨go, yl⟩ := o1 i ds[i] (List.getElem?_eq_getElem hlt)
    refine .inr ⟨go, fun σ' H' => ∃ f' sr' ρ' G', ER E f' sr' ρ' σ' G' H' ∧ Sub G1 G' ∧ I (i + 1) ρ', fun σ' H' z => ⟨ds.length - (i + 1), by omega, rfl, hlt, z⟩, fun x H3 y => ?_⟩
    obtain ⟨G3, e3, hx⟩ := yl x H3 y
    refine g2 E f2 sr2 ρ2 σ2 G3 H3 H3 x (.d ds[i]) _ _ (R2.pure e3) hx (fun a n => (R2.pure e3).noneE n) (fun _ n => n) (turn i _ ρ2 (List.getElem?_eq_getElem hlt) i2) fun f4 ρ4 σ4 G4 H4 q4 R4 c4 => ?_
    have again : ∀ f sr ρ σ G' H, I (i + 1) ρ → ER E f sr ρ σ G' H → Sub G4 G' → ∃ f' sr' ρ' G', ER E f' sr' ρ' σ G' H ∧ Sub G1 G' ∧ I (i + 1) ρ' :=
      fun f sr ρ σ G' H w R s => ⟨f, sr, ρ, G', R, ((s2.trans e3.gk).trans c4.g).trans s, w⟩
    exact u2 E f4 sr2 ρ4 σ4 G4 H4 _ _ R4 q4 ⟨again, k.rt, fun f sr ρ σ G' H h R s => k.nx f sr ρ σ G' H h R ((((e1.gk.trans s2).trans e3.gk).trans c4.g).trans s), again, k.rf⟩
  · have e : i = ds.length := by omega
    subst e
    exact .inl ⟨o2, k.nx f2 sr2 ρ2 σ2 G2 H2 (done ρ2 i2) R2 (e1.gk.trans s2)⟩
end
end L3
set_option Elab.async false
set_option linter.all false
set_option maxRecDepth 100000
set_option maxHeartbeats 1000000
namespace L3
open PySem L2
/-! ### the canonical reading -/
def TEof (p : PTE) : TE := fun σ H Q => ∃ (E : Ent) (f : Addr → Option Nat) (sr : Option (Addr × Addr)) (ρ : PSt) (G : Hp) (Qp : OP → PSt → Prop), ER E f sr ρ σ G H ∧ p ρ Qp ∧
  ∀ v x f' ρ' G' H', Qp x ρ' → (∀ a, f' a ≠ none → f' a = f a) → ER E f' sr ρ' σ G' H' → Ext (Spc f sr) G H G' H' → OpOk H f' sr σ G' H' v x → Q v H'
theorem abs_of (p : PTE) : Abs (TEof p) p := fun E f sr ρ σ G H Q Qp R h k => ⟨E, f, sr, ρ, G, Qp, R, h, k⟩
theorem QE.un {X : Cx} {e : Expr} {p : PTE} (h : QE X e p) : PE X e (TEof p) := by
  obtain ⟨t, h1, h2⟩ := h
  refine ⟨fun pins s σ H Q I q => ?_⟩
  obtain ⟨E, f, sr, ρ, G, Qp, R, hp, k⟩ := q
  exact h1.run pins s σ H Q I (h2 E f sr ρ σ G H Q Qp R hp k)
def TTof (p : PTT) : TT := fun σ H Q => ∃ (E : Ent) (f : Addr → Option Nat) (sr : Option (Addr × Addr)) (ρ : PSt) (G : Hp) (Qp : Bool → PSt → Prop), ER E f sr ρ σ G H ∧ p ρ Qp ∧
  ∀ b f' ρ' G' H', Qp b ρ' → (∀ a, f' a ≠ none → f' a = f a) → ER E f' sr ρ' σ G' H' → Ext (Spc f sr) G H G' H' → Q b H'
theorem absT_of (p : PTT) : AbsT (TTof p) p := fun E f sr ρ σ G H Q Qp R h k => ⟨E, f, sr, ρ, G, Qp, R, h, k⟩
def QTs (X : Cx) (ifs : List Expr) (p : PTT) : Prop := ∃ t, PTs X ifs t ∧ AbsT t p
def pYes : PTT := fun ρ Q => Q true ρ
theorem qts_nil {X : Cx} : QTs X [] pYes := ⟨_, pts_nil, fun E f sr ρ σ G H Q Qp R h k => k true f ρ G H h (fun _ _ => rfl) R (.refl R.sub)⟩
theorem qts_one {X : Cx} {c : Expr} {p : PTT} (h : QT X c p) : QTs X [c] p := let ⟨t, h1, h2⟩ := h; ⟨t, pts_one h1, h2⟩
theorem QTs.un {X : Cx} {e : List Expr} {p : PTT} (h : QTs X e p) : PTs X e (TTof p) := by
  obtain ⟨t, h1, h2⟩ := h
  refine ⟨fun pins s σ H Q I q => ?_⟩
  obtain ⟨E, f, sr, ρ, G, Qp, R, hp, k⟩ := q
  exact h1.run pins s σ H Q I (h2 E f sr ρ σ G H Q Qp R hp k)
/-- the target stores into the slots vs alone -/
def GIn (vs : List Nat) (g : TG) : Prop := ∀ v σ H Q, g v σ H Q → g v σ H fun σ' H' => wipe σ' vs = wipe σ vs ∧ Q σ' H'
def GsIn (vs : List Nat) (g : TGs) : Prop := ∀ v σ H Q, g v σ H Q → g v σ H fun σ' H' => wipe σ' vs = wipe σ vs ∧ Q σ' H'
theorem wipe_set {σ : St} {i : Nat} {x : Option V} : ∀ {vs : List Nat}, i ∈ vs → wipe (σ.set i x) vs = wipe σ vs
  | [], h => by simp at h
  | v :: vs, h => by
    unfold wipe
    by_cases e : i = v
    · subst e
      by_cases hm : i ∈ vs
      · rw [wipe_set hm]
      · have : ∀ vs : List Nat, i ∉ vs → wipe (σ.set i x) vs = (wipe σ vs).set i x := by
          intro vs
          induction vs with
          | nil => intro _; rfl
          | cons w ws ih =>
            intro hn
            simp only [List.mem_cons, not_or] at hn
            unfold wipe
            rw [ih hn.2, List.set_comm _ _ hn.1]
        rw [this vs hm, List.set_set]
    · simp only [List.mem_cons] at h
      rw [wipe_set (h.resolve_left e)]
theorem wipe_in {σ : St} {i : Nat} : ∀ {vs : List Nat}, i ∈ vs → (wipe σ vs)[i]? = if i < σ.length then some none else none
  | [], h => by simp at h
  | v :: vs, h => by
    unfold wipe
    by_cases e : v = i
    · subst e
      by_cases hl : v < σ.length
      · rw [List.getElem?_set_self (by rw [wipe_length]; exact hl), if_pos hl]
      · rw [if_neg hl]
        exact List.getElem?_eq_none (by rw [List.length_set, wipe_length]; omega)
    · rw [List.getElem?_set_ne e]
      simp only [List.mem_cons] at h
      exact wipe_in (h.resolve_left (Ne.symm e))
theorem wipe_wipe (σ : St) (vs : List Nat) : wipe (wipe σ vs) vs = wipe σ vs := by
  apply List.ext_getElem?
  intro i
  by_cases h : i ∈ vs
  · rw [wipe_in h, wipe_in h, wipe_length]
  · rw [wipe_out h]
theorem gin_name {vs : List Nat} {i : Nat} (h : i ∈ vs) : GIn vs (gName i) := fun v σ H Q q => ⟨wipe_set h, q⟩
theorem gsin_nil {vs : List Nat} : GsIn vs gNil := fun v σ H Q q => ⟨q.1, rfl, q.2⟩
/-- monotony of a target's reading -/
def GMono (g : TG) : Prop := ∀ v σ H Q Q', (∀ σ' H', Q σ' H' → Q' σ' H') → g v σ H Q → g v σ H Q'
def GsMono (g : TGs) : Prop := ∀ v σ H Q Q', (∀ σ' H', Q σ' H' → Q' σ' H') → g v σ H Q → g v σ H Q'
theorem gm_name {i : Nat} : GMono (gName i) := fun v σ H Q Q' h q => h _ _ q
theorem gsm_nil : GsMono gNil := fun v σ H Q Q' h q => ⟨q.1, h _ _ q.2⟩
theorem gsm_cons {g : TG} {gs : TGs} (h1 : GMono g) (h2 : GsMono gs) : GsMono (gCons g gs) := fun v σ H Q Q' h ⟨x, r, e, q⟩ => ⟨x, r, e, h1 _ _ _ _ _ (fun σ' H' => h2 _ _ _ _ _ h) q⟩
theorem gm_tup {K : PySem.W.Frag} {n : Nat} {gs : TGs} (h2 : GsMono gs) : GMono (gTup K n gs) := fun v σ H Q Q' h ⟨a, xs, e1, e2, e3, q⟩ => ⟨a, xs, e1, e2, e3, h2 _ _ _ _ _ h q⟩
theorem gsin_cons {vs : List Nat} {g : TG} {gs : TGs} (m1 : GMono g) (m2 : GsMono gs) (h1 : GIn vs g) (h2 : GsIn vs gs) : GsIn vs (gCons g gs) := fun v σ H Q ⟨x, r, e, q⟩ =>
  ⟨x, r, e, m1 _ _ _ _ _ (fun σ1 H1 ⟨w, q⟩ => m2 _ _ _ _ _ (fun σ2 H2 ⟨w2, q⟩ => ⟨w2.trans w, q⟩) (h2 _ _ _ _ q)) (h1 _ _ _ _ q)⟩
theorem gin_tup {K : PySem.W.Frag} {vs : List Nat} {n : Nat} {gs : TGs} (h : GsIn vs gs) : GIn vs (gTup K n gs) := fun v σ H Q ⟨a, xs, e1, e2, e3, q⟩ => ⟨a, xs, e1, e2, e3, h _ _ _ _ q⟩
/-- a comprehension's target: names, tuples of names -/
structure QGc (X : Cx) (scope : Scope) (vs : List Nat) (tg : Expr) (t : PTG) : Prop where
  ex : ∃ g, (∀ (s : Shared) (H : Hp) (C : Addr) (cl : List (Str × Addr)) (fp : List Addr), PG (X.blk s H scope (compEnvC scope cl C X.env) fp) tg g) ∧ AbsTo g t ∧ GIn vs g ∧ GMono g
structure QGsc (X : Cx) (scope : Scope) (vs : List Nat) (tg : List Expr) (t : PTGs) : Prop where
  ex : ∃ g, (∀ (s : Shared) (H : Hp) (C : Addr) (cl : List (Str × Addr)) (fp : List Addr), PGs (X.blk s H scope (compEnvC scope cl C X.env) fp) tg g) ∧ AbsTos g t ∧ GsIn vs g ∧ GsMono g
section
variable {X : Cx} {scope : Scope} {vs : List Nat} {pos : Pos}
theorem qgc_name (i : Nat) {x : Str} (hN : X.N.Nodup) (hv : i ∈ vs := by decide) (hi : X.N[i]? = some x := by rfl) (hx : ∀ cl C, Loc (compEnvC scope cl C X.env).scope x := by first | exact fun _ _ => Or.inl rfl | exact fun _ _ => Or.inr rfl)
    (hf : (scope.names.lookup x == some .cell) = true ∨ ∀ cl C, (compEnvC scope cl C X.env).scope.names.lookup x = some .local := by first | exact .inl rfl | exact .inr fun _ _ => rfl) : QGc X scope vs (.Name x pos) (pgN i) :=
  ⟨_, fun s H C cl fp => pg_name (X := X.blk s H scope (compEnvC scope cl C X.env) fp) hN hi (hx cl C) (hf.elim .inl fun h => .inr (h cl C)), absTo_name i, gin_name hv, gm_name⟩
theorem qgsc_nil : QGsc X scope vs [] pgNil := ⟨_, fun _ _ _ _ _ => pgs_nil, absTos_nil, gsin_nil, gsm_nil⟩
theorem qgsc_cons {tg : Expr} {tgs : List Expr} {t : PTG} {ts : PTGs} (h1 : QGc X scope vs tg t) (h2 : QGsc X scope vs tgs ts)
    (hs : ∀ cl C, (assignEach (tg :: tgs) (compEnvC scope cl C X.env)).map (·.2) = assign tg (compEnvC scope cl C X.env) :: (assignEach tgs (compEnvC scope cl C X.env)).map (·.2) := by intro _ _; rfl) : QGsc X scope vs (tg :: tgs) (pgCons t ts) := by
  obtain ⟨g, a1, a2, a3, a4⟩ := h1
  obtain ⟨gs, b1, b2, b3, b4⟩ := h2
  exact ⟨_, fun s H C cl fp => pgs_cons (a1 s H C cl fp) (b1 s H C cl fp) (hs cl C), absTos_cons a2 b2, gsin_cons a4 b4 a3 b3, gsm_cons a4 b4⟩
theorem qgc_tup {es : List Expr} {k n : Nat} {ts : PTGs} (hc : X.calm = true) (h : QGsc X scope vs es ts) (hn : ∀ cl C, (assignEach es (compEnvC scope cl C X.env)).length = n := by intro _ _; rfl)
    (hst : ∀ cl C, (assignEach es (compEnvC scope cl C X.env)).findIdx? (·.1) = none := by intro _ _; rfl) : QGc X scope vs (.Tuple es k pos) (pgT n ts) := by
  obtain ⟨gs, a1, a2, a3, a4⟩ := h
  exact ⟨_, fun s H C cl fp => pg_tup (X := X.blk s H scope (compEnvC scope cl C X.env) fp) hc (a1 s H C cl fp) (hn cl C) (hst cl C), absTo_tup a2, gin_tup a3, gm_tup a4⟩
end
/-! ### comprehensions -/
def wipeP (ρ : PSt) : List Nat → PSt
  | [] => ρ
  | v :: vs => (wipeP ρ vs).set v .no
def keepv : Option SV → SV
  | some (.val d) => .val d
  | _ => .no
/-- the outer slots vs as they were, the others as they are now -/
def backP (ρ ρ' : PSt) : List Nat → PSt
  | [] => ρ'
  | v :: vs => (backP ρ ρ' vs).set v (keepv ρ[v]?)
theorem wipeP_len (ρ : PSt) : ∀ vs : List Nat, (wipeP ρ vs).length = ρ.length
  | [] => rfl
  | v :: vs => by unfold wipeP; rw [List.length_set, wipeP_len ρ vs]
theorem backP_len (ρ ρ' : PSt) : ∀ vs : List Nat, (backP ρ ρ' vs).length = ρ'.length
  | [] => rfl
  | v :: vs => by unfold backP; rw [List.length_set, backP_len ρ ρ' vs]
theorem wipeP_at {ρ : PSt} {i : Nat} {s : SV} : ∀ {vs : List Nat}, (wipeP ρ vs)[i]? = some s → (i ∈ vs ∧ s = .no) ∨ (i ∉ vs ∧ ρ[i]? = some s)
  | [], h => .inr ⟨by simp, h⟩
  | v :: vs, h => by
    unfold wipeP at h
    by_cases e : i = v
    · subst e
      obtain ⟨hl, _⟩ := List.getElem?_eq_some_iff.mp h
      rw [List.length_set] at hl
      rw [List.getElem?_set_self hl] at h
      cases h
      exact .inl ⟨by simp, rfl⟩
    · rw [List.getElem?_set_ne (Ne.symm e)] at h
      rcases wipeP_at h with ⟨h1, h2⟩ | ⟨h1, h2⟩
      · exact .inl ⟨by simp [h1], h2⟩
      · exact .inr ⟨by simp [e, h1], h2⟩
theorem backP_at {ρ ρ' : PSt} {i : Nat} {s : SV} : ∀ {vs : List Nat}, (backP ρ ρ' vs)[i]? = some s → (i ∈ vs ∧ s = keepv ρ[i]?) ∨ (i ∉ vs ∧ ρ'[i]? = some s)
  | [], h => .inr ⟨by simp, h⟩
  | v :: vs, h => by
    unfold backP at h
    by_cases e : i = v
    · subst e
      obtain ⟨hl, _⟩ := List.getElem?_eq_some_iff.mp h
      rw [List.length_set] at hl
      rw [List.getElem?_set_self hl] at h
      cases h
      exact .inl ⟨by simp, rfl⟩
    · rw [List.getElem?_set_ne (Ne.symm e)] at h
      rcases backP_at h with ⟨h1, h2⟩ | ⟨h1, h2⟩
      · exact .inl ⟨by simp [h1], h2⟩
      · exact .inr ⟨by simp [e, h1], h2⟩
section
variable {E : Ent} {f f' f1 f2 : Addr → Option Nat} {sr : Option (Addr × Addr)} {ρ ρ2 : PSt} {σ σ2 : St} {G H H0 G' H' G2 H2 : Hp} {v : V} {x : OP}
theorem ER.wipe (R : ER E f sr ρ σ G H) (vs : List Nat) : ER E f sr (wipeP ρ vs) (wipe σ vs) G H :=
  ⟨R.ext, R.own, R.src, R.srE, by rw [wipe_length, wipeP_len]; exact R.len, fun i s e => by
    rcases wipeP_at e with ⟨_, rfl⟩ | ⟨h1, h2⟩
    · trivial
    · rw [wipe_out h1]; exact R.at_ i s h2⟩
theorem ER.back (R : ER E f sr ρ σ G H) (R2 : ER E f2 sr ρ2 σ2 G2 H2) (g : Sub G G2) (w : L2.wipe σ2 vs = L2.wipe (L2.wipe σ vs) vs) : ER E f2 sr (backP ρ ρ2 vs) σ G2 H2 :=
  ⟨R2.ext, R2.own, R2.src, R2.srE, by
    have this : (L2.wipe σ2 vs).length = (L2.wipe (L2.wipe σ vs) vs).length := by rw [w]
    rw [wipe_length, wipe_length, wipe_length] at this
    rw [backP_len, ← R2.len, this], fun i s e => by
    rcases backP_at e with ⟨h1, rfl⟩ | ⟨h1, h2⟩
    · unfold keepv
      split
      · rename_i d hd
        have := R.at_ i _ hd
        exact this.mono g (H1 := H) fun _ _ q _ => q
      · trivial
    · have := R2.at_ i s h2
      have e1 : σ2[i]? = σ[i]? := by
        have q : (L2.wipe σ2 vs)[i]? = (L2.wipe (L2.wipe σ vs) vs)[i]? := by rw [w]
        rw [wipe_out h1, wipe_out h1, wipe_out h1] at q
        exact q
      rw [← e1]; exact this⟩
/-- the list that a comprehension fills -/
theorem ER.tmpw {p : Addr} (R : ER E f sr ρ σ G H) (e2 : f p = none) (e3 : ¬ InSr sr p) (e4 : G p = none) (e5 : E.H p = none) (o : HO) : ER E f sr ρ σ G (upd H p o) where
  ext := ⟨fun a u e n => by rw [upd_ne (ne_of_none e e5)]; exact R.ext.hk a u e n, fun a u e => by rw [upd_ne (ne_of_none e e5)]; exact R.ext.hd a u e, R.ext.gk,
    fun a u e => by rw [upd_ne (ne_of_none e e4)]; exact R.sub a u e, R.ext.gn⟩
  own := fun a i e => by
    obtain ⟨h1, h2, h3⟩ := R.own a i e
    have n : a ≠ p := fun z => by rw [z, e2] at e; cases e
    exact ⟨h1, h2, by rw [upd_ne n]; exact h3⟩
  src := fun d c e => by
    obtain ⟨h1, h2, h3, h4, h5⟩ := R.src d c e
    have n1 : d ≠ p := fun z => e3 (by rw [e, ← z]; exact .inl rfl)
    have n2 : c ≠ p := fun z => e3 (by rw [e, ← z]; exact .inr rfl)
    exact ⟨h1, h2, h3, h4, h5.mono fun o => ⟨fun q => by rw [upd_ne n1]; exact q, fun q => by rw [upd_ne n2]; exact q⟩⟩
  srE := R.srE
  len := R.len
  at_ := fun i s e => (R.at_ i s e).mono (Sub.refl _) fun a u q z => by
    have n : a ≠ p := fun w => by rw [w, e2] at z; cases z
    rw [upd_ne n]; exact q
theorem Ext.tmpw {S : Addr → Prop} {p : Addr} (x : Ext S G H G2 H2) (n : H p = none) (e4 : G2 p = none) (o : HO) : Ext S G H G2 (upd H2 p o) where
  hk := fun a u e s => by rw [upd_ne (ne_of_none e n)]; exact x.hk a u e s
  hd := fun a u e => by rw [upd_ne (ne_of_none e n)]; exact x.hd a u e
  gk := x.gk
  gh := fun a u e => by rw [upd_ne (ne_of_none e e4)]; exact x.gh a u e
  gn := x.gn
theorem not_spc {p : Addr} (e2 : f p = none) (e3 : ¬ InSr sr p) : ¬ Spc f sr p := fun z => z.elim (fun z => z e2) e3
theorem ER.fresh {p : Addr} (R : ER E f sr ρ σ G H) (n : H p = none) : f p = none ∧ ¬ InSr sr p := by
  refine ⟨?_, ?_⟩
  · cases q : f p with
    | none => rfl
    | some i => obtain ⟨_, _, u, hu⟩ := R.own p i q; rw [n] at hu; cases hu
  · intro z
    cases hs : sr with
    | none => rw [hs] at z; exact z
    | some dc =>
      obtain ⟨d', c⟩ := dc
      obtain ⟨_, _, _, _, s5⟩ := R.src d' c hs
      obtain ⟨⟨o1, q1⟩, ⟨o2, q2⟩⟩ := s5.exd
      rw [hs] at z
      have z : p = d' ∨ p = c := z
      rcases z with z | z
      · rw [← z, n] at q1; cases q1
      · rw [← z, n] at q2; cases q2
theorem Ext.keepN {p : Addr} (x : Ext (Spc f sr) G H G' H') (e2 : f p = none) (e3 : ¬ InSr sr p) (e4 : G p = none) {o : HO} (h : H p = some o) : G' p = none ∧ H' p = some o := by
  refine ⟨?_, x.hk _ _ h (not_spc e2 e3)⟩
  cases q : G' p with
  | none => rfl
  | some u =>
    rcases x.gn p u q e4 with z | z
    · rw [z] at h; cases h
    · exact (not_spc e2 e3 z).elim
end
@[irreducible] def lcR (t : PTG) (tt : PTT) (te : PTE) (vs : List Nat) (Q : OP → PSt → Prop) (ds : List D) (ρ1 : PSt) : Prop := ∃ I : Nat → List D → PSt → Prop, I 0 [] ρ1 ∧
  (∀ (i : Nat) d acc ρ2, ds[i]? = some d → I i acc ρ2 → t (.d d) (wipeP ρ2 vs) fun ρ3 => tt ρ3 fun b ρ4 => if b = true then te ρ4 fun y ρ5 => y.cl fun e => acc.length < sizeLine ∧ I (i + 1) (acc ++ [e]) (backP ρ2 ρ5 vs) else I (i + 1) acc (backP ρ2 ρ4 vs)) ∧
  ∀ acc ρ2, I ds.length acc ρ2 → Q (.t (.list acc)) ρ2
def pLc (it : PTI) (t : PTG) (tt : PTT) (te : PTE) (vs : List Nat) : PTE := fun ρ Q => it ρ (lcR t tt te vs Q)
theorem abs_lc {wi : TI} {it : PTI} {g : TG} {t : PTG} {tt : PTT} {te : PTE} {vs : List Nat} (hi : AbsI wi it) (hg : AbsTo g t) (hin : GIn vs g) (hm : GMono g) : Abs (tLc wi g (TTof tt) (TEof te) vs) (pLc it t tt te vs) := by
  intro E f sr ρ σ G H Q Qp R h k
  refine hi E f sr ρ σ G H _ _ R h fun J ds f1 ρ1 G1 H1 h le1 R1 e1 ok => ?_
  unfold lcR at h
  obtain ⟨I, i0, turn, done⟩ := h
  intro L hL
  obtain ⟨fL, sL⟩ := R1.fresh hL
  have gL : G1 L = none := none_sub R1.sub hL
  have HL : H L = none := e1.none_of hL
  have EL : E.H L = none := R.noneE HL
  refine ⟨fun i m H2 => m = ds.length - i ∧ i ≤ ds.length ∧ ∃ f2 ρ2 G2 acc ws, (∀ a, f2 a ≠ none → f2 a = f a) ∧ ER E f2 sr ρ2 σ G2 H2 ∧ Ext (Spc f sr) G H G2 H2 ∧ Sub G1 G2 ∧ H2 L = some (.lst ws) ∧ DqA G2 ws acc ∧ G2 L = none ∧ f2 L = none ∧ I i acc ρ2,
    ⟨ds.length, by simp, Nat.zero_le _, f1, ρ1, G1, [], [], le1, R1.tmpw fL sL gL EL _, e1.tmpw HL gL _, Sub.refl _, upd_same, .nil, gL, fL, i0⟩, ?_⟩
  rintro i m H2 ⟨rfl, hi, f2, ρ2, G2, acc, ws, le2, R2, e2, s2, hL2, hq2, gL2, fL2, i2⟩
  obtain ⟨o1, o2⟩ := ok G2 H2 s2 R2.sub
  by_cases hlt : i < ds.length
  · obtain ⟨go, yl⟩ := o1 i ds[i] (List.getElem?_eq_getElem hlt)
    refine .inr ⟨go, fun H' => ∃ f2 ρ2 G2 acc ws, (∀ a, f2 a ≠ none → f2 a = f a) ∧ ER E f2 sr ρ2 σ G2 H' ∧ Ext (Spc f sr) G H G2 H' ∧ Sub G1 G2 ∧ H' L = some (.lst ws) ∧ DqA G2 ws acc ∧ G2 L = none ∧ f2 L = none ∧ I (i + 1) acc ρ2, fun H' z => ⟨ds.length - (i + 1), by omega, rfl, hlt, z⟩, fun x H3 y => ?_⟩
    obtain ⟨G3, e3, hx⟩ := yl x H3 y
    have R3 := R2.pure e3
    have x3 : Ext (Spc f sr) G H G3 H3 := e2.trans e3 fun _ z => z.elim
    obtain ⟨gL3, hL3⟩ := (e3.pure (S := Spc f2 sr)).keepN fL2 sL gL2 hL2
    have Rw := R3.wipe vs
    refine hm _ _ _ _ _ (fun σ' H' q => ⟨q.1.trans (wipe_wipe σ vs), q.2 q.1⟩) (hin x (wipe σ vs) H3 (fun σ4 H4 => wipe σ4 vs = wipe (wipe σ vs) vs → TTof tt σ4 H4 _) (hg E f2 sr _ _ G3 H3 H3 x (.d ds[i]) _ _ Rw hx (fun a n => Rw.noneE n) (fun _ n => n) (turn i _ acc ρ2 (List.getElem?_eq_getElem hlt) i2) fun f4 ρ4 σ4 G4 H4 q4 R4 c4 w4 => ?_))
    have nex : ∀ b, ¬ Tex x (.d ds[i]) b := fun b z => by obtain ⟨_, d, z⟩ := z; cases z
    obtain ⟨t1, t2, t3⟩ := c4.t L _ (nex L) fL2 sL gL3 hL3
    have le4 : ∀ a, f4 a ≠ none → f4 a = f2 a := fun a n => c4.l a (nex a) n
    have x34 : Ext (Spc f2 sr) G3 H3 G4 H4 := ⟨fun c o q n => c4.x.hk c o q fun z => z.elim n (nex c), c4.x.hd, c4.x.gk, c4.x.gh, fun c o q n => (c4.x.gn c o q n).imp id fun z => z.elim id fun z => (nex c z).elim⟩
    have x4 : Ext (Spc f sr) G H G4 H4 := x3.then le2 x34
    refine absT_of tt E f4 sr ρ4 σ4 G4 H4 _ _ R4 q4 fun b f5 ρ5 G5 H5 q5 le5 R5 x45 => ?_
    have le5' := fle.trans (fle.trans le2 le4) le5
    have x5 : Ext (Spc f sr) G H G5 H5 := x4.then (fle.trans le2 le4) x45
    obtain ⟨g5, h5⟩ := x45.keepN t1 sL t2 t3
    have n5 := fle le5 t1
    have s5 : Sub G2 G5 := (e3.gk.trans c4.g).trans x45.gk
    cases b with
    | false =>
      simp only [Bool.false_eq_true, if_false] at q5 ⊢
      exact ⟨f5, _, G5, acc, ws, le5', R2.back R5 s5 w4, x5, s2.trans s5, h5, hq2.mono s5, g5, n5, q5⟩
    | true =>
      simp only [if_true] at q5 ⊢
      refine abs_of te E f5 sr ρ5 σ4 G5 H5 _ _ R5 q5 fun y z f6 ρ6 G6 H6 q6 le6 R6 x56 o6 => ?_
      obtain ⟨d6, G7, ⟨hz, q7⟩, hd7, R7, x57, s67⟩ := o6.cl R6 (fun a n => R5.noneE n) x56 q6
      have x7 : Ext (Spc f sr) G H G7 H6 := x5.then le5' x57
      obtain ⟨g7, h7⟩ := x57.keepN n5 sL g5 h5
      have n7 := fle le6 n5
      have s7 : Sub G2 G7 := s5.trans x57.gk
      refine ⟨ws, h7, by rw [hq2.length]; exact hz, f6, _, G7, acc ++ [d6], ws ++ [y], fle.trans le5' le6, (R2.back R7 s7 w4).tmpw n7 sL g7 EL _, x7.tmpw HL g7 _, s2.trans s7, upd_same, (hq2.mono s7).app (.one hd7), g7, n7, q7⟩
  · have e : i = ds.length := by omega
    subst e
    refine .inl ⟨o2, k (.ref L) (.t (.list acc)) f2 ρ2 G2 H2 (done acc ρ2 i2) le2 R2 e2 ⟨L, rfl, fL2, sL, gL2, HL, .lst hL2 hq2⟩⟩
end L3
set_option Elab.async false
set_option linter.all false
set_option maxRecDepth 100000
set_option maxHeartbeats 1000000
namespace L3
open PySem PySem.Spec PyProof.Rows L2
section
variable {X : Cx} {pos : Pos} {p : PTE}
theorem q_lc {elt tg iter : Expr} {ifs : List Expr} {scope : Scope} (own : List (Str × Nat)) {it : PTI} {t : PTG} {tt : PTT} {te : PTE} (hc : X.calm = true) (hN : X.N.Nodup) (hi : QI X tg iter it) (ok : BlkOk X.N X.env.scope scope own)
    (hg : QGc X scope (own.map (·.2)) tg t) (ht : ∀ (s : Shared) (H : Hp) (C : Addr) (cl : List (Str × Addr)) (fp : List Addr), QTs (X.blk s H scope (compEnvC scope cl C X.env) fp) ifs tt)
    (he : ∀ (s : Shared) (H : Hp) (C : Addr) (cl : List (Str × Addr)) (fp : List Addr), QE (X.blk s H scope (compEnvC scope cl C X.env) fp) elt te) (hs : ∀ x, foldedSetIterable iter X.env x = pure x := by intro _; rfl) :
    QE X (.ListComp elt [⟨tg, iter, ifs, 0⟩] scope pos) (pLc it t tt te (own.map (·.2))) := by
  obtain ⟨w, w1, w2⟩ := hi
  obtain ⟨g, g1, g2, g3, g4⟩ := hg.ex
  exact ⟨_, pe_lc hc hN w1 ok g1 (fun s H C cl fp => (ht s H C cl fp).un) (fun s H C cl fp => (he s H C cl fp).un) hs, abs_lc w2 g2 g3 g4⟩
theorem qs_setLc (i : Nat) {y : Str} {py spos : Pos} {elt tg iter : Expr} {ifs : List Expr} {scope : Scope} (own : List (Str × Nat)) {it : PTI} {t : PTG} {tt : PTT} {te : PTE} (hc : X.calm = true) (hN : X.N.Nodup) (hi : QI X tg iter it) (ok : BlkOk X.N X.env.scope scope own)
    (hg : QGc X scope (own.map (·.2)) tg t) (ht : ∀ (s : Shared) (H : Hp) (C : Addr) (cl : List (Str × Addr)) (fp : List Addr), QTs (X.blk s H scope (compEnvC scope cl C X.env) fp) ifs tt)
    (he : ∀ (s : Shared) (H : Hp) (C : Addr) (cl : List (Str × Addr)) (fp : List Addr), QE (X.blk s H scope (compEnvC scope cl C X.env) fp) elt te)
    (hsw : swapsWith (.ListComp elt [⟨tg, iter, ifs, 0⟩] scope pos) (some (.Name y py)) spos.line X.env = pure true)
    (hy : X.N[i]? = some y := by rfl) (hyl : X.env.scope.names.lookup y = some .local := by rfl) (hs : ∀ x, foldedSetIterable iter X.env x = pure x := by intro _; rfl) :
    QS X (.Assign [.Name y py] (.ListComp elt [⟨tg, iter, ifs, 0⟩] scope pos) spos) (pAsg (pLc it t tt te (own.map (·.2))) (pgN i)) := by
  obtain ⟨w, w1, w2⟩ := hi
  obtain ⟨g, g1, g2, g3, g4⟩ := hg.ex
  exact ⟨_, ps_setLc hc hN hy hyl hsw w1 ok g1 (fun s H C cl fp => (ht s H C cl fp).un) (fun s H C cl fp => (he s H C cl fp).un) hs, abs_asg (abs_lc w2 g2 g3 g4) (absTo_name i)⟩
end
/-! ### defs -/
inductive AV where
  | d (d : D) | s
abbrev FS := List AV → (D → Prop) → Prop
inductive ArgsOk (G : Hp) (sr : Option (Addr × Addr)) : List V → List AV → Prop
  | nil : ArgsOk G sr [] []
  | d {v : V} {d : D} {vs : List V} {as : List AV} : Dq G v d → ArgsOk G sr vs as → ArgsOk G sr (v :: vs) (.d d :: as)
  | s {d c : Addr} {vs : List V} {as : List AV} : sr = some (d, c) → ArgsOk G sr vs as → ArgsOk G sr (.ref d :: vs) (.s :: as)
theorem ArgsOk.mono {G G' : Hp} {sr : Option (Addr × Addr)} {vs : List V} {as : List AV} (s : Sub G G') (h : ArgsOk G sr vs as) : ArgsOk G' sr vs as := by
  induction h with
  | nil => exact .nil
  | d h _ ih => exact .d (h.mono s) ih
  | s h _ ih => exact .s h ih
def ArgOk (G : Hp) (sr : Option (Addr × Addr)) (v : V) : AV → Prop
  | .d d => Dq G v d
  | .s => ∃ d c, v = .ref d ∧ sr = some (d, c)
theorem ArgsOk.get {G : Hp} {sr : Option (Addr × Addr)} {vs : List V} {as : List AV} (h : ArgsOk G sr vs as) : ∀ {i : Nat} {a : AV}, as[i]? = some a → ∃ v, vs[i]? = some v ∧ ArgOk G sr v a := by
  induction h with
  | nil => intro i a e; simp at e
  | @d v d vs as hd _ ih =>
    intro i a e
    cases i with
    | zero => simp at e; subst e; exact ⟨v, rfl, hd⟩
    | succ j => obtain ⟨v, h1, h2⟩ := ih (i := j) (by simpa using e); exact ⟨v, by simpa using h1, h2⟩
  | @s d c vs as hd _ ih =>
    intro i a e
    cases i with
    | zero => simp at e; subst e; exact ⟨_, rfl, d, c, rfl, hd⟩
    | succ j => obtain ⟨v, h1, h2⟩ := ih (i := j) (by simpa using e); exact ⟨v, by simpa using h1, h2⟩
theorem ArgsOk.len {G : Hp} {sr : Option (Addr × Addr)} {vs : List V} {as : List AV} (h : ArgsOk G sr vs as) : vs.length = as.length := by
  induction h with
  | nil => rfl
  | d h _ ih => simp [ih]
  | s h _ ih => simp [ih]
/-- the source stands as it should -/
def SrOk (sr : Option (Addr × Addr)) (G H : Hp) : Prop := ∀ d c, sr = some (d, c) → G d = none ∧ G c = none ∧ SrcAt H d c
def spOf (S : FS) : Sp := fun vs H Q _ => ∃ (G : Hp) (sr : Option (Addr × Addr)) (as : List AV) (Qp : D → Prop), Sub G H ∧ ArgsOk G sr vs as ∧ SrOk sr G H ∧ S as Qp ∧
  ∀ v d G' H', Qp d → Ext (InSr sr) G H G' H' → SrOk sr G' H' → Dq G' v d → Q v H'
/-- .. a new list is handed back -/
def spOfT (S : FS) : Sp := fun vs H Q _ => ∃ (G : Hp) (sr : Option (Addr × Addr)) (as : List AV) (Qp : D → Prop), Sub G H ∧ ArgsOk G sr vs as ∧ SrOk sr G H ∧ S as Qp ∧
  ∀ v d G' H', Qp d → Ext (InSr sr) G H G' H' → SrOk sr G' H' → (∃ a, v = .ref a ∧ G' a = none ∧ H a = none ∧ ¬ InSr sr a ∧ Own G' H' a d) → Q v H'
def avA : List OP → (List AV → Prop) → Prop
  | [], Q => Q []
  | .d z :: xs, Q => avA xs fun as => Q (.d z :: as)
  | .t z :: xs, Q => avA xs fun as => Q (.d z :: as)
  | .s :: xs, Q => avA xs fun as => Q (.s :: as)
  | .o _ :: _, _ => False
section
variable {E : Ent} {f f1 f2 : Addr → Option Nat} {sr : Option (Addr × Addr)} {ρ ρ1 ρ2 : PSt} {σ : L2.St} {G H G0 H0 G' H' : Hp} {v : V} {x : OP}
theorem OpsOk.av {vs : List V} {xs : List OP} (h : OpsOk H0 f sr σ G H vs xs) (n : ∀ a, H0 a = none → E.H a = none) {S : Addr → Prop} : ∀ {Q : List AV → Prop} {G : Hp}, OpsOk H0 f sr σ G H vs xs → ER E f sr ρ σ G H → Ext S G0 H0 G H → avA xs Q →
    ∃ as G', Q as ∧ ArgsOk G' sr vs as ∧ ER E f sr ρ σ G' H ∧ Ext S G0 H0 G' H ∧ Sub G G' := by
  induction h with
  | nil => intro Q G _ R ex q; exact ⟨[], G, q, .nil, R, ex, Sub.refl _⟩
  | @cons v vs x xs _ _ hh ih =>
    intro Q G hx R ex q
    cases hx with
    | cons ho hd hr =>
      cases x with
      | o i => exact q.elim
      | s =>
        obtain ⟨c, d, rfl, e⟩ := ho
        obtain ⟨ds, G', q, hq, R', ex', sg⟩ := ih hr R ex q
        exact ⟨_, G', q, .s e hq, R', ex', sg⟩
      | d d =>
        obtain ⟨ds, G', q, hq, R', ex', sg⟩ := ih hr R ex q
        exact ⟨_, G', q, .d (Dq.mono sg ho) hq, R', ex', sg⟩
      | t d =>
        obtain ⟨a, rfl, e2, e3, e4, e5, o⟩ := id ho
        obtain ⟨u, h1, h2, h3, h4⟩ := R.clean e2 e3 e4 (n a e5) o
        have ex2 : Ext S G0 H0 (upd G a u) H := ⟨ex.hk, ex.hd, ex.gk.trans h3, h2.sub, fun b w e nn => by
          by_cases q : b = a
          · subst q; exact .inl e5
          · rw [upd_ne q] at e; exact ex.gn b w e nn⟩
        obtain ⟨ds, G', q, hq, R', ex', sg⟩ := ih (hr.avoid h3 (hd a d rfl rfl)) h2 ex2 q
        exact ⟨_, G', q, .d (h1.mono sg) hq, R', ex', h3.trans sg⟩
theorem ER.srOk (R : ER E f sr ρ σ G H) : SrOk sr G H := fun d c e => let ⟨h1, h2, _, _, h5⟩ := R.src d c e; ⟨h1, h2, h5⟩
theorem ER.srOkE (R : ER E f sr ρ σ G H) : SrOk E.sr G H := fun d c e => by
  have : sr = E.sr := by
    rcases R.srE with z | z
    · exact z
    · rw [z.1] at e; cases e
  exact R.srOk d c (this.trans e)
theorem InSr.spc {a : Addr} (h : InSr sr a) : Spc f sr a := .inr h
theorem Ext.imp {S S' : Addr → Prop} (x : Ext S G H G' H') (h : ∀ a, S a → S' a) : Ext S' G H G' H' :=
  ⟨fun a o e n => x.hk a o e fun z => n (h a z), x.hd, x.gk, x.gh, fun a o e n => (x.gn a o e n).imp id (h a)⟩
/-- behind a call -/
theorem ER.call (R : ER E f sr ρ σ G H) (x : Ext (InSr sr) G H G' H') (s : SrOk sr G' H') : ER E f sr ρ σ G' H' where
  ext := R.ext.trans x fun a z => by
    rcases R.srE with e | ⟨e, n⟩
    · rw [← e]; exact .inl z
    · cases hs : sr with
      | none => rw [hs] at z; exact z.elim
      | some dc =>
        obtain ⟨d, c⟩ := dc
        obtain ⟨n1, n2⟩ := n d c hs
        rw [hs] at z
        have z : a = d ∨ a = c := z
        rcases z with z | z
        · rw [z]; exact .inr n1
        · rw [z]; exact .inr n2
  own := fun a i e => by
    obtain ⟨h1, h2, u, h3⟩ := R.own a i e
    have ns : ¬ InSr sr a := fun z => by
      cases hs : sr with
      | none => rw [hs] at z; exact z
      | some dc =>
        obtain ⟨d, c⟩ := dc
        obtain ⟨_, _, q1, q2, _⟩ := R.src d c hs
        rw [hs] at z
        have z : a = d ∨ a = c := z
        rcases z with z | z
        · rw [z, q1] at e; cases e
        · rw [z, q2] at e; cases e
    refine ⟨?_, h2, u, x.hk a u h3 ns⟩
    cases q : G' a with
    | none => rfl
    | some w =>
      rcases x.gn a w q h1 with z | z
      · rw [z] at h3; cases h3
      · exact (ns z).elim
  src := fun d c e => by
    obtain ⟨_, _, q1, q2, _⟩ := R.src d c e
    obtain ⟨h1, h2, h3⟩ := s d c e
    exact ⟨h1, h2, q1, q2, h3⟩
  srE := R.srE
  len := R.len
  at_ := fun i s e => (R.at_ i s e).mono x.gk fun a u q z => x.hk a u q fun w => by
    cases hs : sr with
    | none => rw [hs] at w; exact w
    | some dc =>
      obtain ⟨d, c⟩ := dc
      obtain ⟨_, _, q1, q2, _⟩ := R.src d c hs
      rw [hs] at w
      have w : a = d ∨ a = c := w
      rcases w with w | w
      · rw [w, q1] at z; cases z
      · rw [w, q2] at z; cases z
end
/-- a def keeps its promise, wherever no repr is under way -/
structure FnS (P : Program) (w : World) (K : PySem.W.Frag) (mg : Str → Option Value) (base : Heap) (k : Nat) (f : Addr) (fd : FuncData) (ps : List Str) (sp : Sp) : Prop where
  len : ∀ vs H Q E, sp vs H Q E → vs.length = ps.length
  run : ∀ (A : Around) (outer : List Env) (s : Shared) (H : Hp) (args : Args) (us : List Value) (vs : List V) (Q : VK), Room k A → A.guards = some [] → Env0 P w K mg base A outer s H →
    BindsTo s fd args (ps.zip us) → Vals vs us → sp vs H Q E0 → codeAny (model P w) A (.call (.ref f) args) (CR CX0 outer P w H s Q E0) s
/-- where it stands -/
structure FnAt (P : Program) (w : World) (K : PySem.W.Frag) (mg : Str → Option Value) (base : Heap) (x : Str) (k : Nat) (sp : Sp) : Prop where
  ex : ∃ (f : Addr) (fd : FuncData) (ps : List Str), FnS P w K mg base k f fd ps sp ∧ mg x = some (.ref f) ∧ PySem.W.keepIn K (.ref f) = true ∧ Binds K fd ps []
abbrev FnQ (P : Program) (w : World) (K : PySem.W.Frag) (mg : Str → Option Value) (base : Heap) (x : Str) (k : Nat) (S : FS) : Prop := FnAt P w K mg base x k (spOf S)
abbrev FnT (P : Program) (w : World) (K : PySem.W.Frag) (mg : Str → Option Value) (base : Heap) (x : Str) (k : Nat) (S : FS) : Prop := FnAt P w K mg base x k (spOfT S)
theorem FnAt.mono {P : Program} {w : World} {K : PySem.W.Frag} {mg : Str → Option Value} {base : Heap} {x : Str} {k k' : Nat} {sp : Sp} (F : FnAt P w K mg base x k sp) (h : k ≤ k') : FnAt P w K mg base x k' sp := by
  obtain ⟨f, fd, ps, h1, h2⟩ := F.ex
  exact ⟨f, fd, ps, ⟨h1.len, fun A outer s H args us vs Q r => h1.run A outer s H args us vs Q (r.mono h)⟩, h2⟩
/-- another promise that the first one gives -/
theorem FnAt.imp {P : Program} {w : World} {K : PySem.W.Frag} {mg : Str → Option Value} {base : Heap} {x : Str} {k : Nat} {sp sp' : Sp} (F : FnAt P w K mg base x k sp) (h : ∀ vs H Q E, sp' vs H Q E → sp vs H Q E) : FnAt P w K mg base x k sp' := by
  obtain ⟨f, fd, ps, h1, h2⟩ := F.ex
  exact ⟨f, fd, ps, ⟨fun vs H Q E q => h1.len vs H Q E (h vs H Q E q), fun A outer s H args us vs Q r g e b v q => h1.run A outer s H args us vs Q r g e b v (h vs H Q E0 q)⟩, h2⟩
theorem FnQ.imp {P : Program} {w : World} {K : PySem.W.Frag} {mg : Str → Option Value} {base : Heap} {x : Str} {k : Nat} {S S' : FS} (F : FnQ P w K mg base x k S) (h : ∀ as Q, S' as Q → S as Q) : FnQ P w K mg base x k S' :=
  FnAt.imp F fun vs H Q E ⟨G, sr, as, Qp, a1, a2, a3, a4, a5⟩ => ⟨G, sr, as, Qp, a1, a2, a3, h as Qp a4, a5⟩
def pCallT (S : FS) (pr : PTA) : PTE := fun ρ Q => pr ρ fun xs ρ1 => avA xs fun as => S as fun r => Q (.t r) ρ1
def pCall (S : FS) (pr : PTA) : PTE := fun ρ Q => pr ρ fun xs ρ1 => avA xs fun as => S as fun r => Q (.d r) ρ1
section
variable {X : Cx} {x : Str} {pp pos : Pos} {e : Expr} {es : List Expr} {pr : PTA} {k k' : Nat} {S : FS}
theorem pe_callG {sp : Sp} {t : TA} (F : FnAt X.prog X.w X.K X.mg X.base x k sp) (hr : Room k X.A) (hgd : X.A.guards = some []) (hg : Gl X x)
    (ha : PA X (e :: es) t) (hdb : (x == ("__debug__" : Str)) = false) (he : starEach (e :: es) X.env = (false, eval e X.env) :: starEach es X.env) (hpl : (backTo pos (starEach es X.env)).any (·.1) = false) :
    PE X (.Call (.Name x pp) (e :: es) [] pos) (tCall sp [] E0 t) := by
  obtain ⟨f, fd, ps, F, hm, hk, hb⟩ := F.ex
  constructor
  intro pins s σ H Q I h
  apply wpAny_Call_Name_kw
  apply ld_glob I hg hm _ hdb
  refine PySem.W.callWith_K (h₀ := X.base) I.ok.mod.kin hk (thn (ha.run pos pins s σ H _ I h) ?_) he hpl
  rintro us s1 ⟨vs, H1, I1, rv, q⟩
  refine ⟨I1.kIn, ?_⟩
  rw [List.append_nil] at q
  have hl : us.length = ps.length := rv.length.symm.trans (F.len _ _ _ _ q)
  have bd := hb s1 us I1.kIn (by rw [List.append_nil]; exact hl)
  rw [List.append_nil] at bd
  apply wpAny_call
  refine codeAny_mono (F.run X.A X.stack s1 H1 ⟨us, []⟩ us vs Q hr hgd I1.env0 bd rv q) ?_
  intro r s' hq
  match r, hq with
  | .ok (.ret u), hq => exact I1.after hq
theorem q_call (F : FnQ X.prog X.w X.K X.mg X.base x k S) (hr : Room k' X.A) (hgd : X.A.guards = some []) (ha : QA X (e :: es) pr) (hk : k ≤ k' := by decide) (hg : Gl X x := by rfl) (hdb : (x == ("__debug__" : Str)) = false := by decide)
    (he : starEach (e :: es) X.env = (false, eval e X.env) :: starEach es X.env := by rfl) (hpl : (backTo pos (starEach es X.env)).any (·.1) = false := by rfl) : QE X (.Call (.Name x pp) (e :: es) [] pos) (pCall S pr) := by
  obtain ⟨t, a1, a2⟩ := ha
  refine ⟨_, pe_callG F (hr.mono hk) hgd hg a1 hdb he hpl, ?_⟩
  intro E f sr ρ σ G H Q Qp R hp k
  refine a2 E f sr ρ σ G H _ _ R hp fun vs xs f1 ρ1 G1 H1 h1 le1 R1 e1 o1 => ?_
  obtain ⟨as, G', q, hq, R', ex', sg⟩ := o1.av (fun a n => R.noneE n) o1 R1 e1 h1
  refine ⟨G', sr, as, _, R'.sub, by rw [List.append_nil]; exact hq, R'.srOk, q, fun v d G2 H2 q2 x2 s2 hd => ?_⟩
  exact k v (.d d) f1 ρ1 G2 H2 q2 le1 (R'.call x2 s2) (ex'.trans (x2.imp fun a z => InSr.spc z) fun a z => .inl (z.le le1)) hd
theorem q_callT (F : FnT X.prog X.w X.K X.mg X.base x k S) (hr : Room k' X.A) (hgd : X.A.guards = some []) (ha : QA X (e :: es) pr) (hk : k ≤ k' := by decide) (hg : Gl X x := by rfl) (hdb : (x == ("__debug__" : Str)) = false := by decide)
    (he : starEach (e :: es) X.env = (false, eval e X.env) :: starEach es X.env := by rfl) (hpl : (backTo pos (starEach es X.env)).any (·.1) = false := by rfl) : QE X (.Call (.Name x pp) (e :: es) [] pos) (pCallT S pr) := by
  obtain ⟨t, a1, a2⟩ := ha
  refine ⟨_, pe_callG F (hr.mono hk) hgd hg a1 hdb he hpl, ?_⟩
  intro E f sr ρ σ G H Q Qp R hp k
  refine a2 E f sr ρ σ G H _ _ R hp fun vs xs f1 ρ1 G1 H1 h1 le1 R1 e1 o1 => ?_
  obtain ⟨as, G', q, hq, R', ex', sg⟩ := o1.av (fun a n => R.noneE n) o1 R1 e1 h1
  refine ⟨G', sr, as, _, R'.sub, by rw [List.append_nil]; exact hq, R'.srOk, q, fun v d G2 H2 q2 x2 s2 ⟨a, ea, g2, n1, ns, ow⟩ => ?_⟩
  refine k v (.t d) f1 ρ1 G2 H2 q2 le1 (R'.call x2 s2) (ex'.trans (x2.imp fun a z => InSr.spc z) fun a z => .inl (z.le le1)) ⟨a, ea, ?_, ns, g2, e1.none_of n1, ow⟩
  cases hf : f1 a with
  | none => rfl
  | some i =>
    obtain ⟨_, _, u, hu⟩ := R1.own a i hf
    rw [n1] at hu; cases hu
end
def avSV : AV → SV
  | .d d => .val d
  | .s => .src
def startP (N : List Str) (as : List AV) : PSt := as.map avSV ++ List.replicate (N.length - as.length) .no
theorem er_start {N : List Str} {G H : Hp} {sr : Option (Addr × Addr)} {vs : List V} {as : List AV} (s : Sub G H) (h : ArgsOk G sr vs as) (hs : SrOk sr G H) (f0 : Addr → Option Nat := fun _ => none) : ER ⟨G, H, sr⟩ (fun _ => none) sr (startP N as) (L2.start N vs) G H where
  ext := .refl s
  own := fun a i e => by cases e
  src := fun d c e => let ⟨h1, h2, h3⟩ := hs d c e; ⟨h1, h2, rfl, rfl, h3⟩
  srE := .inl rfl
  len := by unfold L2.start startP; simp [h.len]
  at_ := fun i sv e => by
    unfold startP at e
    unfold L2.start
    by_cases hi : i < as.length
    · rw [List.getElem?_append_left (by simpa using hi)] at e
      rw [List.getElem?_append_left (by simpa [h.len] using hi)]
      rw [List.getElem?_map] at e ⊢
      cases ha : as[i]? with
      | none => rw [ha] at e; simp at e
      | some a =>
        rw [ha] at e
        simp only [Option.map_some, Option.some.injEq] at e
        subst e
        obtain ⟨v, hv, q⟩ := h.get ha
        rw [hv]
        cases a with
        | d d => exact ⟨v, rfl, q⟩
        | s => obtain ⟨d, c, rfl, q⟩ := q; exact ⟨d, c, rfl, q⟩
    · rw [List.getElem?_append_right (by simpa using hi)] at e
      have := List.mem_of_getElem? e
      rw [List.mem_replicate] at this
      rw [this.2]
      trivial
section
variable {P : Program} {w : World} {K : PySem.W.Frag} {mg : Str → Option Value} {base : Heap}
/-- a def, by its body and the body's reading -/
theorem fn_ofG {x qual : Str} {st : Stmt} {f : Addr} {fd : FuncData} {N ps : List Str} {k : Nat} {sp : Sp} (F : Fun K x qual st f fd) (Sc : FnScope N ps (defScope st)) (len : ∀ vs H Q E, sp vs H Q E → vs.length = ps.length)
    (hw : ∀ (cdv : Value) (A : Around) (outer : List Env) (s : Shared) (H : Hp) (vs : List V) (Q : VK), Room k (A.deeper (envOfC qual (defScope st) s.heap.objs.size f cdv)) → A.guards = some [] → sp vs H Q E0 →
      ∃ t, PSs (cxOf CX0 P w K mg base N qual (defScope st) f cdv A outer s H E0).nox (defBody st) t ∧ t { nx := fun _ H' => Q .non H', rt := Q } (L2.start N vs) H) : FnS P w K mg base (k + 1) f fd ps sp := by
  refine ⟨len, ?_⟩
  obtain ⟨oc, od, kV, doc, pm, an, cdv, ct, osl, rfl, lk, hcd⟩ := F.ex
  intro A outer s H args us vs Q hr hgd e0 hbt rv hsp
  have hl : vs.length = ps.length := len _ _ _ _ hsp
  have KX : K.In s.heap := e0.mod.kin.keeps fun b o e => (e0.bs b o e).1
  have lim : s.heap.NoLimit := e0.mod.nolimit.keeps fun b o e => (e0.bs b o e).1
  have kinds : ∀ y ∈ ps.zip us, (defScope st).names.lookup y.1 = some .local ∨ ((defScope st).names.lookup y.1 = some .cell ∧ ((cellsFrom (s.heap.objs.size + 1) (defScope st).names []).lookup y.1).isSome = true) := by
    rintro ⟨n, v⟩ hy
    cases Sc.par n (List.of_mem_zip hy).1 with
    | inl q => exact .inl q
    | inr q => exact .inr ⟨q, PySem.W.cellsFrom_some _ _ _ (.inl q)⟩
  apply codeAny_call_function hr.depth (KX _ _ lk) rfl Sc.co Sc.gen rfl (PySem.W.codeRec_of KX hcd)
  apply hbt
  refine wpAny_newFunctionEnv_cells Sc.kind kinds fun env he s1 xx => ?_
  subst he
  refine ⟨lim.keeps xx.toInCall.keep, codeAny_func ?_⟩
  obtain ⟨t, t1, rd⟩ := hw cdv A outer s H vs Q (hr.deeper _) hgd hsp
  have I0 : Inv (cxOf CX0 P w K mg base N qual (defScope st) f cdv A outer s H E0) [] (L2.start N vs) H s1 := inv_start Sc hr.hd e0 hl rv xx
  refine wpAny_mono (t1.nox.run [] s1 (L2.start N vs) H _ I0 rd) ?_ fun e s' hs => hs
  intro fl s' hs
  match fl, hs with
  | .ret u, ⟨v, σ', H', J, r', q⟩ => exact ⟨v, H', J.os, J.bare, J.base, J.hok, r', q⟩
  | .next, ⟨σ', H', J, q⟩ => exact ⟨.non, H', J.os, J.bare, J.base, J.hok, rfl, q⟩
  | .brk, ⟨_, _, _, q⟩ => exact q.elim
  | .cont, ⟨_, _, _, q⟩ => exact q.elim
/-- .. by its derivation in this layer -/
theorem fn_q {x qual : Str} {st : Stmt} {f : Addr} {fd : FuncData} {N ps : List Str} {k : Nat} {S : FS} {p : PTS} (F : Fun K x qual st f fd) (Sc : FnScope N ps (defScope st)) (mgx : mg x = some (.ref f)) (hb : Binds K fd ps []) (len : ∀ as Q, S as Q → as.length = ps.length)
    (hw : ∀ (cdv : Value) (A : Around) (outer : List Env) (s : Shared) (H : Hp), Room k (A.deeper (envOfC qual (defScope st) s.heap.objs.size f cdv)) → A.guards = some [] → QSs (cxOf CX0 P w K mg base N qual (defScope st) f cdv A outer s H E0).nox (defBody st) p)
    (hp : ∀ as Q, S as Q → p { nx := fun _ => Q .none, rt := Q } (startP N as)) : FnQ P w K mg base x (k + 1) S := by
  refine ⟨f, fd, ps, fn_ofG F Sc ?_ ?_, mgx, F.kp, hb⟩
  · rintro vs H Q E ⟨G, sr, as, Qp, _, h2, _, h4, _⟩
    exact h2.len.trans (len as Qp h4)
  · rintro cdv A outer s H vs Q hr hgd ⟨G, sr, as, Qp, h1, h2, h3, h4, h5⟩
    obtain ⟨t, t1, t2⟩ := hw cdv A outer s H hr hgd
    exact ⟨t, t1, t2 ⟨G, H, sr⟩ _ sr _ _ G H _ _ (er_start h1 h2 h3) (hp as Qp h4)
      ⟨fun f1 sr1 ρ1 σ1 G1 H1 q R1 g => h5 .non .none G1 H1 q R1.ext (show SrOk (Ent.sr ⟨G, H, sr⟩) G1 H1 from R1.srOkE) .non, fun v d G1 H1 q x s hv => h5 v d G1 H1 q x s hv, fun _ _ _ _ _ _ q => q.elim, fun _ _ _ _ _ _ q => q.elim, fun _ _ _ _ q => q.elim⟩⟩
/-- .. where it hands back a new list -/
theorem fn_qT {x qual : Str} {st : Stmt} {f : Addr} {fd : FuncData} {N ps : List Str} {k : Nat} {S : FS} {p : PTS} (F : Fun K x qual st f fd) (Sc : FnScope N ps (defScope st)) (mgx : mg x = some (.ref f)) (hb : Binds K fd ps []) (len : ∀ as Q, S as Q → as.length = ps.length)
    (hw : ∀ (cdv : Value) (A : Around) (outer : List Env) (s : Shared) (H : Hp), Room k (A.deeper (envOfC qual (defScope st) s.heap.objs.size f cdv)) → A.guards = some [] → QSs (cxOf CX0 P w K mg base N qual (defScope st) f cdv A outer s H E0).nox (defBody st) p)
    (hp : ∀ as Q, S as Q → p { nx := fun _ => False, rt := fun _ => False, rf := Q } (startP N as)) : FnT P w K mg base x (k + 1) S := by
  refine ⟨f, fd, ps, fn_ofG F Sc ?_ ?_, mgx, F.kp, hb⟩
  · rintro vs H Q E ⟨G, sr, as, Qp, _, h2, _, h4, _⟩
    exact h2.len.trans (len as Qp h4)
  · rintro cdv A outer s H vs Q hr hgd ⟨G, sr, as, Qp, h1, h2, h3, h4, h5⟩
    obtain ⟨t, t1, t2⟩ := hw cdv A outer s H hr hgd
    exact ⟨t, t1, t2 ⟨G, H, sr⟩ _ sr _ _ G H _ _ (er_start h1 h2 h3) (hp as Qp h4)
      ⟨fun _ _ _ _ _ _ q => q.elim, fun _ _ _ _ q => q.elim, fun _ _ _ _ _ _ q => q.elim, fun _ _ _ _ _ _ q => q.elim, fun v d G1 H1 q x s hv => h5 v d G1 H1 q x s hv⟩⟩
end
end L3
set_option Elab.async false
set_option linter.all false
set_option maxRecDepth 100000
set_option maxHeartbeats 1000000
namespace L3
open PySem PySem.Spec PyProof.Rows L2
/-! ### numbers -/
def addG : G2 := fun x y Q => match x, y with
  | .int a, .int b => Q (.d (.int (a + b)))
  | .list a, .list b => a.length + b.length ≤ sizeLine ∧ Q (.t (.list (a ++ b)))
  | .tuple a, .tuple b => a.length + b.length ≤ sizeLine ∧ Q (.d (.tuple (a ++ b)))
  | _, _ => False
def subG : G2 := fun x y Q => match x, y with
  | .int a, .int b => Q (.d (.int (a - b)))
  | _, _ => False
/-- a product's size is let -/
def MulOk (a b : Int) : Prop := IntMulOk a b
def mulG : G2 := fun x y Q => match x, y with
  | .int a, .int b => MulOk a b ∧ Q (.d (.int (a * b)))
  | .list a, .int k => -(2 ^ 63) ≤ k ∧ k < 2 ^ 63 ∧ a.length * k.toNat ≤ sizeLine ∧ Q (.t (.list (List.replicate k.toNat a).flatten))
  | _, _ => False
def fdivG : G2 := fun x y Q => match x, y with
  | .int a, .int b => b ≠ 0 ∧ b.natAbs.log2 < 9000 ∧ Q (.d (.int (a.fdiv b)))
  | _, _ => False
def modG : G2 := fun x y Q => match x, y with
  | .int a, .int b => b ≠ 0 ∧ Q (.d (.int (a.fmod b)))
  | _, _ => False
def negG : G1 := fun x Q => match x with
  | .int a => Q (.d (.int (-a)))
  | _ => False
def cmpG (c : Int → Int → Bool) : G2 := fun x y Q => match x, y with
  | .int a, .int b => Q (.d (.bool (c a b)))
  | _, _ => False
def isStr : D → Bool
  | .str _ => true
  | _ => false
/-- two values that == may compare: plain data, or two texts -/
def cmpb (x y : D) : Bool := (SeqAt.shaped x && SeqAt.shaped y) || (isStr x && isStr y)
def eqG : G2 := fun x y Q => cmpb x y = true ∧ Q (.d (.bool (PyData.eqv x y)))
def neG : G2 := fun x y Q => cmpb x y = true ∧ Q (.d (.bool (!PyData.eqv x y)))
def inG : G2 := fun x y Q => match y with
  | .list ds => SeqAt.shaped x = true ∧ SeqAt.shaped (.list ds) = true ∧ Q (.d (.bool (ds.any fun z => PyData.eqv z x)))
  | .tuple ds => SeqAt.shaped x = true ∧ SeqAt.shaped (.tuple ds) = true ∧ Q (.d (.bool (ds.any fun z => PyData.eqv z x)))
  | _ => False
def notInG : G2 := fun x y Q => match y with
  | .list ds => SeqAt.shaped x = true ∧ SeqAt.shaped (.list ds) = true ∧ Q (.d (.bool (!ds.any fun z => PyData.eqv z x)))
  | .tuple ds => SeqAt.shaped x = true ∧ SeqAt.shaped (.tuple ds) = true ∧ Q (.d (.bool (!ds.any fun z => PyData.eqv z x)))
  | _ => False
def isNone : D → Bool
  | .none => true
  | _ => false
def isG : G2 := fun x y Q => match y with
  | .none => Q (.d (.bool (isNone x)))
  | _ => False
def isNotG : G2 := fun x y Q => match y with
  | .none => Q (.d (.bool (!isNone x)))
  | _ => False
/-- an item by its place -/
def idxG : G2 := fun x y Q => match x, y with
  | .list ds, .int i => ∃ d, atI ds i = some d ∧ Q (.d d)
  | .tuple ds, .int i => ∃ d, atI ds i = some d ∧ Q (.d d)
  | _, _ => False
theorem Sub.none {G H : Hp} {p : Addr} (s : Sub G H) (n : H p = none) : G p = none := none_sub s n
theorem AbsG.mk {k : Hp → VK → Prop} {G H : Hp} {v : V} {x : OP} {C : Prop} (s : Sub G H) (hv : ResOk H G H v x) (h : C → ∀ Q : VK, Q v H → k H Q) : AbsG k G H (fun Qp => C ∧ Qp x) :=
  fun Q Qp q kk => h q.1 Q (kk v x G H q.2 (.refl s) hv)
section
variable {X : Cx} {k : Nat}
theorem tupNew {G H : Hp} {vs : List V} {ds : List D} {p : Addr} (s : Sub G H) (h : DqA G vs ds) (n : H p = Option.none) : Ext (fun _ => False) G H (upd G p (.tup vs)) (upd H p (.tup vs)) ∧ ResOk H (upd G p (.tup vs)) (upd H p (.tup vs)) (.ref p) (.d (.tuple ds)) :=
  ⟨Ext.new s n _, show Dq _ _ _ from .tup upd_same (h.mono (Ext.new (S := fun _ => False) s n (.tup vs)).gk)⟩
theorem lstNew {G H : Hp} {vs : List V} {ds : List D} {p : Addr} (s : Sub G H) (h : DqA G vs ds) (n : H p = Option.none) : Ext (fun _ => False) G H G (upd H p (.lst vs)) ∧ ResOk H G (upd H p (.lst vs)) (.ref p) (.t (.list ds)) :=
  ⟨Ext.newT s n _, ⟨p, rfl, n, none_sub s n, .lst upd_same h⟩⟩
theorem og_add : OpG X (binaryOp .Add) addG := by
  refine ⟨_, op_add.or (op_cat.or op_catA), fun G H x y dx dy s hx hy Q Qp g kk => ?_⟩
  unfold addG at g
  split at g
  · cases hx.int; cases hy.int
    exact .inl ⟨_, _, rfl, rfl, kk _ (.d _) G H g (.refl s) (.int _)⟩
  · obtain ⟨a, xs, rfl, ha, qa⟩ := hx.lst s
    obtain ⟨b, ys, rfl, hb, qb⟩ := hy.lst s
    refine .inr (.inl ⟨a, b, xs, ys, rfl, rfl, ha, hb, by rw [qa.length, qb.length]; exact g.1, fun p n => ?_⟩)
    obtain ⟨e, r⟩ := lstNew s (qa.app qb) n
    exact kk _ _ _ _ g.2 e r
  · obtain ⟨a, xs, rfl, ha, ga, qa⟩ := hx.tup s
    obtain ⟨b, ys, rfl, hb, gb, qb⟩ := hy.tup s
    refine .inr (.inr ⟨a, b, xs, ys, rfl, rfl, SqT.of ha, SqT.of hb, by rw [qa.length, qb.length]; exact g.1, fun e => ?_, fun n e => ?_, fun _ _ p n => ?_⟩)
    · subst e
      cases qa
      exact kk _ (.d _) G H g.2 (.refl s) (show Dq _ _ _ from .tup gb qb)
    · subst e
      cases qb
      rw [List.append_nil] at g
      exact kk _ (.d _) G H g.2 (.refl s) (show Dq _ _ _ from .tup ga qa)
    · obtain ⟨e, r⟩ := tupNew s (qa.app qb) n
      exact kk _ _ _ _ g.2 e r
  · exact g.elim
theorem og_sub : OpG X (binaryOp .Sub) subG := by
  refine ⟨_, op_sub, fun G H x y dx dy s hx hy Q Qp g kk => ?_⟩
  unfold subG at g
  split at g
  · cases hx.int; cases hy.int
    exact ⟨_, _, rfl, rfl, kk _ (.d _) G H g (.refl s) (.int _)⟩
  · exact g.elim
theorem op_mulX : OpR X (binaryOp .Mult) (rI MulOk fun i j => .int (i * j)) := opI fun _ _ _ _ _ _ _ hc q => mul_int q hc
theorem og_mul : OpG X (binaryOp .Mult) mulG := by
  refine ⟨_, op_mulX.or op_rep, fun G H x y dx dy s hx hy Q Qp g kk => ?_⟩
  unfold mulG at g
  split at g
  · cases hx.int; cases hy.int
    exact .inl ⟨_, _, rfl, rfl, g.1, kk _ (.d _) G H g.2 (.refl s) (.int _)⟩
  · obtain ⟨a, xs, rfl, ha, qa⟩ := hx.lst s
    cases hy.int
    refine .inr ⟨a, _, xs, rfl, rfl, ha, g.1, g.2.1, by rw [qa.length]; exact g.2.2.1, fun p n => ?_⟩
    obtain ⟨e, r⟩ := lstNew s (qa.rep _) n
    exact kk _ _ _ _ g.2.2.2 e r
  · exact g.elim
theorem op_fdivX : OpR X (binaryOp .FloorDiv) (rI (fun _ j => j ≠ 0 ∧ j.natAbs.log2 < 9000) fun i j => .int (i.fdiv j)) := opI fun _ _ _ _ _ _ _ hc q => floordiv_int hc.1 q (.inl (PyProof.noPylong_of_log2 hc.2))
theorem og_fdiv : OpG X (binaryOp .FloorDiv) fdivG := by
  refine ⟨_, op_fdivX, fun G H x y dx dy s hx hy Q Qp g kk => ?_⟩
  unfold fdivG at g
  split at g
  · cases hx.int; cases hy.int
    exact ⟨_, _, rfl, rfl, ⟨g.1, g.2.1⟩, kk _ (.d _) G H g.2.2 (.refl s) (.int _)⟩
  · exact g.elim
theorem og_mod : OpG X (binaryOp .Mod) modG := by
  refine ⟨_, op_modN, fun G H x y dx dy s hx hy Q Qp g kk => ?_⟩
  unfold modG at g
  split at g
  · cases hx.int; cases hy.int
    exact ⟨_, _, rfl, rfl, g.1, kk _ (.d _) G H g.2 (.refl s) (.int _)⟩
  · exact g.elim
theorem ug_neg : UnG X (unaryOp .USub) negG := by
  refine ⟨_, un_neg, fun G H x dx s hx Q Qp g kk => ?_⟩
  unfold negG at g
  split at g
  · cases hx.int
    exact ⟨_, rfl, kk _ (.d _) G H g (.refl s) (.int _)⟩
  · exact g.elim
theorem og_cmp {op : CmpOp} {c : Int → Int → Bool} (h : OpR X (compareOp op) (rI0 fun i j => .bl (c i j))) : OpG X (compareOp op) (cmpG c) := by
  refine ⟨_, h, fun G H x y dx dy s hx hy Q Qp g kk => ?_⟩
  unfold cmpG at g
  split at g
  · cases hx.int; cases hy.int
    exact ⟨_, _, rfl, rfl, kk _ (.d _) G H g (.refl s) (.bl _)⟩
  · exact g.elim
abbrev ltG := cmpG fun i j => decide (i < j)
abbrev leG := cmpG fun i j => decide (i ≤ j)
abbrev gtG := cmpG fun i j => decide (j < i)
abbrev geG := cmpG fun i j => decide (j ≤ i)
theorem og_lt : OpG X (compareOp .Lt) ltG := og_cmp op_lt
theorem og_le : OpG X (compareOp .LtE) leG := og_cmp op_le
theorem og_gt : OpG X (compareOp .Gt) gtG := og_cmp op_gt
theorem og_ge : OpG X (compareOp .GtE) geG := og_cmp op_ge
mutual
theorem nodict_of_lay : ∀ {d : D}, d.canLay0 = true → nodict d = true
  | .none, _ => by simp [nodict]
  | .bool _, _ => by simp [nodict]
  | .int _, _ => by simp [nodict]
  | .str _, _ => by simp [nodict]
  | .list ds, h => by simp only [nodict]; exact nodicts_of_lay (by simpa [PyData.canLay0] using h)
  | .tuple ds, h => by simp only [nodict]; exact nodicts_of_lay (by simpa [PyData.canLay0] using h)
  | .dict _, h => by simp [PyData.canLay0] at h
theorem nodicts_of_lay : ∀ {ds : List D}, PyData.canLayAll0 ds = true → nodicts ds = true
  | [], _ => by simp [nodicts]
  | d :: ds, h => by
    simp only [PyData.canLayAll0, Bool.and_eq_true] at h
    simp only [nodicts, Bool.and_eq_true]
    exact ⟨nodict_of_lay h.1, nodicts_of_lay h.2⟩
end
theorem Sh.dp {K : PySem.W.Frag} {G H : Hp} {v : V} {d : D} (h : Sh G H v d) (s : Sub G H) (hs : SeqAt.shaped d = true) : Dp K H v d := (h.dq s).dp (nodict_of_lay (SeqAt.canLay_of_shaped hs))
theorem cmpb_or {x y : D} (h : cmpb x y = true) : (SeqAt.shaped x = true ∧ SeqAt.shaped y = true) ∨ ∃ a b, x = .str a ∧ y = .str b := by
  unfold cmpb at h
  rw [Bool.or_eq_true, Bool.and_eq_true, Bool.and_eq_true] at h
  refine h.imp id fun ⟨h1, h2⟩ => ?_
  cases x <;> first | cases h1 | skip
  cases y <;> first | cases h2 | skip
  exact ⟨_, _, rfl, rfl⟩
theorem dec_str {a b : Str} : decide (V.str a = V.str b) = (a == b) := by
  rw [Bool.eq_iff_iff]
  simp
theorem og_eq (hr : Room k X.A) : OpG X (compareOp .Eq) eqG := by
  refine ⟨_, (op_eqD hr.units).or op_eq, fun G H x y dx dy s hx hy Q Qp g kk => ?_⟩
  rcases cmpb_or g.1 with ⟨g1, g2⟩ | ⟨a, b, rfl, rfl⟩
  · exact .inl ⟨dx, dy, hx.dp s g1, hy.dp s g2, g1, g2, kk _ (.d _) G H g.2 (.refl s) (.bl _)⟩
  · have e1 := hx.str
    have e2 := hy.str
    subst e1 e2
    refine .inr ⟨rfl, kk _ (.d _) G H g.2 (.refl s) ?_⟩
    rw [dec_str]
    exact .bl _
theorem og_ne (hr : Room k X.A) : OpG X (compareOp .NotEq) neG := by
  refine ⟨_, (op_neD hr.units).or op_ne, fun G H x y dx dy s hx hy Q Qp g kk => ?_⟩
  rcases cmpb_or g.1 with ⟨g1, g2⟩ | ⟨a, b, rfl, rfl⟩
  · exact .inl ⟨dx, dy, hx.dp s g1, hy.dp s g2, g1, g2, kk _ (.d _) G H g.2 (.refl s) (.bl _)⟩
  · have e1 := hx.str
    have e2 := hy.str
    subst e1 e2
    refine .inr ⟨rfl, kk _ (.d _) G H g.2 (.refl s) ?_⟩
    rw [dec_str]
    exact .bl _
def rInT (K : PySem.W.Frag) : R2 := fun x y H Q => ∃ d ds, Dp K H x d ∧ Dp K H y (.tuple ds) ∧ SeqAt.shaped d = true ∧ SeqAt.shaped (.tuple ds) = true ∧ Q (.bl (ds.any fun z => PyData.eqv z d)) H
def rNotInT (K : PySem.W.Frag) : R2 := fun x y H Q => ∃ d ds, Dp K H x d ∧ Dp K H y (.tuple ds) ∧ SeqAt.shaped d = true ∧ SeqAt.shaped (.tuple ds) = true ∧ Q (.bl (!ds.any fun z => PyData.eqv z d)) H
theorem op_inT (hu : X.A.units + 65 < cLine) : OpR X (compareOp .In) (rInT X.K) := by
  intro pins s σ H x y v u Q I rx ry h
  obtain ⟨d, ds, hd, he, sd, se, q⟩ := h
  obtain ⟨as, r1⟩ := Dp.reads I d x v hd rx
  obtain ⟨bs, r2⟩ := Dp.reads I (.tuple ds) y u he ry
  exact SeqAt.in_tuple_reads r2 r1 (SeqAt.canLay_of_shaped se) (SeqAt.canLay_of_shaped sd) (room_in_shaped sd hu) ⟨.bl _, H, I, rfl, q⟩
theorem op_notInT (hu : X.A.units + 65 < cLine) : OpR X (compareOp .NotIn) (rNotInT X.K) := by
  intro pins s σ H x y v u Q I rx ry h
  obtain ⟨d, ds, hd, he, sd, se, q⟩ := h
  obtain ⟨as, r1⟩ := Dp.reads I d x v hd rx
  obtain ⟨bs, r2⟩ := Dp.reads I (.tuple ds) y u he ry
  exact SeqAt.notIn_tuple_reads r2 r1 (SeqAt.canLay_of_shaped se) (SeqAt.canLay_of_shaped sd) (room_in_shaped sd hu) ⟨.bl _, H, I, rfl, q⟩
theorem units65 (hr : Room k X.A) : X.A.units + 65 < cLine := by have := hr.un; omega
theorem og_in (hr : Room k X.A) : OpG X (compareOp .In) inG := by
  refine ⟨_, (op_inD (units65 hr)).or (op_inT (units65 hr)), fun G H x y dx dy s hx hy Q Qp g kk => ?_⟩
  unfold inG at g
  split at g
  · exact .inl ⟨dx, _, hx.dp s g.1, hy.dp s g.2.1, g.1, g.2.1, kk _ (.d _) G H g.2.2 (.refl s) (.bl _)⟩
  · exact .inr ⟨dx, _, hx.dp s g.1, hy.dp s g.2.1, g.1, g.2.1, kk _ (.d _) G H g.2.2 (.refl s) (.bl _)⟩
  · exact g.elim
theorem og_notIn (hr : Room k X.A) : OpG X (compareOp .NotIn) notInG := by
  refine ⟨_, (op_notInD (units65 hr)).or (op_notInT (units65 hr)), fun G H x y dx dy s hx hy Q Qp g kk => ?_⟩
  unfold notInG at g
  split at g
  · exact .inl ⟨dx, _, hx.dp s g.1, hy.dp s g.2.1, g.1, g.2.1, kk _ (.d _) G H g.2.2 (.refl s) (.bl _)⟩
  · exact .inr ⟨dx, _, hx.dp s g.1, hy.dp s g.2.1, g.1, g.2.1, kk _ (.d _) G H g.2.2 (.refl s) (.bl _)⟩
  · exact g.elim
theorem Sh.isN {G H : Hp} {v : V} {d : D} (h : Sh G H v d) : decide (v = .non) = isNone d := by
  rcases h with h | ⟨a, rfl, o⟩
  · cases h <;> simp [isNone]
  · cases o <;> simp [isNone]
theorem og_is : OpG X (compareOp .Is) isG := by
  refine ⟨_, op_isN, fun G H x y dx dy s hx hy Q Qp g kk => ?_⟩
  unfold isG at g
  split at g
  · exact ⟨hy.non, kk _ (.d _) G H g (.refl s) (by rw [hx.isN]; exact .bl _)⟩
  · exact g.elim
theorem og_isNot : OpG X (compareOp .IsNot) isNotG := by
  refine ⟨_, op_notN, fun G H x y dx dy s hx hy Q Qp g kk => ?_⟩
  unfold isNotG at g
  split at g
  · exact ⟨hy.non, kk _ (.d _) G H g (.refl s) (by rw [hx.isN]; exact .bl _)⟩
  · exact g.elim
theorem atI_dq {G : Hp} {vs : List V} {ds : List D} {i : Int} {d : D} (h : DqA G vs ds) (e : atI ds i = some d) : ∃ v, atI vs i = some v ∧ Dq G v d := by
  unfold atI at e ⊢
  rw [h.length]
  cases q : ixN ds.length i with
  | none => rw [q] at e; cases e
  | some j =>
    rw [q] at e
    exact h.get (by simpa using e)
theorem ig_idx : IxG X idxG := by
  refine ⟨_, ix_list.or ix_tup, fun G H x y dx dy s hx hy Q Qp g kk => ?_⟩
  unfold idxG at g
  split at g
  · obtain ⟨d, e, g⟩ := g
    obtain ⟨a, xs, rfl, ha, qa⟩ := hx.lst s
    cases hy.int
    obtain ⟨v, hv, qv⟩ := atI_dq qa e
    exact .inl ⟨a, xs, _, v, rfl, rfl, SqL.of ha, hv, kk _ (.d _) G H g (.refl s) qv⟩
  · obtain ⟨d, e, g⟩ := g
    obtain ⟨a, xs, rfl, ha, _, qa⟩ := hx.tup s
    cases hy.int
    obtain ⟨v, hv, qv⟩ := atI_dq qa e
    exact .inr ⟨a, xs, _, v, rfl, rfl, SqT.of ha, hv, kk _ (.d _) G H g (.refl s) qv⟩
  · exact g.elim
/-! ### built-in functions -/
def lenG : GN := fun xs Q => match xs with
  | [.list ds] => Q (.d (.int ds.length))
  | [.tuple ds] => Q (.d (.int ds.length))
  | _ => False
theorem ShA.one {G H : Hp} {vs : List V} {d : D} (h : ShA G H vs [d]) : ∃ v, vs = [v] ∧ Sh G H v d := by
  cases h with
  | cons h t => cases t; exact ⟨_, rfl, h⟩
theorem ShA.two {G H : Hp} {vs : List V} {d e : D} (h : ShA G H vs [d, e]) : ∃ v w, vs = [v, w] ∧ Sh G H v d ∧ Sh G H w e := by
  cases h with
  | cons h t => obtain ⟨w, rfl, q⟩ := t.one; exact ⟨_, w, rfl, h, q⟩
theorem cg_len : CallG X (.builtin "len") lenG := by
  refine ⟨_, call_len_seq, fun G H xs ds s h Q Qp g kk => ?_⟩
  unfold lenG at g
  split at g
  · obtain ⟨v, rfl, hv⟩ := h.one
    obtain ⟨a, ys, rfl, ha, qa⟩ := hv.lst s
    exact ⟨a, ys, rfl, .inl (SqL.of ha), kk _ (.d _) G H g (.refl s) (by rw [qa.length]; exact .int _)⟩
  · obtain ⟨v, rfl, hv⟩ := h.one
    obtain ⟨a, ys, rfl, ha, _, qa⟩ := hv.tup s
    exact ⟨a, ys, rfl, .inr (SqT.of ha), kk _ (.d _) G H g (.refl s) (by rw [qa.length]; exact .int _)⟩
  · exact g.elim
def sumG : GN := fun xs Q => match xs with
  | [.list ds] => ∃ ns : List Int, ds = ns.map .int ∧ Q (.d (.int ns.sum))
  | _ => False
theorem cg_sum (hc : X.calm = true) : CallG X (.builtin "sum") sumG := by
  refine ⟨_, cr_sum hc, fun G H xs ds s h Q Qp g kk => ?_⟩
  unfold sumG at g
  split at g
  · obtain ⟨ns, rfl, g⟩ := g
    obtain ⟨v, rfl, hv⟩ := h.one
    obtain ⟨a, ys, rfl, ha, qa⟩ := hv.lst s
    rw [qa.of_ints] at ha
    exact ⟨a, ns, rfl, SqL.of ha, kk _ (.d _) G H g (.refl s) (.int _)⟩
  · exact g.elim
def maxLG : GN := fun xs Q => match xs with
  | [.list ds] => ∃ ns : List Int, ds = ns.map .int ∧ 0 < ns.length ∧ ∀ m, m ∈ ns → (∀ y, y ∈ ns → y ≤ m) → Q (.d (.int m))
  | _ => False
def minLG : GN := fun xs Q => match xs with
  | [.list ds] => ∃ ns : List Int, ds = ns.map .int ∧ 0 < ns.length ∧ ∀ m, m ∈ ns → (∀ y, y ∈ ns → m ≤ y) → Q (.d (.int m))
  | _ => False
theorem cg_maxL (hc : X.calm = true) : CallG X (.builtin "max") maxLG := by
  refine ⟨_, cr_max hc, fun G H xs ds s h Q Qp g kk => ?_⟩
  unfold maxLG at g
  split at g
  · obtain ⟨ns, rfl, hl, g⟩ := g
    obtain ⟨v, rfl, hv⟩ := h.one
    obtain ⟨a, ys, rfl, ha, qa⟩ := hv.lst s
    rw [qa.of_ints] at ha
    exact ⟨a, ns, rfl, SqL.of ha, hl, fun m h1 h2 => kk _ (.d _) G H (g m h1 h2) (.refl s) (.int _)⟩
  · exact g.elim
theorem cg_minL (hc : X.calm = true) : CallG X (.builtin "min") minLG := by
  refine ⟨_, cr_min hc, fun G H xs ds s h Q Qp g kk => ?_⟩
  unfold minLG at g
  split at g
  · obtain ⟨ns, rfl, hl, g⟩ := g
    obtain ⟨v, rfl, hv⟩ := h.one
    obtain ⟨a, ys, rfl, ha, qa⟩ := hv.lst s
    rw [qa.of_ints] at ha
    exact ⟨a, ns, rfl, SqL.of ha, hl, fun m h1 h2 => kk _ (.d _) G H (g m h1 h2) (.refl s) (.int _)⟩
  · exact g.elim
def max2G : GN := fun xs Q => match xs with
  | [.int a, .int b] => Q (.d (.int (max a b)))
  | _ => False
def min2G : GN := fun xs Q => match xs with
  | [.int a, .int b] => Q (.d (.int (min a b)))
  | _ => False
theorem cg_max2 (hc : X.calm = true) : CallG X (.builtin "max") max2G := by
  refine ⟨_, call_max2 hc, fun G H xs ds s h Q Qp g kk => ?_⟩
  unfold max2G at g
  split at g
  · obtain ⟨v, w, rfl, hv, hw⟩ := h.two
    cases hv.int; cases hw.int
    rename_i a b
    have e : (if b > a then b else a) = max a b := by split <;> omega
    exact ⟨_, _, rfl, by rw [e]; exact kk _ (.d _) G H g (.refl s) (.int _)⟩
  · exact g.elim
theorem cg_min2 (hc : X.calm = true) : CallG X (.builtin "min") min2G := by
  refine ⟨_, call_min2 hc, fun G H xs ds s h Q Qp g kk => ?_⟩
  unfold min2G at g
  split at g
  · obtain ⟨v, w, rfl, hv, hw⟩ := h.two
    cases hv.int; cases hw.int
    rename_i a b
    have e : (if b < a then b else a) = min a b := by split <;> omega
    exact ⟨_, _, rfl, by rw [e]; exact kk _ (.d _) G H g (.refl s) (.int _)⟩
  · exact g.elim
def absIG : GN := fun xs Q => match xs with
  | [.int a] => Q (.d (.int (a.natAbs : Nat)))
  | _ => False
theorem cg_abs : CallG X (.builtin "abs") absIG := by
  refine ⟨_, call_abs, fun G H xs ds s h Q Qp g kk => ?_⟩
  unfold absIG at g
  split at g
  · obtain ⟨v, rfl, hv⟩ := h.one
    cases hv.int
    rename_i a
    have e : (if a < 0 then -a else a) = (a.natAbs : Int) := by split <;> omega
    exact ⟨_, rfl, by rw [e]; exact kk _ (.d _) G H g (.refl s) (.int _)⟩
  · exact g.elim
def intG : GN := fun xs Q => match xs with
  | [.int a] => Q (.d (.int a))
  | [.bool b] => Q (.d (.int (if b then 1 else 0)))
  | _ => False
theorem cg_int : CallG X (.type "int") intG := by
  refine ⟨_, call_int1, fun G H xs ds s h Q Qp g kk => ?_⟩
  unfold intG at g
  split at g
  · obtain ⟨v, rfl, hv⟩ := h.one
    cases hv.int
    exact .inl ⟨_, rfl, kk _ (.d _) G H g (.refl s) (.int _)⟩
  · obtain ⟨v, rfl, hv⟩ := h.one
    cases hv.bl
    exact .inr ⟨_, rfl, kk _ (.d _) G H g (.refl s) (.int _)⟩
  · exact g.elim
def listG : GN := fun xs Q => match xs with
  | [.list ds] => Q (.t (.list ds))
  | [.tuple ds] => Q (.t (.list ds))
  | _ => False
theorem cg_list : CallG X (.type "list") listG := by
  refine ⟨_, call_list_of, fun G H xs ds s h Q Qp g kk => ?_⟩
  unfold listG at g
  split at g
  · obtain ⟨v, rfl, hv⟩ := h.one
    obtain ⟨a, ys, rfl, ha, qa⟩ := hv.lst s
    exact ⟨a, ys, rfl, .inl (SqL.of ha), fun p n => let ⟨e, r⟩ := lstNew s qa n; kk _ _ _ _ g e r⟩
  · obtain ⟨v, rfl, hv⟩ := h.one
    obtain ⟨a, ys, rfl, ha, _, qa⟩ := hv.tup s
    exact ⟨a, ys, rfl, .inr (SqT.of ha), fun p n => let ⟨e, r⟩ := lstNew s qa n; kk _ _ _ _ g e r⟩
  · exact g.elim
def tupleG : GN := fun xs Q => match xs with
  | [.list ds] => Q (.d (.tuple ds))
  | [.tuple ds] => Q (.d (.tuple ds))
  | _ => False
theorem cg_tuple : CallG X (.type "tuple") tupleG := by
  refine ⟨_, call_tuple_of, fun G H xs ds s h Q Qp g kk => ?_⟩
  unfold tupleG at g
  split at g
  · obtain ⟨v, rfl, hv⟩ := h.one
    obtain ⟨a, ys, rfl, ha, qa⟩ := hv.lst s
    exact ⟨a, ys, rfl, .inl ⟨SqL.of ha, fun p n => let ⟨e, r⟩ := tupNew s qa n; kk _ _ _ _ g e r⟩⟩
  · obtain ⟨v, rfl, hv⟩ := h.one
    obtain ⟨a, ys, rfl, ha, ga, qa⟩ := hv.tup s
    exact ⟨a, ys, rfl, .inr ⟨SqT.of ha, kk _ (.d _) G H g (.refl s) (show Dq _ _ _ from .tup ga qa)⟩⟩
  · exact g.elim
def allG : GN := fun xs Q => match xs with
  | [.list ds] => ∃ bs : List Bool, ds = bs.map .bool ∧ Q (.d (.bool (bs.all id)))
  | _ => False
def anyG : GN := fun xs Q => match xs with
  | [.list ds] => ∃ bs : List Bool, ds = bs.map .bool ∧ Q (.d (.bool (bs.any id)))
  | _ => False
theorem cg_all (hc : X.calm = true) : CallG X (.builtin "all") allG := by
  refine ⟨_, cr_all hc, fun G H xs ds s h Q Qp g kk => ?_⟩
  unfold allG at g
  split at g
  · obtain ⟨ns, rfl, g⟩ := g
    obtain ⟨v, rfl, hv⟩ := h.one
    obtain ⟨a, ys, rfl, ha, qa⟩ := hv.lst s
    rw [qa.of_bls] at ha
    exact ⟨a, ns, rfl, SqL.of ha, kk _ (.d _) G H g (.refl s) (.bl _)⟩
  · exact g.elim
theorem cg_any (hc : X.calm = true) : CallG X (.builtin "any") anyG := by
  refine ⟨_, cr_any hc, fun G H xs ds s h Q Qp g kk => ?_⟩
  unfold anyG at g
  split at g
  · obtain ⟨ns, rfl, g⟩ := g
    obtain ⟨v, rfl, hv⟩ := h.one
    obtain ⟨a, ys, rfl, ha, qa⟩ := hv.lst s
    rw [qa.of_bls] at ha
    exact ⟨a, ns, rfl, SqL.of ha, kk _ (.d _) G H g (.refl s) (.bl _)⟩
  · exact g.elim
/-- repr of data -/
def reprG : GN := fun xs Q => match xs with
  | [d] => nodict d = true ∧ PyData.showable d = true ∧ (PyData.shown d).length ≤ sizeLine ∧ Q (.d (.str (PyData.shown d)))
  | _ => False
end
end L3
set_option Elab.async false
set_option linter.all false
set_option maxRecDepth 100000
set_option maxHeartbeats 1000000
namespace L3
open PySem PySem.Spec PyProof.Rows L2
/-! ### repr -/
section
variable {X : Cx} {k : Nat}
def rRepr (K : PySem.W.Frag) : List V → Hp → VK → Prop := fun xs H Q => ∃ v d, xs = [v] ∧ Dp K H v d ∧ nodict d = true ∧ d.depth ≤ 60 ∧ PyData.showable d = true ∧ (PyData.shown d).length ≤ sizeLine ∧ Q (.str (PyData.shown d)) H
mutual
theorem hasDict_no : ∀ {d : D}, nodict d = true → d.hasDict = false
  | .none, _ => by simp [PyData.hasDict]
  | .bool _, _ => by simp [PyData.hasDict]
  | .int _, _ => by simp [PyData.hasDict]
  | .str _, _ => by simp [PyData.hasDict]
  | .list ds, h => by simp only [PyData.hasDict]; exact hasDictA_no (by simpa [nodict] using h)
  | .tuple ds, h => by simp only [PyData.hasDict]; exact hasDictA_no (by simpa [nodict] using h)
  | .dict _, h => by simp [nodict] at h
theorem hasDictA_no : ∀ {ds : List D}, nodicts ds = true → PyData.hasDictAll ds = false
  | [], _ => by simp [PyData.hasDictAll]
  | d :: ds, h => by
    simp only [nodicts, Bool.and_eq_true] at h
    simp only [PyData.hasDictAll, hasDict_no h.1, hasDictA_no h.2, Bool.or_self]
end
theorem cr_repr (hr : Room k X.A) (hg : X.A.guards = some []) : CallR X (.builtin "repr") (rRepr X.K) := by
  intro pins s σ H xs us Q I r h
  obtain ⟨v, d, rfl, hd, hn, hdep, hs, hz, q⟩ := h
  obtain ⟨u, rfl, ru⟩ := vals1 r
  obtain ⟨as, rd⟩ := Dp.reads I d v u hd ru
  have units : X.A.units + (d.depth + 1) < cLine := by have := hr.un; omega
  have big : ∀ a, u = .ref a → wpAny (model X.prog X.w) X.A (call (.builtin "repr") [u]) (EP X pins σ Q) X.xe s := by
    intro a e
    subst e
    refine repr_of_reads' rd hs (PyData.noDict_hsm (hasDict_no hn)) hg units (fun _ _ e => e) (fun h' t tk kp => ?_) hz
    exact ⟨.str _, H, I.kept (t' := tk) kp, ⟨t, rfl⟩, q⟩
  cases hd with
  | non =>
    have ru : u = Value.none := ru
    subst ru
    exact PySem.P.repr_of_none ⟨.str _, H, I.tok _, ⟨_, rfl⟩, by simpa [PyData.shown] using q⟩
  | bl b =>
    have ru : u = Value.bool b := ru
    subst ru
    exact PySem.P.repr_of_bool ⟨.str _, H, I.tok _, ⟨_, rfl⟩, by simpa [PyData.shown] using q⟩
  | int i =>
    obtain ⟨t, rfl⟩ := ru
    exact PySem.P.repr_of_int (by simpa [PyData.showable] using hs) ⟨.str _, H, I.tok _, ⟨_, rfl⟩, by simpa [PyData.shown] using q⟩
  | str x =>
    obtain ⟨t, rfl⟩ := ru
    exact PySem.P.repr_of_str ⟨.str _, H, I.tok _, ⟨_, rfl⟩, by simpa [PyData.shown] using q⟩ (by simpa [PyData.shown] using hz)
  | lst _ _ => exact big _ ru
  | tup _ _ => exact big _ ru
def reprG' : GN := fun xs Q => match xs with
  | [d] => nodict d = true ∧ d.depth ≤ 60 ∧ PyData.showable d = true ∧ (PyData.shown d).length ≤ sizeLine ∧ Q (.d (.str (PyData.shown d)))
  | _ => False
theorem cg_repr (hr : Room k X.A) (hg : X.A.guards = some []) : CallG X (.builtin "repr") reprG' := by
  refine ⟨_, cr_repr hr hg, fun G H xs ds s h Q Qp g kk => ?_⟩
  unfold reprG' at g
  split at g
  · obtain ⟨v, rfl, hv⟩ := h.one
    exact ⟨v, _, rfl, (hv.dq s).dp g.1, g.1, g.2.1, g.2.2.1, g.2.2.2.1, kk _ (.d _) G H g.2.2.2.2 (.refl s) (.str _)⟩
  · exact g.elim
end
/-! ### slices -/
def cutD (ds : List D) (lo hi : Option Int) : List D := (ds.drop (HT.sIx ds.length 0 lo)).take (HT.sIx ds.length ds.length hi - HT.sIx ds.length 0 lo)
theorem DqA.cut {G : Hp} {vs : List V} {ds : List D} (h : DqA G vs ds) (lo hi : Option Int) : DqA G (cutV vs lo hi) (cutD ds lo hi) := by
  unfold cutV cutD
  rw [h.length]
  exact (h.drop _).take _
abbrev PTO := PSt → (Option Int → PSt → Prop) → Prop
def AbsO (t : TO) (p : PTO) : Prop := ∀ (E : Ent) f sr ρ σ G H (Q : Option Int → Hp → Prop) (Qp : Option Int → PSt → Prop), ER E f sr ρ σ G H → p ρ Qp →
  (∀ b f' ρ' G' H', Qp b ρ' → (∀ a, f' a ≠ none → f' a = f a) → ER E f' sr ρ' σ G' H' → Ext (Spc f sr) G H G' H' → Q b H') → t σ H Q
def QO (X : Cx) (e : Option Expr) (p : PTO) : Prop := ∃ t, PO X e t ∧ AbsO t p
def pNoPart : PTO := fun ρ Q => Q none ρ
def pPart (p : PTE) : PTO := fun ρ Q => p ρ fun x ρ1 => match x with
  | .d (.int i) => Q (some i) ρ1
  | _ => False
section
variable {X : Cx} {e : Expr} {p : PTE} {pos : Pos}
theorem qo_none : QO X none pNoPart := ⟨_, po_none, fun E f sr ρ σ G H Q Qp R h k => k none f ρ G H h (fun _ _ => rfl) R (.refl R.sub)⟩
theorem qo_some (h : QE X e p) : QO X (some e) (pPart p) := by
  obtain ⟨t, h1, h2⟩ := h
  refine ⟨_, po_some h1, ?_⟩
  intro E f sr ρ σ G H Q Qp R hp k
  refine h2 E f sr ρ σ G H _ _ R hp fun v x f1 ρ1 G1 H1 h1 le1 R1 e1 o1 => ?_
  split at h1
  · rename_i i
    cases (show Dq G1 v (.int i) from o1)
    exact ⟨i, rfl, k _ _ _ _ _ h1 le1 R1 e1⟩
  · exact h1.elim
def sliceG : D → Option Int → Option Int → (OP → Prop) → Prop := fun d lo hi Q => match d with
  | .list ds => Q (.t (.list (cutD ds lo hi)))
  | .tuple ds => Q (.d (.tuple (cutD ds lo hi)))
  | _ => False
def pSl (p : PTE) (pl ph : PTO) : PTE := fun ρ Q => p ρ fun x ρ1 => pl ρ1 fun lo ρ2 => ph ρ2 fun hi ρ3 => x.rd ρ3 fun d => sliceG d lo hi fun z => Q z ρ3
theorem sIx_le' (n d : Nat) (hd : d ≤ n) (o : Option Int) : HT.sIx n d o ≤ n := HT.sIx_le n d hd o
theorem cutD_whole {ds : List D} {lo hi : Option Int} (h1 : HT.sIx ds.length 0 lo = 0) (h2 : HT.sIx ds.length ds.length hi = ds.length) : cutD ds lo hi = ds := by
  unfold cutD
  rw [h1, h2]
  simp
theorem q_slice {lo hi : Option Expr} {p2 : Pos} {pl ph : PTO} (he : QE X e p) (hl : QO X lo pl) (hu : QO X hi ph) : QE X (.Subscript e (.Slice lo hi none p2) pos) (pSl p pl ph) := by
  obtain ⟨t, a1, a2⟩ := he
  obtain ⟨tl, b1, b2⟩ := hl
  obtain ⟨th, c1, c2⟩ := hu
  refine ⟨_, pe_slice (sl_list.or sl_tupA) a1 b1 c1, ?_⟩
  intro E f sr ρ σ G H Q Qp R hp k
  refine a2 E f sr ρ σ G H _ _ R hp fun v x f1 ρ1 G1 H1 h1 le1 R1 e1 o1 => ?_
  refine b2 E f1 sr ρ1 σ G1 H1 _ _ R1 h1 fun lo f2 ρ2 G2 H2 h2 le2 R2 e2 => ?_
  refine c2 E f2 sr ρ2 σ G2 H2 _ _ R2 h2 fun hi f3 ρ3 G3 H3 h3 le3 R3 e3 => ?_
  obtain ⟨d, sd, g⟩ := ((o1.keep le2 e2).keep le3 e3).rd R3 h3
  have le13 := fle.trans (fle.trans le1 le2) le3
  have e13 := (e1.then le1 e2).then (fle.trans le1 le2) e3
  have fin : ∀ w z G4 H4, Qp z ρ3 → Ext (fun _ => False) G3 H3 G4 H4 → ResOk H3 G4 H4 w z → Q w H4 := fun w z G4 H4 q e4 ro =>
    k w z f3 ρ3 G4 H4 q le13 (R3.pure e4) (e13.trans e4 fun _ z => z.elim) (R3.res e4 ro fun a n => e13.none_of n)
  unfold sliceG at g
  split at g
  · obtain ⟨a, xs, rfl, ha, qa⟩ := sd.lst R3.sub
    exact .inl ⟨a, xs, rfl, SqL.of ha, fun p n => let ⟨e, r⟩ := lstNew R3.sub (qa.cut lo hi) n; fin _ _ _ _ g e r⟩
  · obtain ⟨a, xs, rfl, ha, ga, qa⟩ := sd.tup R3.sub
    refine .inr ⟨a, xs, rfl, SqT.of ha, fun ⟨w1, w2⟩ => ?_, fun _ p n => let ⟨e, r⟩ := tupNew R3.sub (qa.cut lo hi) n; fin _ _ _ _ g e r⟩
    rw [qa.length] at w1 w2
    rw [cutD_whole w1 w2] at g
    exact fin _ (.d _) G3 H3 g (.refl R3.sub) (show Dq _ _ _ from .tup ga qa)
  · exact g.elim
end
/-! ### xs[::-1] -/
section
variable {prog : Program} {w : World} {A : Around} {E : Value → Shared → Prop} {s : Shared}
theorem places_rev (n : Nat) : Builtin.Slice.slicePlaces ((n : Int) - 1) (-1) (-1) = n := by
  unfold Builtin.Slice.slicePlaces
  rw [if_neg (by decide)]
  by_cases h : (n : Int) - 1 > -1
  · rw [if_pos h]
    have : (n : Int) - 1 - -1 - 1 = (n : Int) - 1 := by omega
    rw [this, show (- -1 : Int) = 1 by decide, Int.ediv_one]
    omega
  · rw [if_neg h]; omega
theorem filterMap_some {α β : Type} {f : α → Option β} {g : α → β} : ∀ {l : List α}, (∀ m ∈ l, f m = some (g m)) → l.filterMap f = l.map g
  | [], _ => rfl
  | x :: l, h => by rw [List.filterMap_cons, h x (by simp), List.map_cons, filterMap_some fun m hm => h m (by simp [hm])]
theorem pick_rev (xs : Array Value) : ((List.range xs.size).filterMap fun (m : Nat) => xs[((xs.size : Int) - 1 + (m : Int) * -1).toNat]?).toArray = xs.toList.reverse.toArray := by
  congr 1
  apply List.ext_getElem?
  intro i
  have all : ∀ m ∈ List.range xs.size, xs[((xs.size : Int) - 1 + (m : Int) * -1).toNat]? = some (xs[xs.size - 1 - m]?.getD .none) := by
    intro m hm
    have hm := List.mem_range.mp hm
    have e : ((xs.size : Int) - 1 + (m : Int) * -1).toNat = xs.size - 1 - m := by omega
    rw [e, Array.getElem?_eq_getElem (by omega)]
    rfl
  rw [filterMap_some all, List.getElem?_map]
  by_cases hi : i < xs.size
  · rw [List.getElem?_range hi, List.getElem?_reverse (by simpa using hi)]
    simp only [Option.map_some, Array.length_toList, Array.getElem?_toList]
    rw [Array.getElem?_eq_getElem (by omega)]
    rfl
  · rw [List.getElem?_eq_none (by simpa using hi), List.getElem?_eq_none (by simpa using hi)]
    rfl
theorem getItem_tuple_rev {t sl : Addr} {items : Array Value} {vk : Value} {Q : Value → Shared → Prop} (ht : IsTup s.heap t items) (hs : s.heap.IsSliceOf sl .none .none vk) (pk : IsPart vk (some (-1)))
    (h : Q (.ref s.heap.objs.size) { s with heap := s.heap.push { cls := .type "tuple", data := .seq items.toList.reverse.toArray } }) (hsz : items.size ≤ sizeLine) : wpAny (model prog w) A (getItem (.ref t) (.ref sl)) Q E s := by
  obtain ⟨os, hos, hcs, hds⟩ := id hs
  have isSlice : s.TypeIs (.ref sl) "slice" := ⟨os, hos, hcs⟩
  have room : sizeOk (.seq items.toList.reverse.toArray) := by
    show items.toList.reverse.toArray.size ≤ sizeLine
    simpa using hsz
  unfold getItem
  refine wpAny_holding (wpAny_bind (wpAny_sequenceKey ht.typeIs (by decide) ?_))
  apply wpAny_bind
  refine wpAny_callSpecial?_slot (name := Str.ofString "__getitem__") ht.typeIs PyProof.Rows.slot_tuple_getitem (wpAny_call_entry PyProof.Rows.slot_tuple_getitem ht.typeIs entry_tuple_getitem ?_ (args_tuple_getitem _ _))
  show wpAny _ _ (Builtin.Tuple.tupleItemsOf (.ref t) >>= _) _ _ s
  refine wpAny_bind (tupleItemsOf_ ht (wpAny_bind (wpAny_typeOf isSlice ?_)))
  rw [if_pos (by decide)]
  apply wpAny_bind
  unfold Builtin.Slice.sliceApplied Builtin.Slice.sliceFields
  refine wpAny_bind (wpAny_bind (wpAny_field hos hds (x := .none) rfl (wpAny_bind (wpAny_field hos hds (x := .none) rfl (wpAny_bind (wpAny_field hos hds (x := vk) rfl (wpAny_pure ?_)))))))
  refine wpAny_bind (HT.slicePart_ pk ?_)
  show wpAny _ _ (if ((-1 : Int) == 0) = true then _ else _) _ _ s
  rw [if_neg (by decide)]
  refine wpAny_bind (HT.slicePart_ .none (wpAny_bind (HT.slicePart_ .none (wpAny_bind (wpAny_pure ?_)))))
  show wpAny _ _ (pure ((items.size : Int) - 1, (-1 : Int), Builtin.Slice.slicePlaces ((items.size : Int) - 1) (-1) (-1))) _ _ s
  rw [places_rev]
  refine wpAny_pure ?_
  have no : ¬ ((((items.size : Int) - 1) == 0 && (-1 : Int) == 1 && items.size == items.size) = true) := by
    rw [show ((-1 : Int) == 1) = false by decide, Bool.and_false, Bool.false_and]; decide
  show wpAny _ _ (if (((items.size : Int) - 1) == 0 && (-1 : Int) == 1 && items.size == items.size) = true then _ else _) _ _ s
  rw [if_neg no, pick_rev]
  first
    | exact wpAny_bind (m := Builtin.Tuple.tupleExact _) (wpAny_newObj_type (wpAny_pure ⟨_, rfl, wpAny_pure h⟩) room)
    | exact wpAny_bind (wpAny_bind (m := Builtin.Tuple.tupleExact _) (wpAny_newObj_type (wpAny_pure (wpAny_pure ⟨_, rfl, wpAny_pure h⟩)) room))
    | exact wpAny_bind (wpAny_bind (m := Builtin.Tuple.tupleExact _) (wpAny_newObj_type (wpAny_pure ⟨_, rfl, wpAny_pure h⟩) room))
end
section
variable {X : Cx} {e : Expr} {p : PTE} {pos : Pos}
def tRev (K : PySem.W.Frag) (te : TE) : TE := fun σ H Q => te σ H fun x H1 => ∃ a xs, x = .ref a ∧ ((SqL K H1 a xs ∧ ∀ p, H1 p = none → Q (.ref p) (upd H1 p (.lst xs.reverse))) ∨ (SqT K H1 a xs ∧ ∀ p, H1 p = none → Q (.ref p) (upd H1 p (.tup xs.reverse))))
theorem pe_rev {te : TE} {k : Nat} {p1 p2 p3 : Pos} (he : PE X e te) : PE X (.Subscript e (.Slice none none (some (.UnaryOp .USub (.Constant (.int 1) k p1) p2)) p3) pos) (tRev X.K te) := by
  constructor
  intro pins s σ H Q I h
  refine Subscript_ (thn (he.run pins s σ H _ I h) ?_)
  rintro v s1 ⟨x, H1, I1, r1, a, xs, rfl, q⟩
  cases r1
  have step : PO X (some (.UnaryOp .USub (.Constant (.int 1) k p1) p2)) (tPart (tUn (rU fun i => .int (-i)) (tC (.int 1)))) := po_some (pe_un un_neg pe_int)
  refine wpAny_Slice (thn (po_none.run pins s1 σ H1 (fun o H2 => o = none ∧ H2 = H1) I1 ⟨rfl, rfl⟩) ?_)
  rintro vl s2 ⟨l, H2, I2, pl, rfl, rfl⟩
  refine thn (po_none.run pins s2 σ H2 (fun o H3 => o = none ∧ H3 = H2) I2 ⟨rfl, rfl⟩) ?_
  rintro vu s3 ⟨u, H3, I3, pu, rfl, rfl⟩
  refine thn (step.run pins s3 σ H3 (fun o H4 => o = some (-1) ∧ H4 = H3) I3 ⟨1, rfl, -1, rfl, rfl, rfl⟩) ?_
  rintro vs s4 ⟨o, H4, I4, ps, rfl, rfl⟩
  have I5 : Inv X pins σ H4 { s4 with heap := s4.heap.push { cls := .type "slice", data := .fields #[vl, vu, vs] } } := I4.kept (t' := s4.toks) fun b ob q => Heap.get?_push_of_some _ q
  rcases q with ⟨hx, q⟩ | ⟨hx, q⟩
  · obtain ⟨its, r, ht, hz⟩ := I5.list hx
    have hlen := r.length
    refine tail_any (ops := [.ref a, .ref s4.heap.objs.size]) ht.isList.typeIs (PySem.slot_list_getitem.lookup) ?_ (by with_unfolding_all rfl)
    refine wpAny_getItem_list_slice ht.isList (Heap.IsSliceOf.new _ vl vu vs) pl pu ps (by decide) ?_ (by rw [List.size_toArray]; omega)
    rw [PySem.W.krv_pick]
    refine ⟨.ref _, _, I5.laid (t' := s4.toks) (o := .lst xs.reverse) (fun b ob q => Heap.get?_push_of_some _ q) (Nat.le_refl _) ?_, rfl, q _ (I5.hok.fresh (Nat.le_refl _))⟩
    exact ⟨by rw [List.length_reverse]; exact hz, _, 0, r.reverse, Heap.get?_push_size _ rfl⟩
  · obtain ⟨its, r, ht, hz⟩ := I5.tuple hx
    have hlen := r.length
    cases pl
    cases pu
    refine tail_any (ops := [.ref a, .ref s4.heap.objs.size]) ht.typeIs (PyProof.Rows.slot_tuple_getitem.lookup) ?_ (by with_unfolding_all rfl)
    refine getItem_tuple_rev ht (Heap.IsSliceOf.new _ .none .none vs) ps ?_ (by rw [List.size_toArray]; omega)
    refine ⟨.ref _, _, I5.laid (t' := s4.toks) (o := .tup xs.reverse) (fun b ob q => Heap.get?_push_of_some _ q) (Nat.le_refl _) ?_, rfl, q _ (I5.hok.fresh (Nat.le_refl _))⟩
    exact ⟨by rw [List.length_reverse]; exact hz, _, r.reverse, ⟨_, Heap.get?_push_size _ rfl, rfl, _, rfl⟩⟩
def revG : G1 := fun d Q => match d with
  | .list ds => Q (.t (.list ds.reverse))
  | .tuple ds => Q (.d (.tuple ds.reverse))
  | _ => False
theorem q_rev {k : Nat} {p1 p2 p3 : Pos} (he : QE X e p) : QE X (.Subscript e (.Slice none none (some (.UnaryOp .USub (.Constant (.int 1) k p1) p2)) p3) pos) (pUn revG p) := by
  obtain ⟨t, a1, a2⟩ := he
  refine ⟨_, pe_rev a1, ?_⟩
  intro E f sr ρ σ G H Q Qp R hp kk
  refine a2 E f sr ρ σ G H _ _ R hp fun v x f1 ρ1 G1 H1 h1 le1 R1 e1 o1 => ?_
  obtain ⟨d, sd, g⟩ := o1.rd R1 h1
  have fin : ∀ w z G4 H4, Qp z ρ1 → Ext (fun _ => False) G1 H1 G4 H4 → ResOk H1 G4 H4 w z → Q w H4 := fun w z G4 H4 q e4 ro =>
    kk w z f1 ρ1 G4 H4 q le1 (R1.pure e4) (e1.trans e4 fun _ z => z.elim) (R1.res e4 ro fun a n => e1.none_of n)
  unfold revG at g
  split at g
  · obtain ⟨a, xs, rfl, ha, qa⟩ := sd.lst R1.sub
    exact ⟨a, xs, rfl, .inl ⟨SqL.of ha, fun p n => let ⟨e, r⟩ := lstNew R1.sub qa.reverse n; fin _ _ _ _ g e r⟩⟩
  · obtain ⟨a, xs, rfl, ha, ga, qa⟩ := sd.tup R1.sub
    exact ⟨a, xs, rfl, .inr ⟨SqT.of ha, fun p n => let ⟨e, r⟩ := tupNew R1.sub qa.reverse n; fin _ _ _ _ g e r⟩⟩
  · exact g.elim
end
end L3
set_option Elab.async false
set_option linter.all false
set_option maxRecDepth 100000
set_option maxHeartbeats 1000000
namespace L3
open PySem PySem.Spec PyProof.Rows L2
/-! ### what a loop walks -/
section
variable {X : Cx} {tg e : Expr} {p : PTE} {pos : Pos}
theorem none_at {α : Type} {l : List α} : l[l.length]? = none := List.getElem?_eq_none (Nat.le_refl _)
def iAny (K : PySem.W.Frag) (tl : TE) : TI := fun σ H R => tl σ H fun x H1 => ∃ a, x = .ref a ∧ ((∃ xs, SqL K H1 a xs ∧ R (Itl K a) H1) ∨ (∃ xs, SqT K H1 a xs ∧ R (Itt K a) H1))
theorem pi_any {l : Expr} {tl : TE} (hl : PE X l tl) : PI X tg l (iAny X.K tl) := by
  constructor
  intro pins s σ H R I h
  refine thn (hl.run pins s σ H _ I h) ?_
  rintro v s1 ⟨x, H1, I1, r1, a, rfl, q⟩
  cases r1
  have fp : ∀ b ∈ [s1.heap.objs.size], FpOk X pins H1 b := by
    intro b hb
    have e : b = s1.heap.objs.size := by simpa using hb
    rw [e]
    exact I1.fpOk (Nat.le_refl _) (I1.hok.fresh (Nat.le_refl _))
  rcases q with ⟨xs, hq, q⟩ | ⟨xs, hq, q⟩
  · obtain ⟨its, rv, pl, _⟩ := I1.list hq
    apply wpAny_pyIter_list pl.isList
    exact ⟨_, [s1.heap.objs.size], _, _, H1, rfl, I1.kept (t' := s1.toks) fun b o e => Heap.get?_push_of_some _ e, turn_list a _, ⟨_, Heap.get?_push_size _ rfl, rfl, rfl⟩, fp, q⟩
  · obtain ⟨its, rv, pl, _⟩ := I1.tuple hq
    apply wpAny_pyIter_tuple (show s1.heap.IsTuple a its.toArray from pl)
    exact ⟨_, [s1.heap.objs.size], _, _, H1, rfl, I1.kept (t' := s1.toks) fun b o e => Heap.get?_push_of_some _ e, turn_tuple a _, ⟨_, Heap.get?_push_size _ rfl, rfl, rfl⟩, fp, q⟩
/-- the items of a list or tuple -/
def itemsD (d : D) (Q : List D → Prop) : Prop := match d with
  | .list ds => Q ds
  | .tuple ds => Q ds
  | _ => False
def pIter (p : PTE) : PTI := fun ρ Q => p ρ fun x ρ1 => x.cl fun d => itemsD d fun ds => Q ds ρ1
theorem itl_ok {K : PySem.W.Frag} {a : Addr} {xs : List V} {ds : List D} {G : Hp} (hg : G a = some (.lst xs)) (h : DqA G xs ds) : ItOk (Itl K a) ds G := by
  intro G' H' s1 s2
  have hs : H' a = some (.lst xs) := s2 _ _ (s1 _ _ hg)
  refine ⟨fun i d e => ?_, xs, SqL.of hs, Nat.le_of_eq h.length⟩
  obtain ⟨v, hv, qv⟩ := h.get e
  refine ⟨⟨xs, v, SqL.of hs, hv⟩, fun x H2 ⟨e1, e2⟩ => ?_⟩
  subst e1
  have := e2 xs (SqL.of hs)
  rw [hv] at this; cases this
  exact ⟨G', .refl s2, qv.mono s1⟩
theorem itt_ok {K : PySem.W.Frag} {a : Addr} {xs : List V} {ds : List D} {G : Hp} (hg : G a = some (.tup xs)) (h : DqA G xs ds) : ItOk (Itt K a) ds G := by
  intro G' H' s1 s2
  have hs : H' a = some (.tup xs) := s2 _ _ (s1 _ _ hg)
  refine ⟨fun i d e => ?_, xs, SqT.of hs, Nat.le_of_eq h.length⟩
  obtain ⟨v, hv, qv⟩ := h.get e
  refine ⟨⟨xs, v, SqT.of hs, hv⟩, fun x H2 ⟨e1, e2⟩ => ?_⟩
  subst e1
  have := e2 xs (SqT.of hs)
  rw [hv] at this; cases this
  exact ⟨G', .refl s2, qv.mono s1⟩
theorem qi_any (h : QE X e p) : QI X tg e (pIter p) := by
  obtain ⟨t, h1, h2⟩ := h
  refine ⟨_, pi_any h1, ?_⟩
  intro E f sr ρ σ G H R Rp R0 hp k
  refine h2 E f sr ρ σ G H _ _ R0 hp fun v x f1 ρ1 G1 H1 h le1 R1 e1 o1 => ?_
  obtain ⟨d, G', q, hd, R', ex', sg⟩ := o1.cl R1 (fun a n => R0.noneE n) e1 h
  unfold itemsD at q
  split at q
  · cases hd with
    | lst ha hq => exact ⟨_, rfl, .inl ⟨_, SqL.of (R'.sub _ _ ha), k _ _ f1 ρ1 G' H1 q le1 R' ex' (itl_ok ha hq)⟩⟩
  · cases hd with
    | tup ha hq => exact ⟨_, rfl, .inr ⟨_, SqT.of (R'.sub _ _ ha), k _ _ f1 ρ1 G' H1 q le1 R' ex' (itt_ok ha hq)⟩⟩
  · exact q.elim
/-! ranges -/
def rangeD (lo : Int) (n : Nat) : List D := (List.range n).map fun i => .int (lo + (i : Nat))
theorem rangeD_length (lo : Int) (n : Nat) : (rangeD lo n).length = n := by unfold rangeD; rw [List.length_map, List.length_range]
theorem rangeD_get {lo : Int} {n i : Nat} {d : D} (h : (rangeD lo n)[i]? = some d) : i < n ∧ d = .int (lo + (i : Nat)) := by
  unfold rangeD at h
  rw [List.getElem?_map] at h
  by_cases hi : i < n
  · rw [List.getElem?_range hi] at h
    simp only [Option.map_some, Option.some.injEq] at h
    exact ⟨hi, h.symm⟩
  · rw [List.getElem?_eq_none (by simpa using hi)] at h; cases h
theorem itr_ok {lo : Int} {n : Nat} {G : Hp} : ItOk (Itr lo n) (rangeD lo n) G := by
  intro G' H' s1 s2
  refine ⟨fun i d e => ?_, by rw [rangeD_length]; exact Nat.le_refl _⟩
  obtain ⟨hi, rfl⟩ := rangeD_get e
  refine ⟨hi, fun x H2 ⟨e1, e2⟩ => ?_⟩
  subst e1 e2
  exact ⟨G', .refl s2, .int _⟩
def small62 (i : Int) : Prop := -(2 ^ 62) ≤ i ∧ i < 2 ^ 62
def pRange1 (pr : PTA) : PTI := fun ρ Q => pr ρ fun xs ρ1 => match xs with
  | [.d (.int j)] => small62 j ∧ Q (rangeD 0 j.toNat) ρ1
  | _ => False
def pRange2 (pr : PTA) : PTI := fun ρ Q => pr ρ fun xs ρ1 => match xs with
  | [.d (.int i), .d (.int j)] => small62 i ∧ small62 j ∧ Q (rangeD i (j - i).toNat) ρ1
  | _ => False
variable {a b c : Expr} {pr : PTA} {pp : Pos}
theorem OpsOk.int1 {H1 G H : Hp} {f : Addr → Option Nat} {sr : Option (Addr × Addr)} {σ : L2.St} {vs : List V} {i : Int} (h : OpsOk H1 f sr σ G H vs [.d (.int i)]) : vs = [.int i] := by
  cases h with
  | cons h _ t => cases t; cases (show Dq _ _ _ from h); rfl
theorem OpsOk.int2 {H1 G H : Hp} {f : Addr → Option Nat} {sr : Option (Addr × Addr)} {σ : L2.St} {vs : List V} {i j : Int} (h : OpsOk H1 f sr σ G H vs [.d (.int i), .d (.int j)]) : vs = [.int i, .int j] := by
  cases h with
  | cons h _ t => cases (show Dq _ _ _ from h); rw [t.int1]
theorem OpsOk.int3 {H1 G H : Hp} {f : Addr → Option Nat} {sr : Option (Addr × Addr)} {σ : L2.St} {vs : List V} {i j k : Int} (h : OpsOk H1 f sr σ G H vs [.d (.int i), .d (.int j), .d (.int k)]) : vs = [.int i, .int j, .int k] := by
  cases h with
  | cons h _ t => cases (show Dq _ _ _ from h); rw [t.int2]
theorem qi_range1 (hg : Gl X "range") (hm : X.mg "range" = none) (ha : QA X [a] pr) (hs : starEach [a] X.env = [(false, eval a X.env)] := by rfl) : QI X tg (.Call (.Name "range" pp) [a] [] pos) (pRange1 pr) := by
  obtain ⟨t, h1, h2⟩ := ha
  refine ⟨_, pi_range1 hg hm h1 hs, ?_⟩
  intro E f sr ρ σ G H R Rp R0 hp k
  refine h2 E f sr ρ σ G H _ _ R0 hp fun vs xs f1 ρ1 G1 H1 h le1 R1 e1 o1 => ?_
  split at h
  · rename_i j
    exact ⟨j, o1.int1, h.1.1, h.1.2, k _ _ f1 ρ1 G1 H1 h.2 le1 R1 e1 itr_ok⟩
  · exact h.elim
theorem qi_range2 (hg : Gl X "range") (hm : X.mg "range" = none) (ha : QA X [a, b] pr) (hs : starEach [a, b] X.env = [(false, eval a X.env), (false, eval b X.env)] := by rfl) (hs2 : starEach [b] X.env = [(false, eval b X.env)] := by rfl) :
    QI X tg (.Call (.Name "range" pp) [a, b] [] pos) (pRange2 pr) := by
  obtain ⟨t, h1, h2⟩ := ha
  refine ⟨_, pi_range2 hg hm h1 hs hs2, ?_⟩
  intro E f sr ρ σ G H R Rp R0 hp k
  refine h2 E f sr ρ σ G H _ _ R0 hp fun vs xs f1 ρ1 G1 H1 h le1 R1 e1 o1 => ?_
  split at h
  · rename_i i j
    exact ⟨i, j, o1.int2, ⟨h.1.1, h.1.2, h.2.1.1, h.2.1.2⟩, k _ _ f1 ρ1 G1 H1 h.2.2 le1 R1 e1 itr_ok⟩
  · exact h.elim
/-- range(a, b, -1) -/
def downD (lo : Int) (n : Nat) : List D := (List.range n).map fun i => .int (lo - (i : Nat))
theorem downD_length (lo : Int) (n : Nat) : (downD lo n).length = n := by unfold downD; rw [List.length_map, List.length_range]
theorem itc_ok {lo : Int} {n : Nat} {G : Hp} : ItOk (Itc lo (-1) n) (downD lo n) G := by
  intro G' H' s1 s2
  refine ⟨fun i d e => ?_, by rw [downD_length]; exact Nat.le_refl _⟩
  unfold downD at e
  rw [List.getElem?_map] at e
  by_cases hi : i < n
  · rw [List.getElem?_range hi] at e
    simp only [Option.map_some, Option.some.injEq] at e
    subst e
    refine ⟨hi, fun x H2 ⟨e1, e2⟩ => ?_⟩
    subst e1 e2
    have : lo + (i : Int) * -1 = lo - (i : Int) := by omega
    rw [this]
    exact ⟨G', .refl s2, .int _⟩
  · rw [List.getElem?_eq_none (by simpa using hi)] at e; cases e
def pRangeD (pr : PTA) : PTI := fun ρ Q => pr ρ fun xs ρ1 => match xs with
  | [.d (.int i), .d (.int j), .d (.int (-1))] => small62 i ∧ small62 j ∧ Q (downD i (i - j).toNat) ρ1
  | _ => False
theorem qi_rangeD (hg : Gl X "range") (hm : X.mg "range" = none) (ha : QA X [a, b, c] pr) (hs : starEach [a, b, c] X.env = [(false, eval a X.env), (false, eval b X.env), (false, eval c X.env)] := by rfl)
    (hs2 : starEach [b, c] X.env = [(false, eval b X.env), (false, eval c X.env)] := by rfl) : QI X tg (.Call (.Name "range" pp) [a, b, c] [] pos) (pRangeD pr) := by
  obtain ⟨t, h1, h2⟩ := ha
  refine ⟨_, pi_range3 hg hm h1 (by first | exact hs | (rw [hs, hs2])) (by first | (rw [hs2]; rfl) | rfl), ?_⟩
  intro E f sr ρ σ G H R Rp R0 hp k
  refine h2 E f sr ρ σ G H _ _ R0 hp fun vs xs f1 ρ1 G1 H1 h le1 R1 e1 o1 => ?_
  split at h
  · rename_i i j
    exact ⟨i, j, -1, _, o1.int3, RgC.neg h.1.1 h.1.2 h.2.1.1 h.2.1.2, k _ _ f1 ρ1 G1 H1 h.2.2 le1 R1 e1 itc_ok⟩
  · exact h.elim
end
/-! ### enumerate of a list or a tuple -/
set_option maxHeartbeats 4000000 in
theorem meets_enumerate_tup (t : Addr) (items : Array Value) (dct : Option Addr) (sl : Array (Option Value)) (n : Nat) :
    Meets (Builtin.«enumerate.__new__» ⟨[.type "enumerate", .ref t], []⟩) (fun _ R s => s.heap.get? t = some ⟨.type "tuple", dct, .seq items n, sl⟩ ∧
      R (.ok (.ret (.ref (s.heap.push { cls := .type "tuple_iterator", data := .fields #[.ref t, .int 0 0] }).objs.size)))
        { s with heap := (s.heap.push { cls := .type "tuple_iterator", data := .fields #[.ref t, .int 0 0] }).push { cls := .type "enumerate", data := .fields #[.none, .bool false, .ref s.heap.objs.size, rawInt 0, .none, .none] } }) :=
  .of_wp fun prog w A R s h => by
    obtain ⟨hp, g, d, tk, os⟩ := s
    obtain ⟨hl, h⟩ := h
    have hsub := sub_enumerate
    have hT : Heap.IsTuple (Shared.heap ⟨hp, g, d, tk, os⟩) t items := ⟨_, hl, rfl, n, rfl⟩
    wp_walk using wpAny_loadPart' hl
    refine wpAny_stack_any fun st => wpAny_pure ?_
    split
    · rename_i c _ _ _ _ _
      cases (c == Value.type "enumerate")
      · wp_walk using wpAny_loadPart' hl, wpAny_pyIter_tuple hT
        exact ⟨_, rfl, h⟩
      · wp_walk using wpAny_loadPart' hl, wpAny_pyIter_tuple hT
        exact ⟨_, rfl, h⟩
    · wp_walk using wpAny_loadPart' hl, wpAny_pyIter_tuple hT
      exact ⟨_, rfl, h⟩
end L3
set_option Elab.async false
set_option linter.all false
set_option maxRecDepth 100000
set_option maxHeartbeats 1000000
namespace L3
open PySem PySem.Spec PyProof.Rows L2
section
variable {prog : Program} {w : World} {A : Around} {E : Value → Shared → Prop} {s : Shared}
theorem call_enum_tup {t : Addr} {items : Array Value} {Q : Value → Shared → Prop} (hT : s.heap.IsTuple t items)
    (h : ∀ h', IsEnum h' (s.heap.objs.size + 1) s.heap.objs.size 0 .none → h'.IsTupleIter s.heap.objs.size t 0 → (∀ b o, s.heap.get? b = some o → h'.get? b = some o) → Q (.ref (s.heap.objs.size + 1)) { s with heap := h' }) :
    wpAny (model prog w) A (call (.type "enumerate") [.ref t]) Q E s := by
  obtain ⟨⟨c, dct, dt, sl⟩, hl, hc, n, hd⟩ := hT
  obtain rfl : c = .type "tuple" := hc
  obtain rfl : dt = .seq items n := hd
  have sz : (s.heap.push { cls := .type "tuple_iterator", data := .fields #[.ref t, .int 0 0] }).objs.size = s.heap.objs.size + 1 := Heap.size_push ..
  have he := Heap.get?_push_size (s.heap.push { cls := .type "tuple_iterator", data := .fields #[.ref t, .int 0 0] }) (o := { cls := .type "enumerate", data := .fields #[.none, .bool false, .ref s.heap.objs.size, rawInt 0, .none, .none] }) rfl
  rw [sz] at he
  refine callType_new F.called_enumerate (by decide) (F.typeCall_enumerate_1 _) (F.newCall_enumerate_1 _) (fun obj => F.args_object_init_2 obj _) F.entry_enumerate_new (meets_enumerate_tup t items dct sl n) ⟨hl, ?_⟩
  show _ ∧ _
  rw [sz]
  exact ⟨⟨_, he, rfl⟩, h _ he ⟨_, Heap.get?_push_of_some _ (Heap.get?_push_size _ rfl), rfl, rfl⟩ fun b o x => Heap.get?_push_of_some _ (Heap.get?_push_of_some _ x)⟩
theorem enum_end_tup {e it t : Addr} {i : Nat} {items : Array Value} {old : Value} {Q : Option Value → Shared → Prop} (hh : A.handled = none) (he : IsEnum s.heap e it i old) (hit : s.heap.IsTupleIter it t i) (ht : s.heap.IsTuple t items) (hx : items[i]? = none)
    (hQ : ∀ h', Heap.ExtBut it s.heap h' → Q none { s with heap := h' }) : wpAny (model prog w) A (pyNext (.ref e)) Q E s := by
  have isE : s.TypeIs (.ref e) "enumerate" := ⟨_, he, rfl⟩
  have inner : wpAny (model prog w) A.in1 (Builtin.SmallTypes.nextOf (.ref it)) (fun _ _ => False) (fun x s' => ∃ b h', x = .ref b ∧ s' = { s with heap := h' } ∧ Heap.ExtBut it s.heap h' ∧ ∃ o, h'.get? b = some o ∧ o.cls = .type "StopIteration") s :=
    wpAny_nextOf_tuple_end hh hit ht hx fun h' b eb st => ⟨b, h', rfl, rfl, eb, st⟩
  unfold pyNext
  apply wpAny_bind
  apply wpAny_attempt
  refine wpAny_callSpecial?_slot (name := Str.ofString "__next__") isE F.slot_enumerate_next (wpAny_call_entry F.slot_enumerate_next isE F.entry_enumerate_next ?_ (F.args_enumerate_next_1 _))
  show wpAny _ _ (field (.ref e) 2 >>= _) _ _ _
  refine wpAny_bind (wpAny_field he rfl (x := .ref it) rfl (wpAny_bind ?_))
  refine wpAny_mono inner (fun _ _ z => z.elim) ?_
  rintro x s' ⟨b, h', rfl, rfl, eb, o, ho, hc⟩
  refine wpAny_bind (wpAny_isInstance (T := "StopIteration") (b := true) ⟨o, ho, hc⟩ isSubtype_stop ?_)
  exact wpAny_pure (hQ _ eb)
end
/-- the tuple at a at each turn, each item in a new pair -/
def IteT (K : PySem.W.Frag) (a : Addr) : It :=
  ⟨fun i H => ∃ (xs : List V) (x : V), SqT K H a xs ∧ xs[i]? = some x, fun i H v H' => ∃ T x, v = .ref T ∧ H T = none ∧ H' = upd H T (.tup [.int (i : Nat), x]) ∧ ∀ xs, SqT K H a xs → xs[i]? = some x, fun i H => ∃ xs : List V, SqT K H a xs ∧ xs.length ≤ i⟩
theorem turn_enumT {P : Program} {w : World} {K : PySem.W.Frag} {elts : List Expr} {kk : Nat} {tpos : Pos} (a e it : Addr) :
    Turn P w K (.Tuple elts kk tpos) (IteT K a) [e, it] e (fun i h => (∃ old, IsEnum h e it ((i : Nat) : Int) old) ∧ h.IsTupleIter it a i ∧ e ≠ it ∧ e ≠ a ∧ a ≠ it) where
  mem := by simp
  obj := by
    rintro i h ⟨⟨old, he⟩, ⟨o, ho, hc, hd⟩, _⟩ b hb
    have hb : b = e ∨ b = it := by simpa using hb
    rcases hb with rfl | rfl
    · exact ⟨_, he, fun v q => nomatch q⟩
    · exact ⟨o, ho, fun v q => by rw [hd] at q; cases q⟩
  keep := by
    rintro i h h' ⟨⟨old, he⟩, hi, r⟩ k
    exact ⟨⟨old, k e (by simp) _ he⟩, hi.at fun o q => k it (by simp) o q, r⟩
  item := by
    intro X hP hw hK hc i pins s σ H E I hf st hg
    subst hP hw hK
    obtain ⟨⟨old, he⟩, hit, hne, hea, hai⟩ := st
    obtain ⟨xs, x, hq, hx⟩ := hg
    obtain ⟨its, rv, p, hz⟩ := I.tuple hq
    obtain ⟨u, hu, ru⟩ := rv.get hx
    have hel : e < s.heap.objs.size := Heap.lt_size he
    have hil : it < s.heap.objs.size := by obtain ⟨_, q, _⟩ := hit; exact Heap.lt_size q
    have hlt : i < its.toArray.size := by
      have := (List.getElem?_eq_some_iff.mp hu).1
      simpa using this
    refine wpAny_pyNext_enum_itemD (Draws.tuple (prog := X.prog) (w := X.w) (A := X.A.in1) (I.ok.hd hc) it a hai its.toArray) he ⟨hit, p⟩ hlt hne (by simp [hne, hea]) ?_
    intro x' h' tk hx' ho st' hT hsz hk
    have ex : x' = u := by
      have hx'' : its.toArray[i]? = some x' := hx'
      have hu2 : its.toArray[i]? = some u := by simpa using hu
      rw [hu2] at hx''
      exact (Option.some.inj hx'').symm
    subst ex
    refine ⟨_, rfl, wpAny_letOwnedTupleGo_enum (s := { s with heap := h', toks := tk + 1 }) ho fun h2 he2 sb => ?_⟩
    have hT2 : h2.get? s.heap.objs.size = some { cls := .type "tuple", data := .seq #[.int i tk, x'] } := (sb.2 _ (Nat.ne_of_gt hel)).trans hT
    have new : ObjOk X.prog X.w (upd H s.heap.objs.size (.tup [.int (i : Nat), x])) h2 s.heap.objs.size (.tup [.int (i : Nat), x]) :=
      ⟨by show 2 ≤ sizeLine; decide, [.int i tk, x'], .cons ⟨_, rfl⟩ (.cons ru .nil), ⟨_, hT2, rfl, _, rfl⟩⟩
    have I1 : Inv X pins σ (upd H s.heap.objs.size (.tup [.int (i : Nat), x])) { s with heap := h2, toks := tk + 1 } :=
      I.turnedNew (ch := [e, it]) (fun b ob hb q => (sb.2 b (fun z => hb (by simp [z]))).trans (hk b ob (fun z => hb (by simp [z])) (fun z => hb (by simp [z])) q)) hf (Nat.le_refl _) new
    refine ⟨.ref s.heap.objs.size, _, I1, rfl, ⟨_, x, rfl, I.hok.fresh (Nat.le_refl _), rfl, fun ys hy => by rw [I.tuple_inj hy hq]; exact hx⟩, ⟨⟨x', ?_⟩, st'.1.at fun o q => (sb.2 it (Ne.symm hne)).trans q, hne, hea, hai⟩, fun b hb => ?_⟩
    · have e1 : ((i + 1 : Nat) : Int) = (i : Int) + 1 := by omega
      rw [e1]; exact he2
    · have hb : b = e ∨ b = it := by simpa using hb
      have hb' : b < s.heap.objs.size := by
        rcases hb with rfl | rfl
        · exact hel
        · exact hil
      rw [upd_ne (Nat.ne_of_lt hb')]
      exact (hf b (by rcases hb with rfl | rfl <;> simp)).1
  done := by
    intro X hP hw hK hc i pins s σ H E I hf st hg
    subst hP hw hK
    obtain ⟨⟨old, he⟩, hit, hne, hea, hai⟩ := st
    obtain ⟨xs, hq, hx⟩ := hg
    obtain ⟨its, rv, p, hz⟩ := I.tuple hq
    obtain ⟨f0, f1, f2, f3, f4, f5⟩ := hf it (by simp)
    have hl := rv.length
    exact enum_end_tup (I.ok.hd hc) he hit p (by simp; omega) fun h' eb => ⟨rfl, I.turned (t' := s.toks) (fun b o hb q => eb b o hb q) f0 f1 f3 f4 f5⟩
  self := fun A i s Q E st h => let ⟨⟨_, he⟩, _⟩ := st; wpAny_pyIter_enum he h

def iEnumA (K : PySem.W.Frag) (ta : TA) : TI := fun σ H R => ta σ H fun vs H1 => ∃ a xs, vs = [.ref a] ∧ ((SqL K H1 a xs ∧ R (Ite K a) H1) ∨ (SqT K H1 a xs ∧ R (IteT K a) H1))
theorem pi_enumA {X : Cx} {e : Expr} {ta : TA} {p pos tpos : Pos} {elts : List Expr} {kk : Nat} (hg : Gl X "enumerate") (hm : X.mg "enumerate" = none) (ha : PA X [e] ta) (hs : starEach [e] X.env = [(false, eval e X.env)]) :
    PI X (.Tuple elts kk tpos) (.Call (.Name "enumerate" p) [e] [] pos) (iEnumA X.K ta) := by
  constructor
  intro pins s σ H R I h
  refine Call_ (ld_blt I hg hm boot_enumerate (PyProof.Rows.callWith_type1 (thn (ha.run pos pins s σ H _ I h) ?_) hs rfl))
  rintro us s1 ⟨vs, H1, I1, r1, a, xs, rfl, q⟩
  have r1 := Vals.ref1 r1
  subst r1
  have fp : ∀ b ∈ [s1.heap.objs.size + 1, s1.heap.objs.size], FpOk X pins H1 b := by
    intro b hb
    have hle : s1.heap.objs.size ≤ b := by
      have hb : b = s1.heap.objs.size + 1 ∨ b = s1.heap.objs.size := by simpa using hb
      rcases hb with z | z
      · rw [z]; exact Nat.le_succ _
      · rw [z]; exact Nat.le_refl _
    exact I1.fpOk hle (I1.hok.fresh hle)
  rcases q with ⟨hq, q⟩ | ⟨hq, q⟩
  · obtain ⟨its, rv, pl, _⟩ := I1.list hq
    refine call_enumerate_list pl.isList fun h' he hit _ hk => wpAny_pyIter_enum he ?_
    exact ⟨_, [s1.heap.objs.size + 1, s1.heap.objs.size], _, _, H1, rfl, I1.kept (t' := s1.toks) hk, turn_enum a (s1.heap.objs.size + 1) s1.heap.objs.size, ⟨⟨.none, he⟩, hit, Nat.succ_ne_self _⟩, fp, q⟩
  · obtain ⟨its, rv, pl, _⟩ := I1.tuple hq
    have la : a < s1.heap.objs.size := pl.lt
    refine call_enum_tup pl fun h' he hit hk => wpAny_pyIter_enum he ?_
    exact ⟨_, [s1.heap.objs.size + 1, s1.heap.objs.size], _, _, H1, rfl, I1.kept (t' := s1.toks) hk, turn_enumT a (s1.heap.objs.size + 1) s1.heap.objs.size, ⟨⟨.none, he⟩, hit, Nat.succ_ne_self _, Nat.ne_of_gt (Nat.lt_succ_of_lt la), Nat.ne_of_lt la⟩, fp, q⟩
def enumD (ds : List D) : List D := ds.mapIdx fun i d => .tuple [.int (i : Nat), d]
theorem enumD_get {ds : List D} {i : Nat} {e : D} (h : (enumD ds)[i]? = some e) : ∃ d, ds[i]? = some d ∧ e = .tuple [.int (i : Nat), d] := by
  unfold enumD at h
  rw [List.getElem?_mapIdx] at h
  cases q : ds[i]? with
  | none => rw [q] at h; cases h
  | some d => rw [q] at h; exact ⟨d, rfl, (Option.some.inj h).symm⟩
theorem enumD_length (ds : List D) : (enumD ds).length = ds.length := by unfold enumD; simp
theorem ite_ok {K : PySem.W.Frag} {a : Addr} {xs : List V} {ds : List D} {G : Hp} (hg : G a = some (.lst xs)) (h : DqA G xs ds) : ItOk (Ite K a) (enumD ds) G := by
  intro G' H' s1 s2
  have hs : H' a = some (.lst xs) := s2 _ _ (s1 _ _ hg)
  refine ⟨fun i d e => ?_, xs, SqL.of hs, by rw [enumD_length]; exact Nat.le_of_eq h.length⟩
  obtain ⟨d, ed, rfl⟩ := enumD_get e
  obtain ⟨v, hv, qv⟩ := h.get ed
  refine ⟨⟨xs, v, SqL.of hs, hv⟩, ?_⟩
  rintro x H2 ⟨T, x, rfl, nT, rfl, fx⟩
  have := fx xs (SqL.of hs)
  rw [hv] at this; cases this
  obtain ⟨e1, r1⟩ := tupNew s2 (DqA.cons (.int (i : Nat)) (.one (qv.mono s1))) nT
  exact ⟨_, e1, r1⟩
theorem iteT_ok {K : PySem.W.Frag} {a : Addr} {xs : List V} {ds : List D} {G : Hp} (hg : G a = some (.tup xs)) (h : DqA G xs ds) : ItOk (IteT K a) (enumD ds) G := by
  intro G' H' s1 s2
  have hs : H' a = some (.tup xs) := s2 _ _ (s1 _ _ hg)
  refine ⟨fun i d e => ?_, xs, SqT.of hs, by rw [enumD_length]; exact Nat.le_of_eq h.length⟩
  obtain ⟨d, ed, rfl⟩ := enumD_get e
  obtain ⟨v, hv, qv⟩ := h.get ed
  refine ⟨⟨xs, v, SqT.of hs, hv⟩, ?_⟩
  rintro x H2 ⟨T, x, rfl, nT, rfl, fx⟩
  have := fx xs (SqT.of hs)
  rw [hv] at this; cases this
  obtain ⟨e1, r1⟩ := tupNew s2 (DqA.cons (.int (i : Nat)) (.one (qv.mono s1))) nT
  exact ⟨_, e1, r1⟩
def zipD (ds es : List D) : List D := List.zipWith (fun d e => .tuple [d, e]) ds es
theorem zipD_get {ds es : List D} {i : Nat} {z : D} (h : (zipD ds es)[i]? = some z) : ∃ d e, ds[i]? = some d ∧ es[i]? = some e ∧ z = .tuple [d, e] := by
  unfold zipD at h
  rw [List.getElem?_zipWith] at h
  cases q : ds[i]? with
  | none => rw [q] at h; simp at h
  | some d =>
    cases q2 : es[i]? with
    | none => rw [q, q2] at h; simp at h
    | some e => rw [q, q2] at h; simp at h; exact ⟨d, e, rfl, rfl, h.symm⟩
theorem zipD_length (ds es : List D) : (zipD ds es).length = min ds.length es.length := by unfold zipD; simp
theorem itz_ok {K : PySem.W.Frag} {a b : Addr} {xs ys : List V} {ds es : List D} {G : Hp} (hg : G a = some (.lst xs)) (hg2 : G b = some (.lst ys)) (h : DqA G xs ds) (h2 : DqA G ys es) : ItOk (Itz K a b) (zipD ds es) G := by
  intro G' H' s1 s2
  have ha : H' a = some (.lst xs) := s2 _ _ (s1 _ _ hg)
  have hb : H' b = some (.lst ys) := s2 _ _ (s1 _ _ hg2)
  have l1 := h.length
  have l2 := h2.length
  refine ⟨fun i d e => ?_, xs, ys, SqL.of ha, SqL.of hb, by rw [zipD_length]; omega⟩
  obtain ⟨d, e', ed, ee, rfl⟩ := zipD_get e
  obtain ⟨v, hv, qv⟩ := h.get ed
  obtain ⟨u, hu, qu⟩ := h2.get ee
  refine ⟨⟨xs, ys, v, u, SqL.of ha, SqL.of hb, hv, hu⟩, ?_⟩
  rintro x H2 ⟨T, x, y, rfl, nT, rfl, fx, fy⟩
  have e1 := fx xs (SqL.of ha)
  have e2 := fy ys (SqL.of hb)
  rw [hv] at e1; cases e1
  rw [hu] at e2; cases e2
  obtain ⟨e1, r1⟩ := tupNew s2 (DqA.cons (qv.mono s1) (.one (qu.mono s1))) nT
  exact ⟨_, e1, r1⟩
theorem itzT_ok {K : PySem.W.Frag} {a b : Addr} {xs ys : List V} {ds es : List D} {G : Hp} (hg : G a = some (.tup xs)) (hg2 : G b = some (.tup ys)) (h : DqA G xs ds) (h2 : DqA G ys es) : ItOk (RZ.ItzT K a b) (zipD ds es) G := by
  intro G' H' s1 s2
  have ha : H' a = some (.tup xs) := s2 _ _ (s1 _ _ hg)
  have hb : H' b = some (.tup ys) := s2 _ _ (s1 _ _ hg2)
  have l1 := h.length
  have l2 := h2.length
  refine ⟨fun i d e => ?_, xs, ys, SqT.of ha, SqT.of hb, by rw [zipD_length]; omega⟩
  obtain ⟨d, e', ed, ee, rfl⟩ := zipD_get e
  obtain ⟨v, hv, qv⟩ := h.get ed
  obtain ⟨u, hu, qu⟩ := h2.get ee
  refine ⟨⟨xs, ys, v, u, SqT.of ha, SqT.of hb, hv, hu⟩, ?_⟩
  rintro x H2 ⟨T, x, y, rfl, nT, rfl, fx, fy⟩
  have e1 := fx xs (SqT.of ha)
  have e2 := fy ys (SqT.of hb)
  rw [hv] at e1; cases e1
  rw [hu] at e2; cases e2
  obtain ⟨e1, r1⟩ := tupNew s2 (DqA.cons (qv.mono s1) (.one (qu.mono s1))) nT
  exact ⟨_, e1, r1⟩
def pEnum (pr : PTA) : PTI := fun ρ Q => pr ρ fun xs ρ1 => clA xs fun ds => match ds with
  | [d] => itemsD d fun es => Q (enumD es) ρ1
  | _ => False
def pZip (pr : PTA) : PTI := fun ρ Q => pr ρ fun xs ρ1 => clA xs fun ds => match ds with
  | [.list a, .list b] => Q (zipD a b) ρ1
  | [.tuple a, .tuple b] => Q (zipD a b) ρ1
  | _ => False
section
variable {X : Cx} {e e2 : Expr} {pr : PTA} {pp pos tpos : Pos} {elts : List Expr} {kk : Nat}
theorem DqA.one' {G : Hp} {vs : List V} {d : D} (h : DqA G vs [d]) : ∃ v, vs = [v] ∧ Dq G v d := by
  cases h with
  | cons h t => cases t; exact ⟨_, rfl, h⟩
theorem DqA.two' {G : Hp} {vs : List V} {d e : D} (h : DqA G vs [d, e]) : ∃ v w, vs = [v, w] ∧ Dq G v d ∧ Dq G w e := by
  cases h with
  | cons h t => obtain ⟨w, rfl, q⟩ := t.one'; exact ⟨_, w, rfl, h, q⟩
theorem qi_enum (hg : Gl X "enumerate") (hm : X.mg "enumerate" = none) (ha : QA X [e] pr) (hs : starEach [e] X.env = [(false, eval e X.env)] := by rfl) : QI X (.Tuple elts kk tpos) (.Call (.Name "enumerate" pp) [e] [] pos) (pEnum pr) := by
  obtain ⟨t, h1, h2⟩ := ha
  refine ⟨_, pi_enumA hg hm h1 hs, ?_⟩
  intro E f sr ρ σ G H R Rp R0 hp k
  refine h2 E f sr ρ σ G H _ _ R0 hp fun vs xs f1 ρ1 G1 H1 h le1 R1 e1 o1 => ?_
  obtain ⟨ds, G', q, hq, R', ex', sg⟩ := o1.clean (fun a n => R0.noneE n) o1 R1 e1 h
  split at q
  · obtain ⟨v, rfl, hv⟩ := hq.one'
    unfold itemsD at q
    split at q
    · cases hv with
      | lst ga qa => exact ⟨_, _, rfl, .inl ⟨SqL.of (R'.sub _ _ ga), k _ _ f1 ρ1 G' H1 q le1 R' ex' (ite_ok ga qa)⟩⟩
    · cases hv with
      | tup ga qa => exact ⟨_, _, rfl, .inr ⟨SqT.of (R'.sub _ _ ga), k _ _ f1 ρ1 G' H1 q le1 R' ex' (iteT_ok ga qa)⟩⟩
    · exact q.elim
  · exact q.elim
theorem qi_zip (hg : Gl X "zip") (hm : X.mg "zip" = none) (ha : QA X [e, e2] pr) (hs : starEach [e, e2] X.env = (false, eval e X.env) :: starEach [e2] X.env := by rfl) (hpl : (backTo pos (starEach [e2] X.env)).any (·.1) = false := by rfl) :
    QI X (.Tuple elts kk tpos) (.Call (.Name "zip" pp) [e, e2] [] pos) (pZip pr) := by
  obtain ⟨t, h1, h2⟩ := ha
  refine ⟨_, RZ.pi_zipA hg hm h1 hs hpl, ?_⟩
  intro E f sr ρ σ G H R Rp R0 hp k
  refine h2 E f sr ρ σ G H _ _ R0 hp fun vs xs f1 ρ1 G1 H1 h le1 R1 e1 o1 => ?_
  obtain ⟨ds, G', q, hq, R', ex', sg⟩ := o1.clean (fun a n => R0.noneE n) o1 R1 e1 h
  split at q
  · obtain ⟨v, u, rfl, hv, hu⟩ := hq.two'
    cases hv with
    | lst ga qa =>
      cases hu with
      | lst gb qb => exact ⟨_, _, _, _, rfl, .inl ⟨SqL.of (R'.sub _ _ ga), SqL.of (R'.sub _ _ gb), k _ _ f1 ρ1 G' H1 q le1 R' ex' (itz_ok ga gb qa qb)⟩⟩
  · obtain ⟨v, u, rfl, hv, hu⟩ := hq.two'
    cases hv with
    | tup ga qa =>
      cases hu with
      | tup gb qb => exact ⟨_, _, _, _, rfl, .inr ⟨SqT.of (R'.sub _ _ ga), SqT.of (R'.sub _ _ gb), k _ _ f1 ρ1 G' H1 q le1 R' ex' (itzT_ok ga gb qa qb)⟩⟩
  · exact q.elim
end
end L3
set_option Elab.async false
set_option linter.all false
set_option maxRecDepth 100000
set_option maxHeartbeats 1000000
namespace L3
open PySem PySem.Spec PyProof.Rows L2
/-! ### what changes an own list -/
def ownL (ρ : PSt) (i : Nat) (Q : List D → Prop) : Prop := match ρ[i]? with
  | some (.own (.list ds)) => Q ds
  | _ => False
section
variable {E : Ent} {f f1 : Addr → Option Nat} {sr : Option (Addr × Addr)} {ρ ρ1 : PSt} {σ : L2.St} {G H G1 H1 : Hp}
theorem ownL_at {i : Nat} {Q : List D → Prop} (R : ER E f sr ρ σ G H) (h : ownL ρ i Q) : ∃ ds a xs, Q ds ∧ ρ[i]? = some (.own (.list ds)) ∧ σ[i]? = some (some (.ref a)) ∧ f a = some i ∧ H a = some (.lst xs) ∧ DqA G xs ds := by
  unfold ownL at h
  split at h
  · rename_i ds e
    obtain ⟨a, e1, e2, o⟩ := R.at_ i _ e
    cases o with
    | lst ha q => exact ⟨ds, a, _, h, e, e1, e2, ha, q⟩
  · exact h.elim
theorem ER.wr {i : Nat} {a : Addr} {d d' : D} {o : HO} (R : ER E f sr ρ σ G H) (e : ρ[i]? = some (.own d)) (ea : σ[i]? = some (some (.ref a))) (ef : f a = some i) (ow : Own G (upd H a o) a d') :
    ER E f sr (ρ.set i (.own d')) σ G (upd H a o) ∧ Ext (Spc f sr) G H G (upd H a o) := by
  obtain ⟨g1, g2, _⟩ := R.own a i ef
  have sp : Spc f sr a := .inl (by rw [ef]; intro z; cases z)
  have x := Ext.wr R.sub sp g1 o
  refine ⟨⟨?_, fun b j eb => ?_, fun d1 c es => ?_, R.srE, by rw [List.length_set]; exact R.len, fun j s ej => ?_⟩, x⟩
  · refine ⟨fun b u eb n => ?_, fun b u eb => ?_, R.ext.gk, x.gh, R.ext.gn⟩
    · rw [upd_ne (ne_of_none eb g2)]; exact R.ext.hk b u eb n
    · rw [upd_ne (ne_of_none eb g2)]; exact R.ext.hd b u eb
  · obtain ⟨h1, h2, u, h3⟩ := R.own b j eb
    obtain ⟨u', h3'⟩ := x.hd b u h3
    exact ⟨h1, h2, u', h3'⟩
  · obtain ⟨h1, h2, h3, h4, h5⟩ := R.src d1 c es
    have n1 : d1 ≠ a := fun z => by rw [z, ef] at h3; cases h3
    have n2 : c ≠ a := fun z => by rw [z, ef] at h4; cases h4
    exact ⟨h1, h2, h3, h4, h5.mono fun u => ⟨fun q => by rw [upd_ne n1]; exact q, fun q => by rw [upd_ne n2]; exact q⟩⟩
  · by_cases hj : j = i
    · subst hj
      obtain ⟨hl, _⟩ := List.getElem?_eq_some_iff.mp e
      rw [List.getElem?_set_self hl] at ej
      cases ej
      exact ⟨a, ea, ef, ow⟩
    · rw [List.getElem?_set_ne (Ne.symm hj)] at ej
      refine (R.at_ j s ej).mono (Sub.refl _) fun b u q z => ?_
      have n : b ≠ a := fun w => by rw [w, ef] at z; cases z; exact hj rfl
      rw [upd_ne n]; exact q
end
section
variable {X : Cx} {x : Str} {p1 apos cpos : Pos} {e : Expr} {pr : PTA}
def pAppend (i : Nat) (pr : PTA) : PTE := fun ρ Q => ownL ρ i fun _ => pr ρ fun xs ρ1 => clA xs fun es => match es with
  | [d] => ownL ρ1 i fun ds => ds.length < sizeLine ∧ Q (.d .none) (ρ1.set i (.own (.list (ds ++ [d]))))
  | _ => False
theorem q_append (i : Nat) (ha : QA X [e] pr) (hN : X.N[i]? = some x := by rfl) (hv : Vis X.env.scope x := by first | exact Or.inl rfl | exact Or.inr (Or.inl rfl) | exact Or.inr (Or.inr rfl)) (hd : (x == ("__debug__" : Str)) = false := by decide) (hcd : (x == ("__classdict__" : Str)) = false := by decide)
    (hbase : attributeBase (.Name x p1) "append" X.env (eval (.Name x p1) X.env) = eval (.Name x p1) X.env := by rfl)
    (hfew : ((backTo cpos (starEach [e] X.env)).all (fun x => !x.1) && (backToKw cpos (keywordEach [] X.env)).all (fun x => x.1.isSome) && decide ([e].length + ([] : List Keyword).length + (if ([] : List Keyword).isEmpty then 0 else 1) < 30)) = true := by rfl)
    (hline : (apos.endLine == cpos.line) = true := by rfl) (hs : starEach [e] X.env = (false, eval e X.env) :: starEach [] X.env := by rfl) (hplain : (backTo cpos (starEach [] X.env)).any (·.1) = false := by rfl) :
    QE X (.Call (.Attribute (.Name x p1) "append" apos) [e] [] cpos) (pAppend i pr) := by
  obtain ⟨t, a1, a2⟩ := ha
  refine ⟨_, pe_bm PySem.F.plainAttrs_list PySem.F.slot_list_append PySem.F.type_list_append mt_append (pe_var hN hv hd hcd) a1 hbase hfew hline hs hplain, ?_⟩
  intro E f sr ρ σ G H Q Qp R hp k
  obtain ⟨_, a, xs, hp, _, ea, ef, ha, _⟩ := ownL_at R hp
  refine ⟨_, ea, .inl ⟨rfl, _, SqL.of ha⟩, ?_⟩
  refine a2 E f sr ρ σ G H _ _ R hp fun vs ops f1 ρ1 G1 H1 h1 le1 R1 e1 o1 => ?_
  obtain ⟨es, G2, q, hq, R2, ex2, sg⟩ := o1.clean (fun a n => R.noneE n) o1 R1 e1 h1
  split at q
  · obtain ⟨v, rfl, hv⟩ := hq.one'
    obtain ⟨ds, b, ys, q, er, eb, fb, hb, qb⟩ := ownL_at R2 q
    rw [ea] at eb; cases eb
    obtain ⟨R3, x3⟩ := R2.wr er ea fb (o := .lst (ys ++ [v])) (.lst upd_same (qb.app (.one hv)))
    exact ⟨a, ys, v, rfl, rfl, hb, by rw [qb.length]; exact q.1, k _ (.d .none) f1 _ _ _ q.2 le1 R3 (ex2.trans x3 fun a z => .inl (z.le le1)) .non⟩
  · exact q.elim
def pExtend (i : Nat) (pr : PTA) : PTE := fun ρ Q => ownL ρ i fun _ => pr ρ fun xs ρ1 => clA xs fun es => match es with
  | [.list zs] => ownL ρ1 i fun ds => ds.length + zs.length ≤ sizeLine ∧ Q (.d .none) (ρ1.set i (.own (.list (ds ++ zs))))
  | _ => False
theorem q_extend (i : Nat) (ha : QA X [e] pr) (hN : X.N[i]? = some x := by rfl) (hv : Vis X.env.scope x := by first | exact Or.inl rfl | exact Or.inr (Or.inl rfl) | exact Or.inr (Or.inr rfl)) (hd : (x == ("__debug__" : Str)) = false := by decide) (hcd : (x == ("__classdict__" : Str)) = false := by decide)
    (hbase : attributeBase (.Name x p1) "extend" X.env (eval (.Name x p1) X.env) = eval (.Name x p1) X.env := by rfl)
    (hfew : ((backTo cpos (starEach [e] X.env)).all (fun x => !x.1) && (backToKw cpos (keywordEach [] X.env)).all (fun x => x.1.isSome) && decide ([e].length + ([] : List Keyword).length + (if ([] : List Keyword).isEmpty then 0 else 1) < 30)) = true := by rfl)
    (hline : (apos.endLine == cpos.line) = true := by rfl) (hs : starEach [e] X.env = (false, eval e X.env) :: starEach [] X.env := by rfl) (hplain : (backTo cpos (starEach [] X.env)).any (·.1) = false := by rfl) :
    QE X (.Call (.Attribute (.Name x p1) "extend" apos) [e] [] cpos) (pExtend i pr) := by
  obtain ⟨t, a1, a2⟩ := ha
  refine ⟨_, pe_bm PySem.F.plainAttrs_list PySem.F.slot_list_extend PySem.F.type_list_extend mt_extend (pe_var hN hv hd hcd) a1 hbase hfew hline hs hplain, ?_⟩
  intro E f sr ρ σ G H Q Qp R hp k
  obtain ⟨_, a, xs, hp, _, ea, ef, ha, _⟩ := ownL_at R hp
  refine ⟨_, ea, .inl ⟨rfl, _, SqL.of ha⟩, ?_⟩
  refine a2 E f sr ρ σ G H _ _ R hp fun vs ops f1 ρ1 G1 H1 h1 le1 R1 e1 o1 => ?_
  obtain ⟨es, G2, q, hq, R2, ex2, sg⟩ := o1.clean (fun a n => R.noneE n) o1 R1 e1 h1
  split at q
  · obtain ⟨v, rfl, hv⟩ := hq.one'
    obtain ⟨ds, b, ys, q, er, eb, fb, hb, qb⟩ := ownL_at R2 q
    rw [ea] at eb; cases eb
    cases hv with
    | @lst c zs _ gc qc =>
      obtain ⟨R3, x3⟩ := R2.wr er ea fb (o := .lst (ys ++ zs)) (.lst upd_same (qb.app qc))
      exact ⟨a, c, ys, zs, rfl, rfl, hb, R2.sub _ _ gc, by rw [qb.length, qc.length]; exact q.1, k _ (.d .none) f1 _ _ _ q.2 le1 R3 (ex2.trans x3 fun a z => .inl (z.le le1)) .non⟩
  · exact q.elim
def pPop (i : Nat) : PTE := fun ρ Q => ownL ρ i fun ds => ∃ d, ds[ds.length - 1]? = some d ∧ Q (.d d) (ρ.set i (.own (.list ds.dropLast)))
theorem q_pop (i : Nat) (hN : X.N[i]? = some x := by rfl) (hv : Vis X.env.scope x := by first | exact Or.inl rfl | exact Or.inr (Or.inl rfl) | exact Or.inr (Or.inr rfl)) (hd : (x == ("__debug__" : Str)) = false := by decide) (hcd : (x == ("__classdict__" : Str)) = false := by decide)
    (hbase : attributeBase (.Name x p1) "pop" X.env (eval (.Name x p1) X.env) = eval (.Name x p1) X.env := by rfl) (hline : (apos.endLine == cpos.line) = true := by rfl) :
    QE X (.Call (.Attribute (.Name x p1) "pop" apos) [] [] cpos) (pPop i) := by
  refine ⟨_, pe_bm0 PySem.F.plainAttrs_list PySem.F.slot_list_pop PySem.F.type_list_pop mt_pop (pe_var hN hv hd hcd) hbase hline, ?_⟩
  intro E f sr ρ σ G H Q Qp R hp k
  obtain ⟨ds, a, xs, hp, er, ea, ef, ha, qa⟩ := ownL_at R hp
  obtain ⟨d, hd, hp⟩ := hp
  obtain ⟨v, hv, qv⟩ := qa.get hd
  obtain ⟨R3, x3⟩ := R.wr er ea ef (o := .lst xs.dropLast) (.lst upd_same qa.dropLast)
  exact ⟨_, ea, .inl ⟨rfl, _, SqL.of ha⟩, a, xs, v, rfl, rfl, ha, by rw [qa.length]; exact hv, k v (.d d) f _ _ _ hp (fun _ _ => rfl) R3 x3 qv⟩
def pPopAt (i : Nat) (pr : PTA) : PTE := fun ρ Q => ownL ρ i fun _ => pr ρ fun xs ρ1 => clA xs fun es => match es with
  | [.int k] => ownL ρ1 i fun ds => small62 k ∧ ∃ j d, ixN ds.length k = some j ∧ ds[j]? = some d ∧ Q (.d d) (ρ1.set i (.own (.list (ds.eraseIdx j))))
  | _ => False
theorem q_popAt (i : Nat) (ha : QA X [e] pr) (hN : X.N[i]? = some x := by rfl) (hv : Vis X.env.scope x := by first | exact Or.inl rfl | exact Or.inr (Or.inl rfl) | exact Or.inr (Or.inr rfl)) (hd : (x == ("__debug__" : Str)) = false := by decide) (hcd : (x == ("__classdict__" : Str)) = false := by decide)
    (hbase : attributeBase (.Name x p1) "pop" X.env (eval (.Name x p1) X.env) = eval (.Name x p1) X.env := by rfl)
    (hfew : ((backTo cpos (starEach [e] X.env)).all (fun x => !x.1) && (backToKw cpos (keywordEach [] X.env)).all (fun x => x.1.isSome) && decide ([e].length + ([] : List Keyword).length + (if ([] : List Keyword).isEmpty then 0 else 1) < 30)) = true := by rfl)
    (hline : (apos.endLine == cpos.line) = true := by rfl) (hs : starEach [e] X.env = (false, eval e X.env) :: starEach [] X.env := by rfl) (hplain : (backTo cpos (starEach [] X.env)).any (·.1) = false := by rfl) :
    QE X (.Call (.Attribute (.Name x p1) "pop" apos) [e] [] cpos) (pPopAt i pr) := by
  obtain ⟨t, a1, a2⟩ := ha
  refine ⟨_, pe_bm PySem.F.plainAttrs_list PySem.F.slot_list_pop PySem.F.type_list_pop mt_popAt (pe_var hN hv hd hcd) a1 hbase hfew hline hs hplain, ?_⟩
  intro E f sr ρ σ G H Q Qp R hp k
  obtain ⟨_, a, xs, hp, _, ea, ef, ha, _⟩ := ownL_at R hp
  refine ⟨_, ea, .inl ⟨rfl, _, SqL.of ha⟩, ?_⟩
  refine a2 E f sr ρ σ G H _ _ R hp fun vs ops f1 ρ1 G1 H1 h1 le1 R1 e1 o1 => ?_
  obtain ⟨es, G2, q, hq, R2, ex2, sg⟩ := o1.clean (fun a n => R.noneE n) o1 R1 e1 h1
  split at q
  · rename_i kk
    obtain ⟨v, rfl, hv⟩ := hq.one'
    obtain ⟨ds, b, ys, ⟨⟨s1, s2⟩, j, d, hj, hd, q⟩, er, eb, fb, hb, qb⟩ := ownL_at R2 q
    rw [ea] at eb; cases eb
    cases hv
    obtain ⟨w, hw, qw⟩ := qb.get hd
    obtain ⟨R3, x3⟩ := R2.wr er ea fb (o := .lst (ys.eraseIdx j)) (.lst upd_same (qb.eraseIdx j))
    exact ⟨a, ys, kk, j, w, rfl, rfl, hb, by omega, by omega, by rw [qb.length]; exact (ixN_seq hj).1, hw, k _ (.d d) f1 _ _ _ q le1 R3 (ex2.trans x3 fun a z => .inl (z.le le1)) qw⟩
  · exact q.elim
/-- x[i] = .. of an own list -/
def pgSub (i : Nat) (pi : PTE) : PTG := fun x ρ Q => ownL ρ i fun _ => pi ρ fun y ρ1 => match y with
  | .d (.int k) => x.cl fun d => ownL ρ1 i fun ds => ∃ j, ixN ds.length k = some j ∧ Q (ρ1.set i (.own (.list (ds.set j d))))
  | _ => False
theorem OpS.keep {H0 G H G1 H1 : Hp} {f f1 : Addr → Option Nat} {sr : Option (Addr × Addr)} {v : V} {x : OP} (h : OpS H0 f sr G H v x) (hf : ∀ a, f1 a ≠ none → f1 a = f a) (e : Ext (Spc f sr) G H G1 H1) : OpS H0 f1 sr G1 H1 v x := by
  cases x with
  | d d => exact Dq.mono e.gk h
  | o i => trivial
  | s => exact h
  | t d =>
    obtain ⟨a, e1, e2, e3, e4, e5, o⟩ := h
    obtain ⟨u, hu⟩ := o.ex
    obtain ⟨g1, h1⟩ := e.keepN e2 e3 e4 hu
    exact ⟨a, e1, fle hf e2, e3, g1, e5, o.mono e.gk fun o q => by rw [hu] at q; cases q; exact h1⟩
theorem OpS.cl {E : Ent} {ρ : PSt} {σ : L2.St} {H0 G H : Hp} {f : Addr → Option Nat} {sr : Option (Addr × Addr)} {v : V} {x : OP} {Q : D → Prop} (h : OpS H0 f sr G H v x) (R : ER E f sr ρ σ G H) (n : ∀ a, H0 a = none → E.H a = none) (q : x.cl Q) :
    ∃ d G', Q d ∧ Dq G' v d ∧ ER E f sr ρ σ G' H ∧ Sub G G' ∧ (∀ b, ¬ Tex v x b → G' b = G b) := by
  cases x with
  | d d => exact ⟨d, G, q, h, R, Sub.refl _, fun _ _ => rfl⟩
  | s => exact q.elim
  | o i => exact q.elim
  | t d =>
    obtain ⟨a, rfl, e2, e3, e4, e5, o⟩ := h
    obtain ⟨u, h1, h2, h3, h4⟩ := R.clean e2 e3 e4 (n a e5) o
    exact ⟨d, _, q, h1, h2, h3, fun b nb => upd_ne fun z => nb ⟨by rw [z], d, rfl⟩⟩
theorem absTo_sub (i : Nat) {ti : TE} {pi : PTE} (hi : Abs ti pi) : AbsTo (gSub (tVar i) ti rSetL) (pgSub i pi) := by
  intro E f sr ρ σ G H H0 v x Q Qp R o n1 n2 h k
  obtain ⟨_, a, xs, hp, _, ea, ef, ha, _⟩ := ownL_at R h
  refine ⟨_, ea, ?_⟩
  refine hi E f sr ρ σ G H _ _ R hp fun iv y f1 ρ1 G1 H1 h1 le1 R1 e1 o1 => ?_
  split at h1
  · rename_i kk
    cases (show Dq G1 iv (.int kk) from o1)
    have ox := o.keep le1 e1
    obtain ⟨d, G2, q, hd, R2, s2, same⟩ := ox.cl R1 n1 h1
    obtain ⟨ds, b, ys, q, er, eb, fb, hb, qb⟩ := ownL_at R2 q
    rw [ea] at eb; cases eb
    obtain ⟨j, hj, q⟩ := q
    · obtain ⟨R3, x3⟩ := R2.wr er ea fb (o := .lst (ys.set j v)) (.lst upd_same (DqA.set hd j qb))
      refine ⟨a, ys, kk, j, rfl, rfl, hb, by rw [qb.length]; exact hj, k f1 _ σ G2 _ q R3 ⟨e1.gk.trans s2, fun b u nb q1 q2 q3 q4 => ?_, fun b _ nb => le1 b nb, ?_⟩⟩
      · obtain ⟨g1, g2⟩ := e1.keepN q1 q2 q3 q4
        have ne : b ≠ a := fun z => by rw [z, ef] at q1; cases q1
        exact ⟨fle le1 q1, by rw [same b nb]; exact g1, by rw [upd_ne ne]; exact g2⟩
      · have y1 : Ext (fun c => Spc f sr c ∨ Tex v x c) G H G1 H1 := e1.imp fun _ z => .inl z
        refine ⟨fun c u q n => ?_, fun c u q => ?_, e1.gk.trans s2, x3.gh, fun c u q n => ?_⟩
        · have ne : c ≠ a := fun z => n (.inl (.inl (by rw [z, ef]; intro z; cases z)))
          rw [upd_ne ne]; exact e1.hk c u q fun z => n (.inl z)
        · obtain ⟨u', q'⟩ := e1.hd c u q
          exact x3.hd c u' q'
        · by_cases nb : Tex v x c
          · exact .inr (.inr nb)
          · rw [same c nb] at q
            exact (e1.gn c u q n).imp id .inl
  · exact h1.elim
theorem qg_sub (i : Nat) {ix : Expr} {pi : PTE} {npos pos : Pos} (hi : QE X ix pi) (hN : X.N[i]? = some x := by rfl) (hv : Vis X.env.scope x := by first | exact Or.inl rfl | exact Or.inr (Or.inl rfl) | exact Or.inr (Or.inr rfl)) (hd : (x == ("__debug__" : Str)) = false := by decide) (hcd : (x == ("__classdict__" : Str)) = false := by decide)
    (ha : ∀ v, assign (.Subscript (.Name x npos) ix pos) X.env v = (do
      let ov ← holding [v] (eval (.Name x npos) X.env)
      let iv ← holding [v, ov] (eval ix X.env)
      standAt pos
      holding [v, ov, iv] (setItem ov iv v)
      release [v, ov, iv] []) := by intro _; rfl) : QG X (.Subscript (.Name x npos) ix pos) (pgSub i pi) := by
  obtain ⟨t, a1, a2⟩ := hi
  exact ⟨_, pg_sub (pe_var hN hv hd hcd) a1 set_list ha, absTo_sub i a2⟩
end
/-! ### list(range(..)), tuple(range(..)) -/
section
variable {X : Cx} {a b : Expr} {p q : PTE} {pp p2 pos pos2 : Pos}
theorem dqa_range {G : Hp} (a b : Int) : DqA G (rgV a b) (rangeD a (b - a).toNat) := by
  unfold rgV rangeD
  generalize List.range (b - a).toNat = l
  induction l with
  | nil => exact .nil
  | cons n r ih => exact .cons (.int _) ih
def rgOk (a b : Int) : Prop := -16777216 ≤ a ∧ a ≤ 16777216 ∧ -16777216 ≤ b ∧ b ≤ 16777216 ∧ b - a ≤ 16777216
theorem rgOk.ok {a b : Int} (h : rgOk a b) : RgOk a b := by
  obtain ⟨h1, h2, h3, h4, h5⟩ := h
  refine ⟨by omega, by omega, by omega, by omega, ?_⟩
  have : (2 ^ 24 : Nat) = 16777216 := by decide
  omega
def pLRange1 (p : PTE) : PTE := fun ρ Q => p ρ fun x ρ1 => match x with
  | .d (.int n) => rgOk 0 n ∧ Q (.t (.list (rangeD 0 n.toNat))) ρ1
  | _ => False
def pTRange1 (p : PTE) : PTE := fun ρ Q => p ρ fun x ρ1 => match x with
  | .d (.int n) => rgOk 0 n ∧ Q (.d (.tuple (rangeD 0 n.toNat))) ρ1
  | _ => False
theorem q_listRange (hc : X.calm = true) (hg : Gl X "list") (hm : X.mg "list" = none) (hg2 : Gl X "range") (hm2 : X.mg "range" = none) (ha : QE X a p) (na : starEach [a] X.env = (false, eval a X.env) :: starEach [] X.env := by rfl)
    (na2 : starEach [Expr.Call (.Name "range" p2) [a] [] pos2] X.env = (false, eval (Expr.Call (.Name "range" p2) [a] [] pos2) X.env) :: starEach [] X.env := by rfl) :
    QE X (.Call (.Name "list" pp) [.Call (.Name "range" p2) [a] [] pos2] [] pos) (pLRange1 p) := by
  obtain ⟨t, a1, a2⟩ := ha
  refine ⟨_, pe_listRg hc hg hm (prg_1 hg2 hm2 a1 na) na2, ?_⟩
  intro E f sr ρ σ G H Q Qp R hp k
  refine a2 E f sr ρ σ G H _ _ R hp fun v x f1 ρ1 G1 H1 h1 le1 R1 e1 o1 => ?_
  split at h1
  · rename_i n
    cases (show Dq G1 v (.int n) from o1)
    refine ⟨n, rfl, h1.1.ok, fun q nq => ?_⟩
    obtain ⟨e2, r2⟩ := lstNew R1.sub (dqa_range 0 n) nq
    rw [Int.sub_zero] at r2
    exact k _ _ f1 ρ1 _ _ h1.2 le1 (R1.pure e2) (e1.trans e2 fun _ z => z.elim) (R1.res e2 r2 fun a n => e1.none_of n)
  · exact h1.elim
theorem q_tupRange (hc : X.calm = true) (hg : Gl X "tuple") (hm : X.mg "tuple" = none) (hg2 : Gl X "range") (hm2 : X.mg "range" = none) (ha : QE X a p) (na : starEach [a] X.env = (false, eval a X.env) :: starEach [] X.env := by rfl)
    (na2 : starEach [Expr.Call (.Name "range" p2) [a] [] pos2] X.env = (false, eval (Expr.Call (.Name "range" p2) [a] [] pos2) X.env) :: starEach [] X.env := by rfl) :
    QE X (.Call (.Name "tuple" pp) [.Call (.Name "range" p2) [a] [] pos2] [] pos) (pTRange1 p) := by
  obtain ⟨t, a1, a2⟩ := ha
  refine ⟨_, pe_tupRg hc hg hm (prg_1 hg2 hm2 a1 na) na2, ?_⟩
  intro E f sr ρ σ G H Q Qp R hp k
  refine a2 E f sr ρ σ G H _ _ R hp fun v x f1 ρ1 G1 H1 h1 le1 R1 e1 o1 => ?_
  split at h1
  · rename_i n
    cases (show Dq G1 v (.int n) from o1)
    refine ⟨n, rfl, h1.1.ok, fun q nq => ?_⟩
    obtain ⟨e2, r2⟩ := tupNew R1.sub (dqa_range 0 n) nq
    rw [Int.sub_zero] at r2
    exact k _ _ f1 ρ1 _ _ h1.2 le1 (R1.pure e2) (e1.trans e2 fun _ z => z.elim) (R1.res e2 r2 fun a n => e1.none_of n)
  · exact h1.elim
end
end L3
set_option Elab.async false
set_option linter.all false
set_option maxRecDepth 100000
set_option maxHeartbeats 1000000
namespace L3
open PySem PySem.Spec PyProof.Rows L2
/-! ### isinstance -/
def tyN : D → String
  | .none => "NoneType"
  | .bool _ => "bool"
  | .int _ => "int"
  | .str _ => "str"
  | .list _ => "list"
  | .tuple _ => "tuple"
  | .dict _ => "dict"
def isI (T : String) (d : D) : Bool := (kitB (tyN d) T).getD false
theorem Dq.tyX {K : PySem.W.Frag} {H : Hp} {v : V} {d : D} (h : Dq H v d) : TyX K H v (.type (tyN d)) := by
  cases h with
  | non => exact .base .non
  | bl b => exact .base (.bl b)
  | int i => exact .base (.int i)
  | str x => exact .base (.str x)
  | lst h _ => exact .base (.lst h)
  | tup h _ => exact .base (.tup h)
  | dik h _ => exact .base (.dK h)
  | dit h _ => exact .base (.dT h)
def pIsI (T : String) (p : PTE) : PTE := fun ρ Q => p ρ fun x ρ1 => x.rd ρ1 fun d => Q (.d (.bool (isI T d))) ρ1
section
variable {X : Cx} {e : Expr} {p : PTE} {pp p2 pos : Pos} {T : String} {tn : Str}
theorem q_isi (ok : ∀ d : D, (kitB (tyN d) T).isSome = true) (hg : Gl X "isinstance") (hm : X.mg "isinstance" = none) (hgT : Gl X tn) (hmT : X.mg tn = none) (hvT : bootBuiltins tn = some (.type T)) (he : QE X e p)
    (hn : tn ≠ "__name__" := by decide) (hd : (tn == ("__debug__" : Str)) = false := by decide) (hs1 : starEach [.Name tn p2] X.env = (false, eval (.Name tn p2) X.env) :: starEach [] X.env := by rfl) (hs : starEach [e, .Name tn p2] X.env = (false, eval e X.env) :: starEach [.Name tn p2] X.env := by rfl)
    (hpl : (backTo pos (starEach [.Name tn p2] X.env)).any (·.1) = false := by rfl) :
    QE X (.Call (.Name "isinstance" pp) [e, .Name tn p2] [] pos) (pIsI T p) := by
  obtain ⟨t, h1, h2⟩ := he
  refine ⟨_, pe_callB call_isi hg hm PyProof.Rows.boot_isinstance (pa_cons h1 (pa_cons (pe_bltn (v := .ty T) hgT hmT hvT rfl hn hd) pa_nil hs1) hs) (by decide) (by decide) hs hpl, ?_⟩
  intro E f sr ρ σ G H Q Qp R hp k
  refine h2 E f sr ρ σ G H _ _ R hp fun v x f1 ρ1 G1 H1 h1 le1 R1 e1 o1 => ?_
  obtain ⟨d, sd, g⟩ := o1.rd R1 h1
  refine ⟨v, .ty T, .type (tyN d), .type T, isI T d, rfl, .ty T, (sd.dq R1.sub).tyX, kit_ty ?_, k _ (.d _) f1 ρ1 G1 H1 g le1 R1 e1 (.bl _)⟩
  unfold isI
  cases q : kitB (tyN d) T with
  | none => have := ok d; rw [q] at this; cases this
  | some b => rfl
end
theorem kit_all {T : String} (h1 : (kitB "NoneType" T).isSome = true) (h2 : (kitB "bool" T).isSome = true) (h3 : (kitB "int" T).isSome = true) (h4 : (kitB "str" T).isSome = true) (h5 : (kitB "list" T).isSome = true) (h6 : (kitB "tuple" T).isSome = true) (h7 : (kitB "dict" T).isSome = true) :
    ∀ d : D, (kitB (tyN d) T).isSome = true := by
  intro d
  cases d <;> assumption
theorem kit_int : ∀ d : D, (kitB (tyN d) "int").isSome = true := kit_all (by decide +kernel) (by decide +kernel) (by decide +kernel) (by decide +kernel) (by decide +kernel) (by decide +kernel) (by decide +kernel)
theorem kit_bool : ∀ d : D, (kitB (tyN d) "bool").isSome = true := kit_all (by decide +kernel) (by decide +kernel) (by decide +kernel) (by decide +kernel) (by decide +kernel) (by decide +kernel) (by decide +kernel)
theorem kit_tuple : ∀ d : D, (kitB (tyN d) "tuple").isSome = true := kit_all (by decide +kernel) (by decide +kernel) (by decide +kernel) (by decide +kernel) (by decide +kernel) (by decide +kernel) (by decide +kernel)
theorem kit_list : ∀ d : D, (kitB (tyN d) "list").isSome = true := kit_all (by decide +kernel) (by decide +kernel) (by decide +kernel) (by decide +kernel) (by decide +kernel) (by decide +kernel) (by decide +kernel)
theorem kit_str : ∀ d : D, (kitB (tyN d) "str").isSome = true := kit_all (by decide +kernel) (by decide +kernel) (by decide +kernel) (by decide +kernel) (by decide +kernel) (by decide +kernel) (by decide +kernel)
/-- what isinstance tells -/
def isIntD : D → Bool
  | .int _ => true
  | .bool _ => true
  | _ => false
def isBoolD : D → Bool
  | .bool _ => true
  | _ => false
def isTupD : D → Bool
  | .tuple _ => true
  | _ => false
def isListD : D → Bool
  | .list _ => true
  | _ => false
def isStrD : D → Bool
  | .str _ => true
  | _ => false
theorem isI_of {T : String} {f : D → Bool} (h1 : (kitB "NoneType" T) = some (f .none)) (h2 : ∀ b, (kitB "bool" T) = some (f (.bool b))) (h3 : ∀ b, (kitB "int" T) = some (f (.int b))) (h4 : ∀ b, (kitB "str" T) = some (f (.str b))) (h5 : ∀ b, (kitB "list" T) = some (f (.list b))) (h6 : ∀ b, (kitB "tuple" T) = some (f (.tuple b))) (h7 : ∀ b, (kitB "dict" T) = some (f (.dict b))) (d : D) : isI T d = f d := by
  unfold isI
  cases d with
  | none => show (kitB "NoneType" T).getD false = _; rw [h1]; rfl
  | bool b => show (kitB "bool" T).getD false = _; rw [h2 b]; rfl
  | int b => show (kitB "int" T).getD false = _; rw [h3 b]; rfl
  | str b => show (kitB "str" T).getD false = _; rw [h4 b]; rfl
  | list b => show (kitB "list" T).getD false = _; rw [h5 b]; rfl
  | tuple b => show (kitB "tuple" T).getD false = _; rw [h6 b]; rfl
  | dict b => show (kitB "dict" T).getD false = _; rw [h7 b]; rfl
theorem isI_int (d : D) : isI "int" d = isIntD d := isI_of (f := isIntD) (show kitB "NoneType" "int" = some false by decide +kernel) (fun _ => show kitB "bool" "int" = some true by decide +kernel) (fun _ => show kitB "int" "int" = some true by decide +kernel) (fun _ => show kitB "str" "int" = some false by decide +kernel) (fun _ => show kitB "list" "int" = some false by decide +kernel) (fun _ => show kitB "tuple" "int" = some false by decide +kernel) (fun _ => show kitB "dict" "int" = some false by decide +kernel) d
theorem isI_bool (d : D) : isI "bool" d = isBoolD d := isI_of (f := isBoolD) (show kitB "NoneType" "bool" = some false by decide +kernel) (fun _ => show kitB "bool" "bool" = some true by decide +kernel) (fun _ => show kitB "int" "bool" = some false by decide +kernel) (fun _ => show kitB "str" "bool" = some false by decide +kernel) (fun _ => show kitB "list" "bool" = some false by decide +kernel) (fun _ => show kitB "tuple" "bool" = some false by decide +kernel) (fun _ => show kitB "dict" "bool" = some false by decide +kernel) d
theorem isI_tup (d : D) : isI "tuple" d = isTupD d := isI_of (f := isTupD) (show kitB "NoneType" "tuple" = some false by decide +kernel) (fun _ => show kitB "bool" "tuple" = some false by decide +kernel) (fun _ => show kitB "int" "tuple" = some false by decide +kernel) (fun _ => show kitB "str" "tuple" = some false by decide +kernel) (fun _ => show kitB "list" "tuple" = some false by decide +kernel) (fun _ => show kitB "tuple" "tuple" = some true by decide +kernel) (fun _ => show kitB "dict" "tuple" = some false by decide +kernel) d
theorem isI_list (d : D) : isI "list" d = isListD d := isI_of (f := isListD) (show kitB "NoneType" "list" = some false by decide +kernel) (fun _ => show kitB "bool" "list" = some false by decide +kernel) (fun _ => show kitB "int" "list" = some false by decide +kernel) (fun _ => show kitB "str" "list" = some false by decide +kernel) (fun _ => show kitB "list" "list" = some true by decide +kernel) (fun _ => show kitB "tuple" "list" = some false by decide +kernel) (fun _ => show kitB "dict" "list" = some false by decide +kernel) d
theorem isI_str (d : D) : isI "str" d = isStrD d := isI_of (f := isStrD) (show kitB "NoneType" "str" = some false by decide +kernel) (fun _ => show kitB "bool" "str" = some false by decide +kernel) (fun _ => show kitB "int" "str" = some false by decide +kernel) (fun _ => show kitB "str" "str" = some true by decide +kernel) (fun _ => show kitB "list" "str" = some false by decide +kernel) (fun _ => show kitB "tuple" "str" = some false by decide +kernel) (fun _ => show kitB "dict" "str" = some false by decide +kernel) d
/-! ### a < b < c of ints -/
section
variable {X : Cx} {a b c : Expr} {pa pb pc : PTE} {pos : Pos}
def pChainI (f g : Int → Int → Bool) (pa pb pc : PTE) : PTE := fun ρ Q => pa ρ fun x ρ1 => pb ρ1 fun y ρ2 => match x, y with
  | .d (.int i), .d (.int j) => if f i j = true then pc ρ2 fun z ρ3 => (match z with
    | .d (.int k) => Q (.d (.bool (g j k))) ρ3
    | _ => False) else Q (.d (.bool false)) ρ2
  | _, _ => False
theorem abs_chain {f g : Int → Int → Bool} {ta tb tc : TE} (ha : Abs ta pa) (hb : Abs tb pb) (hc : Abs tc pc) : Abs (tChain (rI0 fun i j => .bl (f i j)) (rI0 fun i j => .bl (g i j)) ta tb tc) (pChainI f g pa pb pc) := by
  intro E f0 sr ρ σ G H Q Qp R hp k
  refine ha E f0 sr ρ σ G H _ _ R hp fun v x f1 ρ1 G1 H1 h1 le1 R1 e1 o1 => ?_
  refine hb E f1 sr ρ1 σ G1 H1 _ _ R1 h1 fun u y f2 ρ2 G2 H2 h2 le2 R2 e2 o2 => ?_
  split at h2
  · rename_i i j
    cases (show Dq G1 v (.int i) from o1)
    cases (show Dq G2 u (.int j) from o2)
    have e12 := e1.then le1 e2
    refine ⟨i, j, rfl, rfl, f i j, rfl, ?_⟩
    by_cases q : f i j = true
    · rw [if_pos q] at h2 ⊢
      refine hc E f2 sr ρ2 σ G2 H2 _ _ R2 h2 fun w z f3 ρ3 G3 H3 h3 le3 R3 e3 o3 => ?_
      split at h3
      · rename_i kk
        cases (show Dq G3 w (.int kk) from o3)
        exact ⟨j, kk, rfl, rfl, k _ (.d _) f3 ρ3 G3 H3 h3 (fle.trans (fle.trans le1 le2) le3) R3 (e12.then (fle.trans le1 le2) e3) (.bl _)⟩
      · exact h3.elim
    · rw [if_neg q] at h2 ⊢
      exact k _ (.d _) f2 ρ2 G2 H2 h2 (fle.trans le1 le2) R2 e12 (.bl _)
  · exact h2.elim
theorem q_chain {op op' : CmpOp} {f g : Int → Int → Bool} (ho : OpR X (compareOp op) (rI0 fun i j => .bl (f i j))) (ho' : OpR X (compareOp op') (rI0 fun i j => .bl (g i j))) (ha : QE X a pa) (hb : QE X b pb) (hc : QE X c pc)
    (hm : lastMarks [op, op'] [b, c] = false := by with_unfolding_all rfl) : QE X (.Compare a [op, op'] [b, c] pos) (pChainI f g pa pb pc) := by
  obtain ⟨ta, a1, a2⟩ := ha
  obtain ⟨tb, b1, b2⟩ := hb
  obtain ⟨tc, c1, c2⟩ := hc
  exact ⟨_, pe_chain ho ho' a1 b1 c1 hm, abs_chain a2 b2 c2⟩
theorem qt_chain {op op' : CmpOp} {f g : Int → Int → Bool} (ho : OpR X (compareOp op) (rI0 fun i j => .bl (f i j))) (ho' : OpR X (compareOp op') (rI0 fun i j => .bl (g i j))) (ha : QE X a pa) (hb : QE X b pb) (hc : QE X c pc)
    (hm : lastMarks [op, op'] [b, c] = false := by with_unfolding_all rfl) : QT X (.Compare a [op, op'] [b, c] pos) (pB (pChainI f g pa pb pc)) := by
  obtain ⟨ta, a1, a2⟩ := ha
  obtain ⟨tb, b1, b2⟩ := hb
  obtain ⟨tc, c1, c2⟩ := hc
  exact ⟨_, pt_chain ho ho' a1 b1 c1 hm, abs_b (abs_chain a2 b2 c2)⟩
end
end L3
set_option Elab.async false
set_option linter.all false
set_option maxRecDepth 100000
set_option maxHeartbeats 1000000
/-! The law's own call, and its first statement. -/
namespace L3
open PySem PySem.Spec PyProof.Rows L2
/-- what a law promises: of a list of ints it hands back True -/
def spLaw (K : PySem.W.Frag) : Sp := fun vs H Q _ => ∃ (a : Addr) (ns : List Int), vs = [.ref a] ∧ SqL K H a (ns.map V.int) ∧ ns.length ≤ 63 ∧ ∀ H', Q (.bl true) H'
/-- a run of the law over a tracked heap in which nothing but the script may stand, frozen -/
theorem law_core {P : Program} {w : World} {K : PySem.W.Frag} {mg mb : Str → Option Value} {k : Nat} {fa a : Addr} {fd : FuncData} {x : Str} {s1 : Shared} {vs : List Value} {ns : List Int} {H : Hp} {ob : Obj}
    (KX : K.In s1.heap) (hns : s1.heap.Ns mainGlobals mg) (hb : s1.heap.Ns builtinsNs mb) (hbb : ∀ x : Str, x ≠ "__name__" → mb x = bootBuiltins x) (lim : s1.heap.NoLimit) (gens : s1.gens = #[])
    (ha : s1.heap.get? a = some { cls := .type "list", data := .seq vs.toArray }) (hl : ns.length ≤ 63) (hr : Room k callerA)
    (F : ∀ base : Heap, K.In base → base.Ns mainGlobals mg → FnS P w K mg base k fa fd [x] (spLaw K)) (bind : ∀ (s : Shared) (u : Value), BindsTo s fd ⟨[u], []⟩ [(x, u)])
    (hS : SqL K H a (ns.map V.int)) (hok : HOk P w H s1.heap) (hA : ∀ b u, H b = some u → b = a ∧ u = .frz ob (.lst (ns.map V.int)) ∧ K.lookup b = none) :
    codeAny (model P w) callerA (.call (.ref fa) ⟨[.ref a], []⟩) (fun r s' => r = .ok (.ret (.bool true)) ∧ OldK s1.heap s'.heap ∧ s'.os = s1.os ∧ AllBare s'.gens) s1 := by
  have nodict : ∀ {b : Addr} {o : Obj} {es : Array DictEntry} {ep : Nat}, s1.heap.get? b = some o → o.data = .dict es ep → H b = none := by
    intro b o es ep e d
    cases q : H b with
    | none => rfl
    | some u =>
      obtain ⟨rfl, _, _⟩ := hA b u q
      rw [ha] at e
      injection e with e
      rw [← e] at d
      exact absurd d (fun z => nomatch z)
  have ns_ : ∀ {b : Addr} {m : Str → Option Value}, s1.heap.Ns b m → (hidT s1.heap H).Ns b m := by
    rintro b m ⟨o, es, ep, e, d, r⟩
    exact ⟨o, es, ep, hidT_get e (nodict e d), d, r⟩
  have kb : K.In (hidT s1.heap H) := by
    intro b o e
    refine hidT_get (KX b o e) ?_
    cases q : H b with
    | none => rfl
    | some u => rw [(hA b u q).2.2] at e; cases e
  have md : Mod K mg (hidT s1.heap H) := by
    obtain ⟨mc, l1, l2⟩ := lim
    exact ⟨kb, ns_ hns, ⟨mb, ns_ hb, hbb⟩, ⟨mc, ns_ l1, l2⟩⟩
  have e0 : Env0 P w K mg (hidT s1.heap H) callerA [] s1 H :=
    { frames := rfl, mod := md, bs := fun b o e => of_hidT e, bsz := Nat.le_of_eq (hidT_size _ _), funs := trivial, frf := fun b hb => absurd (show b ∈ ([] : List Addr) from hb) (by simp), hok := hok, bare := .of_eq gens }
  have go := (F _ kb (ns_ hns)).run callerA [] s1 H ⟨[.ref a], []⟩ [.ref a] [.ref a] (fun v _ => v = .bl true) hr rfl e0 (bind s1 (.ref a)) (.cons rfl .nil) ⟨a, ns, rfl, hS, hl, fun _ => rfl⟩
  refine codeAny_mono go fun r s' h => ?_
  match r, h with
  | .ok (.ret u), ⟨v, H', os, bare, un, hok', rv, qv⟩ =>
    have qv : v = .bl true := qv
    rw [qv] at rv
    have rv : u = .bool true := rv
    rw [rv]
    refine ⟨rfl, OldK.of_keep ?_, os, bare⟩
    intro b o e
    cases q : H b with
    | none => exact un.keep b o e q (fun z => nomatch z) (fun z => nomatch z)
    | some u =>
      obtain ⟨_, rfl, _⟩ := hA b u q
      have k1 := (hok b _ q).1
      rw [e] at k1
      injection k1 with k1
      rw [k1]
      exact (hok' b _ (un.frzs b ob _ q)).1
theorem law_callG {P : Program} {w : World} {K : PySem.W.Frag} {mg mb : Str → Option Value} {k : Nat} {fa a : Addr} {fd : FuncData} {x : Str} {s1 : Shared} {vs : List Value} {ns : List Int}
    (KX : K.In s1.heap) (hns : s1.heap.Ns mainGlobals mg) (hb : s1.heap.Ns builtinsNs mb) (hbb : ∀ x : Str, x ≠ "__name__" → mb x = bootBuiltins x) (lim : s1.heap.NoLimit) (gens : s1.gens = #[])
    (ha : s1.heap.get? a = some { cls := .type "list", data := .seq vs.toArray }) (hi : IntsAre vs ns) (hl : ns.length ≤ 63) (hr : Room k callerA)
    (F : ∀ base : Heap, K.In base → base.Ns mainGlobals mg → FnS P w K mg base k fa fd [x] (spLaw K)) (bind : ∀ (s : Shared) (u : Value), BindsTo s fd ⟨[u], []⟩ [(x, u)]) :
    codeAny (model P w) callerA (.call (.ref fa) ⟨[.ref a], []⟩) (fun r s' => r = .ok (.ret (.bool true)) ∧ OldK s1.heap s'.heap ∧ s'.os = s1.os ∧ AllBare s'.gens) s1 := by
  have rv := vals_ints hi
  have lv := hi.length
  have big : ns.length ≤ sizeLine := by rw [sizeLine_eq]; omega
  by_cases hk : K.lookup a = none
  · refine law_core (H := fun b => if b = a then some (.frz { cls := .type "list", data := .seq vs.toArray } (.lst (ns.map V.int))) else none) (ob := { cls := .type "list", data := .seq vs.toArray }) KX hns hb hbb lim gens ha hl hr F bind (.inl (.inr ⟨_, if_pos rfl⟩)) ?_ ?_
    · intro b u z
      by_cases e : b = a
      · have z := (if_pos e).symm.trans z
        injection z with z
        subst z
        subst e
        exact ⟨ha, by rw [List.length_map]; exact big, vs, _, rv, ha⟩
      · exact absurd ((if_neg e).symm.trans z) (fun q => nomatch q)
    · intro b u z
      by_cases e : b = a
      · have z := (if_pos e).symm.trans z
        injection z with z
        exact ⟨e, z.symm, by rw [e]; exact hk⟩
      · exact absurd ((if_neg e).symm.trans z) (fun q => nomatch q)
  · obtain ⟨o, ho⟩ := Option.ne_none_iff_exists'.mp hk
    have e := KX a o ho
    rw [ha] at e
    injection e with e
    subst e
    refine law_core (H := fun _ => none) (ob := { cls := .type "list", data := .seq vs.toArray }) KX hns hb hbb lim gens ha hl hr F bind (.inr ⟨_, vs.toArray, _, ho, rfl, rfl, rfl, ?_, ?_⟩) (fun b u z => nomatch z) (fun b u z => nomatch z)
    · rw [List.size_toArray]; omega
    · simpa using rv
/-- THE END of a law -/
theorem walk_ofG {l : PySem.W.OpenLaw} {k : Nat} {q : Program} {loose : List Str} {XP : (Str → Option Value) → Heap → Prop} {YP : World → Heap → Prop} {d : DefRec} {K : Params → PySem.W.Frag} {x : Str}
    (hn : l.most = some 63) (hdf : d.params.defaults = []) (hr : Room k callerA)
    (hY : ∀ (w : World) (h : Heap), YP w h → (K w.params).In h)
    (F : ∀ (w : World) (mg : Str → Option Value) (fa : Addr) (h : Heap), (K w.params).In h → h.Ns mainGlobals mg → mg d.name = some (.ref fa) →
      ∃ fd : FuncData, (∀ (s : Shared) (u : Value), BindsTo s fd ⟨[u], []⟩ [(x, u)]) ∧
        ∀ base : Heap, (K w.params).In base → base.Ns mainGlobals mg → FnS l.prog w (K w.params) mg base k fa fd [x] (spLaw (K w.params))) :
    PySem.W.WalkO q loose XP YP l.row.toRowW d [] (fun f vs => PySem.call f vs) := by
  apply Att.attach_call hn hdf
  intro w s0 s1 mg mb fa o pm cd doc a vs ns G Y ho hd hcd hmg hobj hints hlen hg
  have KX := hY w _ Y
  obtain ⟨fd, hb, hF⟩ := F w mg fa _ KX G.T.g hmg
  exact law_callG KX G.T.g G.T.b G.T.builtins G.T.nolimit hg hobj hints hlen hr hF hb

/-- the first statement of a def, those behind it -/
def firstS (st : Stmt) : Stmt := (defBody st).headD (.Pass ⟨0, 0, 0, 0⟩)
def restS (st : Stmt) : List Stmt := (defBody st).tail
/-- the source is opened: a new dict, a new list, all else as it was -/
def spOpen (K : PySem.W.Frag) : Sp := fun vs H Q _ => ∃ (a : Addr) (ns : List Int), vs = [.ref a] ∧ SqL K H a (ns.map V.int) ∧ ns.length ≤ 63 ∧
  ∀ H' d c, Same H H' → H d = none → H c = none → SrcAt H' d c → Q (.ref d) H'
section
variable {P : Program} {w : World} {K : PySem.W.Frag} {mg : Str → Option Value} {base : Heap}
/-- a law: it opens its source, the rest is told in this layer -/
theorem law_q {st s0 : Stmt} {rest : List Stmt} {f : Addr} {fd : FuncData} {N : List Str} {k : Nat} {p : PTS} (F : Fun K "law" "law" st f fd) (Sc : FnScope N ["script"] (defScope st)) (hb : defBody st = s0 :: rest) (hN : 2 ≤ N.length)
    (hw : ∀ (cdv : Value) (A : Around) (outer : List Env) (s : Shared) (H : Hp), Room k (A.deeper (envOfC "law" (defScope st) s.heap.objs.size f cdv)) → A.guards = some [] →
      PS (cxOf CX0 P w K mg base N "law" (defScope st) f cdv A outer s H E0).nox s0 (tAsg (tCall (spOpen K) [] E0 (tCons (tVar 0) tNil)) (gName 1)) ∧ QSs (cxOf CX0 P w K mg base N "law" (defScope st) f cdv A outer s H E0).nox rest p)
    (hp : p { nx := fun _ => False, rt := fun d => d = .bool true } (.no :: .src :: List.replicate (N.length - 2) .no)) : FnS P w K mg base (k + 1) f fd ["script"] (spLaw K) := by
  refine fn_ofG F Sc ?_ ?_
  · rintro vs H Q E ⟨a, ns, rfl, _⟩
    rfl
  · rintro cdv A outer s H vs Q hr hgd ⟨a, ns, rfl, hS, hl, q⟩
    obtain ⟨h1, t, t1, t2⟩ := hw cdv A outer s H hr hgd
    rw [hb]
    refine ⟨_, pss_cons h1 t1, ?_⟩
    refine ⟨.ref a, rfl, a, ns, rfl, hS, hl, fun H' d c sm nd nc sa => ?_⟩
    have hlen : (L2.start N [V.ref a]).length = N.length := by unfold L2.start; simp; omega
    refine t2 ⟨fun _ => none, H, none⟩ (fun _ => none) (some (d, c)) _ _ (fun _ => none) H' _ _ ?_ hp ?_
    · refine ⟨⟨fun b o e _ => sm b o e, fun b o e => ⟨o, sm b o e⟩, Sub.refl _, (fun b o e => nomatch e), (fun b o e _ => nomatch e)⟩, (fun b i e => nomatch e), ?_, .inr ⟨rfl, ?_⟩, ?_, ?_⟩
      · rintro d' c' e
        cases e
        exact ⟨rfl, rfl, rfl, rfl, sa⟩
      · rintro d' c' e
        cases e
        exact ⟨nd, nc⟩
      · rw [List.length_set, hlen]; simp; omega
      · intro i sv e
        match i, e with
        | 0, e => simp at e; subst e; trivial
        | 1, e =>
          simp at e
          subst e
          refine ⟨d, c, ?_, rfl⟩
          rw [List.getElem?_set_self (by rw [hlen]; omega)]
        | j + 2, e =>
          have := List.mem_of_getElem? (show (List.replicate (N.length - 2) SV.no)[j]? = some sv by simpa using e)
          rw [List.mem_replicate] at this
          rw [this.2]
          trivial
    · refine ⟨fun _ _ _ _ _ _ z => z.elim, fun v d G' H' e _ _ hv => ?_, fun _ _ _ _ _ _ z => z.elim, fun _ _ _ _ _ _ z => z.elim, fun _ _ _ _ z => z.elim⟩
      have e : d = .bool true := e
      subst e
      cases hv
      exact q H'
end
end L3
set_option Elab.async false
set_option linter.all false
set_option maxRecDepth 100000
set_option maxHeartbeats 1000000
/-! The source of draws: how it is opened, how it is drawn from. -/
namespace L3
open PySem PySem.Spec PyProof.Rows L2
def rInt1 : List V → Hp → VK → Prop := fun xs H Q => (∃ i, xs = [V.int i] ∧ Q (V.int i) H) ∨ ∃ k, xs = [V.bl k] ∧ Q (V.int (if k = true then 1 else 0)) H
def tOpen (K : PySem.W.Frag) : TS :=
  tSeq (tAsg (tC (V.int 11)) (gName 1)) (tSeq (tFor (iList K (tVar 0)) (gName 2) (tAsg (tOp (rI (fun _ j => 0 < j) fun i j => V.int (i % j))
      (tCB rInt1 (tCons (tOp (rI0 fun i j => V.int (i + j)) (tOp (rI0 fun i j => V.int (i + j)) (tOp (rI CMul fun i j => V.int (i * j)) (tVar 1) (tC (V.int 69069))) (tOp (rI CMul fun i j => V.int (i * j)) (tVar 2) (tC (V.int 31)))) (tC (V.int 5))) tNil)) (tC (V.int 2147483629))) (gName 1)))
    (tSeq (tAsg (tLc (iList K (tVar 0)) (gName 2) tYes (tCB (fun xs H Q => ∃ i, xs = [V.int i] ∧ Q (V.int (if i < 0 then -i else i)) H) (tCons (tVar 2) tNil)) [2]) (gName 3))
      (tRet (tDisp [(tC (V.str (Str.ofString "cells")), tRevL K (tVar 3)), (tC (V.str (Str.ofString "left")), tC (V.int 1)), (tC (V.str (Str.ofString "mixed")), tVar 1), (tC (V.str (Str.ofString "turn")), tC (V.int 0))]))))
theorem keys_ne : kCells ≠ kLeft ∧ kCells ≠ kMixed ∧ kCells ≠ kTurn ∧ kLeft ≠ kMixed ∧ kLeft ≠ kTurn ∧ kMixed ≠ kTurn := by
  have h : ∀ a b : Str, a ≠ b → (Sum.inr a : Key) ≠ Sum.inr b := fun a b n e => n (Sum.inr.inj e)
  exact ⟨h _ _ (by decide +kernel), h _ _ (by decide +kernel), h _ _ (by decide +kernel), h _ _ (by decide +kernel), h _ _ (by decide +kernel), h _ _ (by decide +kernel)⟩
theorem merge4 (a b c d : V) : mergeK [] [(kCells, a), (kLeft, b), (kMixed, c), (kTurn, d)] = [(kCells, a), (kLeft, b), (kMixed, c), (kTurn, d)] := by
  obtain ⟨h1, h2, h3, h4, h5, h6⟩ := keys_ne
  simp [mergeK, putK, h1, h2, h3, h4, h5, h6, h1.symm]
theorem open_run {K : PySem.W.Frag} {N : List Str} {a : Addr} {ns : List Int} {H : Hp} {Q : VK} {D : Ends} (hD : D.rt = Q) (hS : SqL K H a (ns.map V.int)) (hl : ns.length ≤ 63) (q : ∀ H' d c, Same H H' → H d = none → H c = none → SrcAt H' d c → Q (.ref d) H') :
    tOpen K D [some (.ref a), none, none, none] H := by
  subst hD
  refine ⟨_, rfl, a, rfl, ⟨_, hS⟩, for_list (K := K) (a := a) (xs := ns.map V.int) (fun i σ H2 => ∃ m v, σ = [some (.ref a), some (.int m), v, none] ∧ H2 = H) ⟨11, none, rfl, rfl⟩ ?_ ?_ ?_⟩
  · rintro i σ H2 _ ⟨m, v, rfl, rfl⟩
    exact hS
  · rintro i x σ H2 hx ⟨m, v, rfl, rfl⟩
    have hx := List.mem_of_getElem? hx
    rw [List.mem_map] at hx
    obtain ⟨n, _, rfl⟩ := hx
    refine ⟨_, rfl, _, _, rfl, rfl, .inr ⟨by decide, by decide⟩, _, rfl, _, _, rfl, rfl, .inr ⟨by decide, by decide⟩, _, _, rfl, rfl, _, _, rfl, rfl, .inl ⟨_, rfl, _, _, rfl, rfl, (by show (0:Int) < 2147483629; decide), ?_⟩⟩
    exact ⟨_, _, rfl, rfl⟩
  · rintro σ H2 ⟨m, v, rfl, rfl⟩
    refine ⟨_, rfl, a, rfl, ⟨_, hS⟩, fun L nL => lc_list (K := K) (a := a) (xs := ns.map V.int) (fun i H3 => Same H2 H3 ∧ ∃ ms : List Int, ms.length = i ∧ H3 L = some (.lst (ms.map V.int))) ?_ ?_ ?_ ?_⟩
    · exact ⟨fun b o e => by rw [upd_ne (ne_of_none e nL)]; exact e, [], rfl, upd_same⟩
    · rintro i H3 _ ⟨sm, _⟩
      exact sm.seq hS
    · rintro i x H3 hx ⟨sm, ms, hms, hL⟩
      have hi := (List.getElem?_eq_some_iff.mp hx).1
      have hx := List.mem_of_getElem? hx
      rw [List.mem_map] at hx
      obtain ⟨n, _, rfl⟩ := hx
      refine ⟨rfl, ?_⟩
      simp only [tYes, if_true]
      refine ⟨_, rfl, _, rfl, ms.map V.int, hL, ?_, ?_⟩
      · rw [List.length_map, hms, sizeLine_eq]
        rw [List.length_map] at hi
        omega
      · refine ⟨fun b o e => ?_, ms ++ [if n < 0 then -n else n], by simp [hms], by rw [upd_same]; simp⟩
        rw [upd_ne (ne_of_none e nL)]
        exact sm b o e
    · rintro H3 ⟨sm, ms, hms, hL⟩
      intro d nd
      have nLd : L ≠ d := ne_of_none hL nd
      refine ⟨_, rfl, L, ms.map V.int, rfl, .inl (.inl (by rw [upd_ne nLd]; exact hL)), fun c nc => ?_⟩
      have ncd : c ≠ d := fun z => by rw [z, upd_same] at nc; cases nc
      have nc' : H3 c = none := by rw [upd_ne ncd] at nc; exact nc
      have hd2 : upd (upd H3 d (HO.dK [])) c (HO.lst (ms.map V.int).reverse) d = some (.dK []) := by rw [upd_ne ncd.symm, upd_same]
      refine ⟨_, rfl, hd2, [(kCells, .ref c), (kLeft, .int 1), (kMixed, .int m), (kTurn, .int 0)], rfl, (by simp), ?_⟩
      rw [merge4]
      refine q _ d c ?_ ?_ ?_ ⟨ncd.symm, ms.reverse, 1, m, 0, upd_same, ?_⟩
      · intro b o e
        have h3 := sm b o e
        rw [upd_ne (ne_of_none h3 nd), upd_ne (ne_of_none h3 nc'), upd_ne (ne_of_none h3 nd)]
        exact h3
      · exact Same.free sm nd
      · exact Same.free sm nc'
      · rw [upd_ne ncd, upd_same, List.map_reverse]

/-! ### a draw -/
theorem ite_t {c : Prop} [Decidable c] {A B : Prop} (h : c) (a : A) : if c then A else B := by rw [if_pos h]; exact a
theorem ite_f {c : Prop} [Decidable c] {A B : Prop} (h : ¬ c) (a : B) : if c then A else B := by rw [if_neg h]; exact a
def tKey (x : String) : TE := tC (V.str (Str.ofString x))
def tPick (K : PySem.W.Frag) : TS :=
  tSeq (tIfS (tB (tLt (tVar 1) (tC (V.int 2)))) (tRet (tC (V.int 0))) tNext)
  (tSeq (tAsg (tDGet (tVar 0) (tKey "cells")) (gName 2))
  (tSeq (tWhile (tAnd (tB (tLt (tDGet (tVar 0) (tKey "left")) (tC (V.int 2)))) (tB (tGt (tCB (fun xs H Q => ∃ x n, xs = [x] ∧ LenV K x H n ∧ Q (.int n) H) (tCons (tVar 2) tNil)) (tC (V.int 0)))))
      (sDPut (tVar 0) (tKey "left") (tBM0 K "list" rPop (tVar 2))))
  (tSeq (tAsg (tDGet (tVar 0) (tKey "left")) (gName 3))
  (tSeq (tIfS (tB (tGt (tVar 3) (tC (V.int 1)))) (tSeq (sDPut (tVar 0) (tKey "left") (tOp (rI CDiv fun i j => V.int (i / j)) (tVar 3) (tVar 1)))
      (tRet (tOp (rI (fun _ j => 0 < j) fun i j => V.int (i % j)) (tCB rInt1 (tCons (tVar 3) tNil)) (tVar 1)))) tNext)
  (tSeq (sDPut (tVar 0) (tKey "turn") (tOp (rI0 fun i j => V.int (i + j)) (tDGet (tVar 0) (tKey "turn")) (tC (V.int 1))))
  (tSeq (tAsg (tDGet (tVar 0) (tKey "turn")) (gName 4))
  (tSeq (tAsg (tOp (rI (fun _ j => 0 < j) fun i j => V.int (i % j)) (tCB rInt1 (tCons (tOp (rI0 fun i j => V.int (i + j)) (tDGet (tVar 0) (tKey "mixed")) (tOp (rI CMul fun i j => V.int (i * j)) (tVar 4) (tC (V.int 104729)))) tNil)) (tC (V.int 998244353))) (gName 5))
  (tSeq (tAsg (tOp (rI (fun _ j => 0 < j) fun i j => V.int (i % j)) (tCB rInt1 (tCons (tOp (rI0 fun i j => V.int (i + j)) (tOp (rI CMul fun i j => V.int (i * j)) (tVar 5) (tVar 5)) (tOp (rI CMul fun i j => V.int (i * j)) (tVar 4) (tC (V.int 17)))) tNil)) (tC (V.int 2147483647))) (gName 5))
  (tRet (tOp (rI (fun _ j => 0 < j) fun i j => V.int (i % j)) (tCB rInt1 (tCons (tOp (rI CDiv fun i j => V.int (i / j)) (tVar 5) (tC (V.int 16))) tNil)) (tVar 1)))))))))))
structure SrcC (H : Hp) (d c : Addr) (ns : List Int) (l m t : Int) : Prop where
  ne : d ≠ c
  hd : H d = some (.dK [(kCells, .ref c), (kLeft, .int l), (kMixed, .int m), (kTurn, .int t)])
  hc : H c = some (.lst (ns.map V.int))
def Fr (d c : Addr) (H H' : Hp) : Prop := (∀ a o, H a = some o → a ≠ d → a ≠ c → H' a = some o) ∧ ∀ a o, H a = some o → ∃ o', H' a = some o'
theorem Fr.refl (d c : Addr) (H : Hp) : Fr d c H H := ⟨fun _ _ e _ _ => e, fun _ o e => ⟨o, e⟩⟩
theorem Fr.wr {d c a : Addr} {H H' : Hp} (f : Fr d c H H') (h : a = d ∨ a = c) (o : HO) : Fr d c H (upd H' a o) :=
  ⟨fun b u e n1 n2 => by rw [upd_ne (h.elim (fun z => z ▸ n1) fun z => z ▸ n2)]; exact f.1 b u e n1 n2, fun b u e => by
    by_cases q : b = a
    · subst q; exact ⟨o, upd_same⟩
    · rw [upd_ne q]; exact f.2 b u e⟩
theorem SrcC.getLeft {H : Hp} {d c : Addr} {ns : List Int} {l m t : Int} (h : SrcC H d c ns l m t) : DGet H d (V.str (Str.ofString "left")) (some (.int l)) := by
  obtain ⟨h1, h2, h3, h4, h5, h6⟩ := keys_ne
  have := DGet.k (k := kLeft) h.hd
  rw [show valV [(kCells, V.ref c), (kLeft, .int l), (kMixed, .int m), (kTurn, .int t)] kLeft = some (.int l) by simp [valV, h1]] at this
  exact this
theorem SrcC.getCells {H : Hp} {d c : Addr} {ns : List Int} {l m t : Int} (h : SrcC H d c ns l m t) : DGet H d (V.str (Str.ofString "cells")) (some (.ref c)) := by
  have := DGet.k (k := kCells) h.hd
  rw [show valV [(kCells, V.ref c), (kLeft, .int l), (kMixed, .int m), (kTurn, .int t)] kCells = some (.ref c) by simp [valV]] at this
  exact this
theorem SrcC.getMixed {H : Hp} {d c : Addr} {ns : List Int} {l m t : Int} (h : SrcC H d c ns l m t) : DGet H d (V.str (Str.ofString "mixed")) (some (.int m)) := by
  obtain ⟨h1, h2, h3, h4, h5, h6⟩ := keys_ne
  have := DGet.k (k := kMixed) h.hd
  rw [show valV [(kCells, V.ref c), (kLeft, .int l), (kMixed, .int m), (kTurn, .int t)] kMixed = some (.int m) by simp [valV, h2, h4]] at this
  exact this
theorem SrcC.getTurn {H : Hp} {d c : Addr} {ns : List Int} {l m t : Int} (h : SrcC H d c ns l m t) : DGet H d (V.str (Str.ofString "turn")) (some (.int t)) := by
  obtain ⟨h1, h2, h3, h4, h5, h6⟩ := keys_ne
  have := DGet.k (k := kTurn) h.hd
  rw [show valV [(kCells, V.ref c), (kLeft, .int l), (kMixed, .int m), (kTurn, .int t)] kTurn = some (.int t) by simp [valV, h3, h5, h6]] at this
  exact this
theorem SrcC.putLeft {H : Hp} {d c : Addr} {ns : List Int} {l m t : Int} (h : SrcC H d c ns l m t) (v : Int) : ∃ H', DPut H d (V.str (Str.ofString "left")) (.int v) H' ∧ SrcC H' d c ns v m t ∧ ∃ o, H' = upd H d o := by
  obtain ⟨h1, h2, h3, h4, h5, h6⟩ := keys_ne
  have p := DPut.k (k := kLeft) (v := .int v) h.hd (by rw [sizeLine_eq]; simp)
  refine ⟨_, p, ⟨h.ne, ?_, ?_⟩, _, rfl⟩
  · rw [upd_same]; simp [putK, h1, h4.symm, h5.symm]
  · rw [upd_ne h.ne.symm]; exact h.hc
theorem SrcC.putTurn {H : Hp} {d c : Addr} {ns : List Int} {l m t : Int} (h : SrcC H d c ns l m t) (v : Int) : ∃ H', DPut H d (V.str (Str.ofString "turn")) (.int v) H' ∧ SrcC H' d c ns l m v ∧ ∃ o, H' = upd H d o := by
  obtain ⟨h1, h2, h3, h4, h5, h6⟩ := keys_ne
  have p := DPut.k (k := kTurn) (v := .int v) h.hd (by rw [sizeLine_eq]; simp)
  refine ⟨_, p, ⟨h.ne, ?_, ?_⟩, _, rfl⟩
  · rw [upd_same]; simp [putK, h3, h5, h6]
  · rw [upd_ne h.ne.symm]; exact h.hc
theorem SrcC.pop {H : Hp} {d c : Addr} {ns : List Int} {l m t : Int} (h : SrcC H d c ns l m t) : SrcC (upd H c (.lst (ns.map V.int).dropLast)) d c ns.dropLast l m t :=
  ⟨h.ne, by rw [upd_ne h.ne]; exact h.hd, by rw [upd_same, List.map_dropLast]⟩
theorem SrcC.at {H : Hp} {d c : Addr} {ns : List Int} {l m t : Int} (h : SrcC H d c ns l m t) : SrcAt H d c := ⟨h.ne, ns, l, m, t, h.hd, h.hc⟩
theorem pick_run {K : PySem.W.Frag} {d c : Addr} {most : Int} {H : Hp} {Q : VK} {D : Ends} (hD : D.rt = Q) (hS : SrcAt H d c) (hm : most < 1073741824)
    (q : ∀ r H', 0 ≤ r → r < max most 1 → SrcAt H' d c → Fr d c H H' → Q (.int r) H') : tPick K D [some (.ref d), some (.int most), none, none, none, none] H := by
  subst hD
  obtain ⟨hne, ns, l, m, t, hd, hc⟩ := hS
  have S0 : SrcC H d c ns l m t := ⟨hne, hd, hc⟩
  refine ⟨_, rfl, _, _, rfl, rfl, _, rfl, ?_⟩
  by_cases h2 : most < 2
  · refine ite_t (by simpa using h2) ?_
    exact q 0 H (by omega) (by omega) S0.at (.refl _ _ _)
  refine ite_f (by simpa using h2) ?_
  have hmod : ∀ i : Int, 0 ≤ i % most ∧ i % most < max most 1 := fun i => ⟨Int.emod_nonneg _ (by omega), by have := Int.emod_lt_of_pos i (b := most) (by omega); omega⟩
  refine ⟨_, rfl, d, .ref c, rfl, S0.getCells, ?_⟩
  refine ⟨fun k σ H1 => σ = [some (.ref d), some (.int most), some (.ref c), none, none, none] ∧ Fr d c H H1 ∧ ∃ ns l, ns.length = k ∧ SrcC H1 d c ns l m t, ⟨_, rfl, .refl _ _ _, ns, l, rfl, S0⟩, ?_⟩
  rintro k σ H1 ⟨rfl, F1, ns1, l1, hk, S1⟩
  have rest : D.rt = D.rt → (tSeq (tAsg (tDGet (tVar 0) (tKey "left")) (gName 3))
      (tSeq (tIfS (tB (tGt (tVar 3) (tC (V.int 1)))) (tSeq (sDPut (tVar 0) (tKey "left") (tOp (rI CDiv fun i j => V.int (i / j)) (tVar 3) (tVar 1)))
      (tRet (tOp (rI (fun _ j => 0 < j) fun i j => V.int (i % j)) (tCB rInt1 (tCons (tVar 3) tNil)) (tVar 1)))) tNext)
  (tSeq (sDPut (tVar 0) (tKey "turn") (tOp (rI0 fun i j => V.int (i + j)) (tDGet (tVar 0) (tKey "turn")) (tC (V.int 1))))
  (tSeq (tAsg (tDGet (tVar 0) (tKey "turn")) (gName 4))
  (tSeq (tAsg (tOp (rI (fun _ j => 0 < j) fun i j => V.int (i % j)) (tCB rInt1 (tCons (tOp (rI0 fun i j => V.int (i + j)) (tDGet (tVar 0) (tKey "mixed")) (tOp (rI CMul fun i j => V.int (i * j)) (tVar 4) (tC (V.int 104729)))) tNil)) (tC (V.int 998244353))) (gName 5))
  (tSeq (tAsg (tOp (rI (fun _ j => 0 < j) fun i j => V.int (i % j)) (tCB rInt1 (tCons (tOp (rI0 fun i j => V.int (i + j)) (tOp (rI CMul fun i j => V.int (i * j)) (tVar 5) (tVar 5)) (tOp (rI CMul fun i j => V.int (i * j)) (tVar 4) (tC (V.int 17)))) tNil)) (tC (V.int 2147483647))) (gName 5))
  (tRet (tOp (rI (fun _ j => 0 < j) fun i j => V.int (i % j)) (tCB rInt1 (tCons (tOp (rI CDiv fun i j => V.int (i / j)) (tVar 5) (tC (V.int 16))) tNil)) (tVar 1)))))))))
      D [some (.ref d), some (.int most), some (.ref c), none, none, none] H1 := by
    intro _
    refine ⟨_, rfl, d, .int l1, rfl, S1.getLeft, ?_⟩
    refine ⟨_, rfl, _, _, rfl, rfl, _, rfl, ?_⟩
    by_cases h3 : l1 > 1
    · refine ite_t (by simpa using h3) ?_
      obtain ⟨H2, dp, S2, o, rfl⟩ := S1.putLeft (l1 / most)
      refine ⟨_, rfl, _, rfl, l1, most, rfl, rfl, ⟨by omega, hm⟩, ?_⟩
      refine ⟨_, rfl, d, _, rfl, dp, ?_⟩
      refine ⟨_, rfl, .inl ⟨l1, rfl, _, rfl, l1, most, rfl, rfl, by omega, ?_⟩⟩
      exact q _ _ (hmod l1).1 (hmod l1).2 S2.at (F1.wr (.inl rfl) _)
    refine ite_f (by simpa using h3) ?_
    obtain ⟨H2, dp, S2, o, rfl⟩ := S1.putTurn (t + 1)
    refine ⟨_, rfl, d, .int t, rfl, S1.getTurn, t, 1, rfl, rfl, ?_⟩
    refine ⟨_, rfl, d, _, rfl, dp, ?_⟩
    refine ⟨_, rfl, d, _, rfl, S2.getTurn, ?_⟩
    refine ⟨_, rfl, d, _, rfl, S2.getMixed, _, rfl, t + 1, 104729, rfl, rfl, .inr ⟨by decide, by decide⟩, m, _, rfl, rfl, .inl ⟨_, rfl, _, _, rfl, rfl, (by show (0:Int) < 998244353; decide), ?_⟩⟩
    refine ⟨_, rfl, _, rfl, _, _, rfl, rfl, .inl ⟨?_, ?_⟩, _, rfl, _, _, rfl, rfl, .inr ⟨by decide, by decide⟩, _, _, rfl, rfl, .inl ⟨_, rfl, _, _, rfl, rfl, (by show (0:Int) < 2147483647; decide), ?_⟩⟩
    · have := Int.emod_nonneg (m + (t + 1) * 104729) (b := 998244353) (by decide); omega
    · have := Int.emod_lt_of_pos (m + (t + 1) * 104729) (b := 998244353) (by decide); omega
    refine ⟨_, rfl, _, _, rfl, rfl, ⟨by decide, by decide⟩, .inl ⟨_, rfl, _, rfl, _, _, rfl, rfl, by omega, ?_⟩⟩
    exact q _ _ (hmod _).1 (hmod _).2 S2.at (F1.wr (.inl rfl) _)
  refine ⟨_, rfl, d, .int l1, rfl, S1.getLeft, _, _, rfl, rfl, _, rfl, ?_⟩
  by_cases h4 : l1 < 2
  · refine ite_t (by simpa using h4) ?_
    refine ⟨_, rfl, _, ns1.length, rfl, ?_, _, _, rfl, rfl, _, rfl, ?_⟩
    · exact .inl ⟨ns1.map V.int, .of S1.hc, by rw [List.length_map]⟩
    by_cases h5 : 0 < ns1.length
    · refine ite_t (by simpa using h5) ?_
      refine ⟨fun σ H2 => σ = [some (.ref d), some (.int most), some (.ref c), none, none, none] ∧ Fr d c H H2 ∧ ∃ ns l, ns.length + 1 = k ∧ SrcC H2 d c ns l m t, fun σ' H' ⟨e1, e2, ns2, l2, e3, e4⟩ => ⟨ns2.length, by omega, e1, e2, ns2, l2, rfl, e4⟩, ?_⟩
      obtain ⟨y, hy⟩ : ∃ y, ns1[ns1.length - 1]? = some y := ⟨ns1[ns1.length - 1], by simp [h5]⟩
      obtain ⟨H2, dp, S2, o, e⟩ := S1.pop.putLeft y
      refine ⟨_, rfl, ?_, c, ns1.map V.int, .int y, rfl, rfl, S1.hc, ?_, ?_⟩
      · exact .inl ⟨rfl, _, .of S1.hc⟩
      · rw [List.length_map, List.getElem?_map, hy]; rfl
      refine ⟨_, rfl, d, H2, rfl, dp, rfl, ?_, ns1.dropLast, y, ?_, S2⟩
      · rw [e]; exact (F1.wr (.inr rfl) _).wr (.inl rfl) _
      · rw [List.length_dropLast]; omega
    · refine ite_f (by simpa using h5) ?_
      exact rest rfl
  · refine ite_f (by simpa using h4) ?_
    exact rest rfl

/-- a draw: any number below the bound -/
def S_pick : FS := fun as Q => match as with
  | [.s, .d (.int m)] => m < 1073741824 ∧ ∀ r : Int, 0 ≤ r → r < max m 1 → Q (.int r)
  | _ => False
section
variable {P : Program} {w : World} {K : PySem.W.Frag} {mg : Str → Option Value} {base : Heap}
theorem open_fn {qual x : Str} {st : Stmt} {f : Addr} {fd : FuncData} {N : List Str} {k : Nat} (F : Fun K x qual st f fd) (Sc : FnScope N ["script"] (defScope st)) (hN : N.length = 4) (mgx : mg x = some (.ref f)) (hb : Binds K fd ["script"] [])
    (hw : ∀ (cdv : Value) (A : Around) (outer : List Env) (s : Shared) (H : Hp), Room k (A.deeper (envOfC qual (defScope st) s.heap.objs.size f cdv)) → PSs (cxOf CX0 P w K mg base N qual (defScope st) f cdv A outer s H E0).nox (defBody st) (tOpen K)) :
    FnAt P w K mg base x (k + 1) (spOpen K) := by
  refine ⟨f, fd, _, fn_ofG F Sc ?_ ?_, mgx, F.kp, hb⟩
  · rintro vs H Q E ⟨a, ns, rfl, _⟩
    rfl
  · rintro cdv A outer s H vs Q hr hgd ⟨a, ns, rfl, hS, hl, q⟩
    refine ⟨_, hw cdv A outer s H hr, ?_⟩
    have e : L2.start N [V.ref a] = [some (.ref a), none, none, none] := by unfold L2.start; simp [hN]
    rw [e]
    exact open_run (N := N) rfl hS hl q
theorem pick_fn {qual x : Str} {st : Stmt} {f : Addr} {fd : FuncData} {N : List Str} {k : Nat} (F : Fun K x qual st f fd) (Sc : FnScope N ["source", "most"] (defScope st)) (hN : N.length = 6) (mgx : mg x = some (.ref f)) (hb : Binds K fd ["source", "most"] [])
    (hw : ∀ (cdv : Value) (A : Around) (outer : List Env) (s : Shared) (H : Hp), Room k (A.deeper (envOfC qual (defScope st) s.heap.objs.size f cdv)) → PSs (cxOf CX0 P w K mg base N qual (defScope st) f cdv A outer s H E0).nox (defBody st) (tPick K)) :
    FnQ P w K mg base x (k + 1) S_pick := by
  refine ⟨f, fd, _, fn_ofG F Sc ?_ ?_, mgx, F.kp, hb⟩
  · rintro vs H Q E ⟨G, sr, as, Qp, _, h2, _, h4, _⟩
    rw [h2.len]
    match as, h4 with
    | [.s, .d (.int m)], _ => rfl
  · rintro cdv A outer s H vs Q hr hgd ⟨G, sr, as, Qp, h1, h2, h3, h4, h5⟩
    refine ⟨_, hw cdv A outer s H hr, ?_⟩
    match as, h4, h2 with
    | [.s, .d (.int m)], ⟨hm, h4⟩, .s (d := d) (c := c) hsr (.d hd .nil) =>
      cases hd
      obtain ⟨g1, g2, sa⟩ := h3 _ _ hsr
      have e : L2.start N [V.ref d, V.int m] = [some (.ref d), some (.int m), none, none, none, none] := by unfold L2.start; simp [hN]
      rw [e]
      refine pick_run rfl sa hm fun r H' r0 r1 s1 fr => ?_
      refine h5 _ (.int r) G H' (h4 r r0 r1) ⟨?_, fr.2, Sub.refl _, ?_, ?_⟩ ?_ (.int r)
      · intro a o e n
        rw [hsr] at n
        exact fr.1 a o e (fun z => n (.inl z)) (fun z => n (.inr z))
      · intro a o ea
        refine fr.1 a o (h1 a o ea) ?_ ?_
        · rintro rfl; rw [g1] at ea; cases ea
        · rintro rfl; rw [g2] at ea; cases ea
      · intro a o e n; rw [e] at n; cases n
      · intro d' c' e
        rw [hsr] at e
        cases e
        exact ⟨g1, g2, s1⟩
end
end L3
set_option Elab.async false
set_option linter.all false
set_option maxRecDepth 100000
/-! Rules for the pure readings. -/
namespace L3
open PySem L2
abbrev DL (ns : List Int) : D := .list (ns.map PyData.int)
abbrev DT (ns : List Int) : D := .tuple (ns.map PyData.int)
/-! ### items -/
theorem atI_nat {α : Type} {xs : List α} {i : Int} {j : Nat} {x : α} (e : i = (j : Int)) (h : xs[j]? = some x) : atI xs i = some x := by
  subst e
  have hj := (List.getElem?_eq_some_iff.mp h).1
  unfold atI ixN
  rw [if_pos (by omega), if_pos (by omega)]
  simpa using h
theorem atI_last {α : Type} {xs : List α} {x : α} (h : xs[xs.length - 1]? = some x) : atI xs (-1) = some x := by
  have hj := (List.getElem?_eq_some_iff.mp h).1
  unfold atI ixN
  rw [if_neg (by omega), if_pos (by omega)]
  have e : (-1 + (xs.length : Int)).toNat = xs.length - 1 := by omega
  simp [e, h]
theorem getInts {ns : List Int} {j : Nat} (h : j < ns.length) : (ns.map PyData.int)[j]? = some (.int (ns.getD j 0)) := by
  rw [List.getElem?_map, List.getElem?_eq_getElem h, Option.map_some, List.getD_eq_getElem?_getD, List.getElem?_eq_getElem h]; rfl
theorem getInts_inv {ns : List Int} {j : Nat} {d : D} (h : (ns.map PyData.int)[j]? = some d) : j < ns.length ∧ d = .int (ns.getD j 0) := by
  have hj : j < ns.length := by simpa using (List.getElem?_eq_some_iff.mp h).1
  rw [getInts hj] at h
  exact ⟨hj, (Option.some.inj h).symm⟩
theorem ixN_nat {n j : Nat} {i : Int} (e : i = (j : Int)) (h : j < n) : ixN n i = some j := by
  subst e
  unfold ixN
  rw [if_pos (by omega), if_pos (by omega)]
  simp
/-! ### products that may be made -/
theorem mulOk_l {a b : Int} (h1 : -(2 ^ 64) < a) (h2 : a < 2 ^ 64) : MulOk a b := CMul.ok (.inl ⟨h1, h2⟩)
theorem mulOk_r {a b : Int} (h1 : -(2 ^ 64) < b) (h2 : b < 2 ^ 64) : MulOk a b := CMul.ok (.inr ⟨h1, h2⟩)
/-! ### comprehensions -/
theorem lc_yes {α β : Type} {xs : List α} {h : β → D} {acc : List D} {g : α → Option β} {i : Nat} {x : α} {y : β} {e : D} {ρ ρ1 : PSt} (hd : xs[i]? = some x) (hl : xs.length ≤ sizeLine) (ha : acc = ((xs.take i).filterMap g).map h) (hg : g x = some y) (he : e = h y) (hρ : ρ = ρ1) :
    acc.length < sizeLine ∧ acc ++ [e] = ((xs.take (i + 1)).filterMap g).map h ∧ ρ = ρ1 := by
  have hi := (List.getElem?_eq_some_iff.mp hd).1
  have ht : xs.take (i + 1) = xs.take i ++ [x] := by rw [List.take_succ, hd]; rfl
  refine ⟨?_, ?_, hρ⟩
  · have h1 := List.length_filterMap_le g (xs.take i)
    rw [List.length_take] at h1
    rw [ha, List.length_map]
    omega
  · rw [ht, List.filterMap_append, ha, List.map_append]
    simp [hg, he]
theorem lc_no {α β : Type} {xs : List α} {h : β → D} {acc : List D} {g : α → Option β} {i : Nat} {x : α} {ρ ρ1 : PSt} (hd : xs[i]? = some x) (ha : acc = ((xs.take i).filterMap g).map h) (hg : g x = none) (hρ : ρ = ρ1) :
    acc = ((xs.take (i + 1)).filterMap g).map h ∧ ρ = ρ1 := by
  have ht : xs.take (i + 1) = xs.take i ++ [x] := by rw [List.take_succ, hd]; rfl
  refine ⟨?_, hρ⟩
  rw [ht, List.filterMap_append, ha]
  simp [hg]
/-- one that leaves the outer slots as they are: what is walked is xs, told by f; what is kept is told by h -/
theorem lc_ok {α β : Type} {t : PTG} {tt : PTT} {te : PTE} {vs : List Nat} {ds : List D} {ρ1 : PSt} {Q : OP → PSt → Prop} (xs : List α) (f : α → D) (g : α → Option β) (h : β → D) (hds : ds = xs.map f)
    (hb : ∀ (i : Nat) x acc, xs[i]? = some x → acc = ((xs.take i).filterMap g).map h → t (.d (f x)) (wipeP ρ1 vs) fun ρ3 => tt ρ3 fun b ρ4 => if b = true then te ρ4 fun y ρ5 => y.cl fun e => acc.length < sizeLine ∧ acc ++ [e] = ((xs.take (i + 1)).filterMap g).map h ∧ backP ρ1 ρ5 vs = ρ1 else acc = ((xs.take (i + 1)).filterMap g).map h ∧ backP ρ1 ρ4 vs = ρ1)
    (q : Q (.t (.list ((xs.filterMap g).map h))) ρ1) : lcR t tt te vs Q ds ρ1 := by
  unfold lcR
  subst hds
  refine ⟨fun i acc ρ2 => acc = ((xs.take i).filterMap g).map h ∧ ρ2 = ρ1, ⟨rfl, rfl⟩, ?_, ?_⟩
  · rintro i d acc ρ2 hd ⟨ha, rfl⟩
    rw [List.getElem?_map] at hd
    cases hx : xs[i]? with
    | none => rw [hx] at hd; cases hd
    | some x =>
      rw [hx] at hd
      cases hd
      exact hb i x acc hx ha
  · rintro acc ρ2 ⟨rfl, rfl⟩
    rw [List.length_map, List.take_length]
    exact q
theorem lc_inv {t : PTG} {tt : PTT} {te : PTE} {vs : List Nat} {ds : List D} {ρ1 : PSt} {Q : OP → PSt → Prop} (I : Nat → List D → PSt → Prop) (i0 : I 0 [] ρ1)
    (h : ∀ (i : Nat) d acc ρ2, ds[i]? = some d → I i acc ρ2 → t (.d d) (wipeP ρ2 vs) fun ρ3 => tt ρ3 fun b ρ4 => if b = true then te ρ4 fun y ρ5 => y.cl fun e => acc.length < sizeLine ∧ I (i + 1) (acc ++ [e]) (backP ρ2 ρ5 vs) else I (i + 1) acc (backP ρ2 ρ4 vs))
    (q : ∀ acc ρ2, I ds.length acc ρ2 → Q (.t (.list acc)) ρ2) : lcR t tt te vs Q ds ρ1 := by
  unfold lcR
  exact ⟨I, i0, h, q⟩
/-- .. every item is kept -/
theorem lc_map {α β : Type} {t : PTG} {te : PTE} {vs : List Nat} {ds : List D} {ρ1 : PSt} {Q : OP → PSt → Prop} (xs : List α) (f : α → D) (g : α → β) (h : β → D) (hds : ds = xs.map f) (hl : xs.length ≤ sizeLine)
    (hb : ∀ (i : Nat) x (R : D → PSt → Prop), xs[i]? = some x → (∀ ρ, backP ρ1 ρ vs = ρ1 → R (h (g x)) ρ) → t (.d (f x)) (wipeP ρ1 vs) fun ρ3 => te ρ3 fun y ρ5 => y.cl fun e => R e ρ5)
    (q : Q (.t (.list ((xs.map g).map h))) ρ1) : lcR t pYes te vs Q ds ρ1 := by
  refine lc_ok xs f (fun x => some (g x)) h hds (fun i x acc hx ha => ?_) ?_
  · refine hb i x (fun e ρ5 => acc.length < sizeLine ∧ acc ++ [e] = ((xs.take (i + 1)).filterMap fun x => some (g x)).map h ∧ backP ρ1 ρ5 vs = ρ1) hx fun ρ e => ?_
    exact lc_yes hx hl ha rfl rfl e
  · rw [List.filterMap_eq_map']
    exact q
/-- .. every item is kept, what it gives is not fixed (a draw): each is one of R -/
theorem lc_all {t : PTG} {te : PTE} {vs : List Nat} {ds : List D} {ρ1 : PSt} {Q : OP → PSt → Prop} (R : Nat → D → Prop) (hl : ds.length ≤ sizeLine)
    (h : ∀ (i : Nat) d (C : D → PSt → Prop), ds[i]? = some d → (∀ e ρ, R i e → backP ρ1 ρ vs = ρ1 → C e ρ) → t (.d d) (wipeP ρ1 vs) fun ρ3 => te ρ3 fun y ρ5 => y.cl fun e => C e ρ5)
    (q : ∀ es : List D, es.length = ds.length → (∀ (i : Nat) e, es[i]? = some e → R i e) → Q (.t (.list es)) ρ1) :
    lcR t pYes te vs Q ds ρ1 := by
  unfold lcR
  refine ⟨fun i acc ρ2 => acc.length = i ∧ (∀ (j : Nat) e, acc[j]? = some e → R j e) ∧ ρ2 = ρ1, ⟨rfl, (fun j e z => by simp at z), rfl⟩, ?_, ?_⟩
  · rintro i d acc ρ2 hd ⟨hi, ha, rfl⟩
    have hi' := (List.getElem?_eq_some_iff.mp hd).1
    refine h i d (fun e ρ5 => acc.length < sizeLine ∧ ((acc ++ [e]).length = i + 1 ∧ (∀ (j : Nat) e', (acc ++ [e])[j]? = some e' → R j e') ∧ backP ρ2 ρ5 vs = ρ2)) hd fun e ρ re he => ⟨by omega, by simp [hi], ?_, he⟩
    intro j e' z
    by_cases hj : j < acc.length
    · rw [List.getElem?_append_left hj] at z; exact ha j e' z
    · rw [List.getElem?_append_right (by omega)] at z
      have : j - acc.length = 0 := by
        have := (List.getElem?_eq_some_iff.mp z).1
        simp at this; omega
      rw [this] at z
      simp at z
      have : j = i := by omega
      rw [this, ← z]; exact re
  · rintro acc ρ2 ⟨hl2, ha, rfl⟩
    exact q acc hl2 ha
/-! ### lists by their places -/
def fnL (m : Nat) (f : Nat → D) : List D := (List.range m).map f
abbrev fnI (m : Nat) (f : Nat → Int) : List D := fnL m fun k => .int (f k)
theorem fnL_len {m : Nat} {f : Nat → D} : (fnL m f).length = m := by unfold fnL; simp
theorem fnL_get {m : Nat} {f : Nat → D} {j : Nat} (h : j < m) : (fnL m f)[j]? = some (f j) := by unfold fnL; simp [h]
theorem fnL_set {m : Nat} {f : Nat → D} {j : Nat} {v : D} : (fnL m f).set j v = fnL m fun k => if k = j then v else f k := by
  apply List.ext_getElem?
  intro i
  unfold fnL
  rw [List.getElem?_set]
  simp only [List.getElem?_map, List.length_map, List.length_range]
  by_cases hij : j = i
  · subst hij
    by_cases hj : j < m
    · simp [hj]
    · rw [if_pos rfl, if_neg hj]
      rw [List.getElem?_eq_none (by simpa using hj)]
      rfl
  · rw [if_neg hij]
    by_cases hi : i < m
    · simp [hi, Ne.symm hij]
    · rw [List.getElem?_eq_none (by simpa using hi)]
      rfl
theorem fnL_congr {m : Nat} {f g : Nat → D} (h : ∀ k, k < m → f k = g k) : fnL m f = fnL m g := by
  unfold fnL
  apply List.map_congr_left
  intro k hk
  exact h k (List.mem_range.mp hk)
theorem fnI_congr {m : Nat} {f g : Nat → Int} (h : ∀ k, k < m → f k = g k) : fnI m f = fnI m g := fnL_congr fun k hk => congrArg _ (h k hk)
theorem fnI_ints {m : Nat} {f : Nat → Int} {ns : List Int} (hl : ns.length = m) (h : ∀ k, k < m → f k = ns.getD k 0) : fnI m f = ns.map PyData.int := by
  apply List.ext_getElem?
  intro i
  by_cases hi : i < m
  · rw [fnL_get hi, getInts (by omega), h i hi]
  · rw [List.getElem?_eq_none (by rw [fnL_len]; omega), List.getElem?_eq_none (by simp; omega)]
theorem rangeD_eq (lo : Int) (n : Nat) : rangeD lo n = (List.range n).map fun i => .int (lo + (i : Nat)) := rfl
theorem map_const {ds : List D} {d : D} {m : Nat} (h : ds.length = m) : ds.map (fun _ => d) = fnL m fun _ => d := by
  apply List.ext_getElem?
  intro i
  by_cases hi : i < m
  · rw [fnL_get hi, List.getElem?_map, List.getElem?_eq_getElem (by omega)]; rfl
  · rw [List.getElem?_eq_none (by simp; omega), List.getElem?_eq_none (by rw [fnL_len]; omega)]
theorem sz1 {α : Type} {a : α} : [a].length ≤ sizeLine := by show 1 ≤ 2 ^ 24; decide
theorem sz2 {α : Type} {a b : α} : [a, b].length ≤ sizeLine := by show 2 ≤ 2 ^ 24; decide
theorem sz3 {α : Type} {a b c : α} : [a, b, c].length ≤ sizeLine := by show 3 ≤ 2 ^ 24; decide
theorem szN {n : Nat} (h : n ≤ 16777216) : n ≤ sizeLine := by rw [sizeLine_eq]; exact h
theorem small62_of {i : Int} (h1 : -1000000000 ≤ i) (h2 : i ≤ 1000000000) : small62 i := ⟨Int.le_trans (by decide) h1, Int.lt_of_le_of_lt h2 (by decide)⟩
/-! ### slices -/
theorem cutD_take (ds : List D) {i : Int} {m : Nat} (h : i = (m : Int)) : cutD ds none (some i) = ds.take m := by
  subst h
  unfold cutD
  rw [HT.sIx_none, HT.sIx_nat, List.drop_zero, Nat.sub_zero]
  by_cases hm : m ≤ ds.length
  · rw [Nat.min_eq_left hm]
  · rw [Nat.min_eq_right (by omega), List.take_of_length_le (Nat.le_refl _), List.take_of_length_le (by omega)]
theorem cutD_drop (ds : List D) {i : Int} {m : Nat} (h : i = (m : Int)) : cutD ds (some i) none = ds.drop m := by
  subst h
  unfold cutD
  rw [HT.sIx_none, HT.sIx_nat]
  by_cases hm : m ≤ ds.length
  · rw [Nat.min_eq_left hm, List.take_of_length_le (by rw [List.length_drop]; exact Nat.le_refl _)]
  · rw [Nat.min_eq_right (by omega), List.drop_eq_nil_of_le (Nat.le_refl _), List.drop_eq_nil_of_le (by omega), List.take_nil]
theorem cutD_most (ds : List D) : cutD ds none (some (-1)) = ds.dropLast := by
  unfold cutD
  rw [HT.sIx_none, List.drop_zero, Nat.sub_zero, List.dropLast_eq_take]
  have : HT.sIx ds.length ds.length (some (-1)) = ds.length - 1 := by
    show (if (-1 : Int) < 0 then ((-1 : Int) + (ds.length : Int)).toNat else min (-1 : Int).toNat ds.length) = _
    rw [if_pos (by decide)]
    omega
  rw [this]
/-- a slot that is made clean: it may have been an own one -/
theorem val_or_own {G : SV → Prop} {d : D} (hv : G (.val d)) (ho : G (.val d) → G (.own d)) : ∀ s : SV, (s = .val d ∨ s = .own d) → G s := by
  rintro s (rfl | rfl)
  · exact hv
  · exact ho hv
theorem keepv_keepv (o : Option SV) : keepv (some (keepv o)) = keepv o := by
  cases o with
  | none => rfl
  | some s => cases s <;> rfl
/-- behind a comprehension with one name, with two -/
theorem back1 {ρ1 : PSt} {a : Nat} {x : SV} {o : Option SV} (h : ρ1[a]? = some (keepv o)) : backP ρ1 ((wipeP ρ1 [a]).set a x) [a] = ρ1 := by
  unfold backP wipeP backP wipeP
  rw [List.set_set, List.set_set, h, keepv_keepv]
  apply List.ext_getElem?
  intro i
  rw [List.getElem?_set]
  by_cases hi : a = i
  · subst hi
    have := (List.getElem?_eq_some_iff.mp h).1
    rw [if_pos rfl, if_pos this, h]
  · rw [if_neg hi]
theorem back2 {ρ1 : PSt} {a b : Nat} {x y : SV} {o u : Option SV} (hab : a ≠ b) (h : ρ1[a]? = some (keepv o)) (h2 : ρ1[b]? = some (keepv u)) : backP ρ1 (((wipeP ρ1 [a, b]).set a x).set b y) [a, b] = ρ1 := by
  unfold backP wipeP backP wipeP backP wipeP
  rw [h, h2, keepv_keepv, keepv_keepv]
  have l1 := (List.getElem?_eq_some_iff.mp h).1
  have l2 := (List.getElem?_eq_some_iff.mp h2).1
  apply List.ext_getElem?
  intro i
  simp only [List.getElem?_set, List.length_set]
  by_cases hi : a = i
  · subst hi
    rw [if_pos rfl, if_pos l1, h]
  · rw [if_neg hi]
    by_cases hj : b = i
    · subst hj
      rw [if_pos rfl, if_pos l2, h2]
    · simp only [if_neg hi, if_neg hj]
theorem list_of {α : Type} {f : α → D} {P : α → Prop} : ∀ {es : List D}, (∀ e ∈ es, ∃ a, e = f a ∧ P a) → ∃ as : List α, es = as.map f ∧ ∀ a ∈ as, P a
  | [], _ => ⟨[], rfl, by simp⟩
  | e :: es, h => by
    obtain ⟨a, ha, pa⟩ := h e List.mem_cons_self
    obtain ⟨as, h1, h2⟩ := list_of (es := es) fun e he => h e (List.mem_cons_of_mem _ he)
    refine ⟨a :: as, by rw [h1, ha]; rfl, ?_⟩
    intro b hb
    rcases List.mem_cons.mp hb with rfl | hb
    · exact pa
    · exact h2 b hb
/-- .. every item is kept, each is told by some a of P -/
theorem lc_some {α : Type} {t : PTG} {te : PTE} {vs : List Nat} {ds : List D} {ρ1 : PSt} {Q : OP → PSt → Prop} (f : α → D) (P : α → Prop) (hl : ds.length ≤ sizeLine)
    (h : ∀ (i : Nat) d (C : D → PSt → Prop), ds[i]? = some d → (∀ a ρ, P a → backP ρ1 ρ vs = ρ1 → C (f a) ρ) → t (.d d) (wipeP ρ1 vs) fun ρ3 => te ρ3 fun y ρ5 => y.cl fun e => C e ρ5)
    (q : ∀ as : List α, as.length = ds.length → (∀ a ∈ as, P a) → Q (.t (.list (as.map f))) ρ1) : lcR t pYes te vs Q ds ρ1 := by
  refine lc_all (fun _ e => ∃ a, e = f a ∧ P a) hl (fun i d C hd hC => h i d C hd fun a ρ pa e => hC _ _ ⟨a, rfl, pa⟩ e) fun es h1 h2 => ?_
  obtain ⟨as, h3, h4⟩ := list_of (es := es) (f := f) (P := P) fun e he => by
    obtain ⟨i, hi⟩ := List.getElem?_of_mem he
    exact h2 i e hi
  rw [h3]
  exact q as (by rw [← h1, h3, List.length_map]) h4
end L3
set_option Elab.async false
set_option linter.all false
set_option maxRecDepth 100000
/-! What may be shown by repr, what == may compare. -/
namespace L3
open PySem L2
mutual
/-- ints below 2^100, texts of at most 90 signs -/
def okD : D → Bool
  | .none | .bool _ => true
  | .int i => decide (i.natAbs < 2 ^ 100)
  | .str x => decide (x.cps.size ≤ 90) && x.cps.toList.all fun c => decide (c < 16 ^ 8)
  | .list ds => okDs ds
  | .tuple ds => okDs ds
  | .dict _ => false
def okDs : List D → Bool
  | [] => true
  | d :: ds => okD d && okDs ds
end
mutual
def cnt : D → Nat
  | .list ds => cnts ds + 1
  | .tuple ds => cnts ds + 1
  | _ => 1
def cnts : List D → Nat
  | [] => 0
  | d :: ds => cnt d + cnts ds
end
theorem okDs_iff : ∀ {ds : List D}, okDs ds = true ↔ ∀ d ∈ ds, okD d = true
  | [] => by simp [okDs]
  | d :: ds => by simp [okDs, okDs_iff (ds := ds)]
mutual
theorem okD_nodict : ∀ {d : D}, okD d = true → nodict d = true
  | .none, _ | .bool _, _ | .int _, _ | .str _, _ => rfl
  | .list ds, h => by simpa [nodict] using okDs_nodicts (by simpa [okD] using h)
  | .tuple ds, h => by simpa [nodict] using okDs_nodicts (by simpa [okD] using h)
  | .dict _, h => by simp [okD] at h
theorem okDs_nodicts : ∀ {ds : List D}, okDs ds = true → nodicts ds = true
  | [], _ => rfl
  | d :: ds, h => by
    simp only [okDs, Bool.and_eq_true] at h
    simp only [nodicts, Bool.and_eq_true]
    exact ⟨okD_nodict h.1, okDs_nodicts h.2⟩
end
theorem log_lt {i : Int} (h : i.natAbs < 2 ^ 100) : i.natAbs.log2 < 100 := by
  by_cases h0 : i.natAbs = 0
  · rw [h0]; decide
  · exact (Nat.log2_lt h0).mpr h
mutual
theorem okD_show : ∀ {d : D}, okD d = true → PyData.showable d = true
  | .none, _ | .bool _, _ | .str _, _ => rfl
  | .int i, h => by
    have := log_lt (i := i) (by simpa [okD] using h)
    simp only [PyData.showable, decide_eq_true_eq]
    omega
  | .list ds, h => by simpa [PyData.showable] using okDs_show (by simpa [okD] using h)
  | .tuple ds, h => by simpa [PyData.showable] using okDs_show (by simpa [okD] using h)
  | .dict _, h => by simp [okD] at h
theorem okDs_show : ∀ {ds : List D}, okDs ds = true → PyData.showableAll ds = true
  | [], _ => rfl
  | d :: ds, h => by
    simp only [okDs, Bool.and_eq_true] at h
    simp only [PyData.showableAll, Bool.and_eq_true]
    exact ⟨okD_show h.1, okDs_show h.2⟩
end
mutual
theorem okD_short : ∀ {d : D}, okD d = true → PyData.leavesShort 101 d = true
  | .none, _ | .bool _, _ => rfl
  | .str x, h => by
    simp only [okD, Bool.and_eq_true] at h
    exact h.2
  | .int i, h => by
    have h1 := log_lt (i := i) (by simpa [okD] using h)
    have h2 := int_text_length_le (a := i) (k := 100) (by decide) h1
    simp only [PyData.leavesShort, decide_eq_true_eq]
    show (Str.ofString (toString i)).length ≤ 101
    rw [ofString_length]; exact h2
  | .list ds, h => by simpa [PyData.leavesShort] using okDs_short (by simpa [okD] using h)
  | .tuple ds, h => by simpa [PyData.leavesShort] using okDs_short (by simpa [okD] using h)
  | .dict _, h => by simp [okD] at h
theorem okDs_short : ∀ {ds : List D}, okDs ds = true → PyData.leavesShortAll 101 ds = true
  | [], _ => rfl
  | d :: ds, h => by
    simp only [okDs, Bool.and_eq_true] at h
    simp only [PyData.leavesShortAll, Bool.and_eq_true]
    exact ⟨okD_short h.1, okDs_short h.2⟩
end
mutual
theorem okD_weight : ∀ {d : D}, okD d = true → d.weight + 1 ≤ 101 * cnt d
  | .none, _ | .bool _, _ => by simp [PyData.weight, cnt]
  | .str x, h => by
    simp only [okD, Bool.and_eq_true, decide_eq_true_eq] at h
    simp only [PyData.weight, cnt]
    omega
  | .int i, h => by
    have h1 := log_lt (i := i) (by simpa [okD] using h)
    simp only [PyData.weight, cnt]
    split <;> omega
  | .list ds, h => by
    have := okDs_weight (ds := ds) (by simpa [okD] using h)
    simp only [PyData.weight, cnt]
    omega
  | .tuple ds, h => by
    have := okDs_weight (ds := ds) (by simpa [okD] using h)
    simp only [PyData.weight, cnt]
    omega
  | .dict _, h => by simp [okD] at h
theorem okDs_weight : ∀ {ds : List D}, okDs ds = true → PyData.weightAll ds ≤ 101 * cnts ds
  | [], _ => by simp [PyData.weightAll]
  | d :: ds, h => by
    simp only [okDs, Bool.and_eq_true] at h
    have h1 := okD_weight h.1
    have h2 := okDs_weight h.2
    simp only [PyData.weightAll, cnts]
    omega
end
/-- repr of it is let -/
theorem rep_ok {d : D} (h1 : okD d = true) (h2 : d.depth ≤ 60) (h3 : cnt d ≤ 1500) : nodict d = true ∧ d.depth ≤ 60 ∧ PyData.showable d = true ∧ (PyData.shown d).length ≤ sizeLine := by
  refine ⟨okD_nodict h1, h2, okD_show h1, ?_⟩
  have h4 := PyData.shown_le 101 (by decide) d (okD_short h1)
  have h5 := okD_weight h1
  rw [sizeLine_eq]
  omega
theorem ints_cnt : ∀ ns : List Int, cnts (ns.map PyData.int) = ns.length
  | [] => rfl
  | n :: ns => by simp [cnts, cnt, ints_cnt ns]; omega
theorem ints_depth : ∀ ns : List Int, PyData.depthAll (ns.map PyData.int) = 0
  | [] => rfl
  | n :: ns => by simp [PyData.depthAll, PyData.depth, ints_depth ns]
theorem ints_lay : ∀ ns : List Int, PyData.canLayAll0 (ns.map PyData.int) = true
  | [] => rfl
  | n :: ns => by simp [PyData.canLayAll0, PyData.canLay0, ints_lay ns]
theorem rep_ints {ns : List Int} (h1 : ns.length ≤ 1000) (h2 : ∀ n ∈ ns, n.natAbs < 2 ^ 100) : nodict (DT ns) = true ∧ (DT ns).depth ≤ 60 ∧ PyData.showable (DT ns) = true ∧ (PyData.shown (DT ns)).length ≤ sizeLine := by
  refine rep_ok ?_ ?_ ?_
  · simp only [okD]
    rw [okDs_iff]
    intro d hd
    rw [List.mem_map] at hd
    obtain ⟨n, hn, rfl⟩ := hd
    simp only [okD, decide_eq_true_eq]
    exact h2 n hn
  · simp [PyData.depth, ints_depth]
  · simp only [cnt, ints_cnt]; omega
theorem rep_int {n : Int} (h : n.natAbs < 2 ^ 100) : nodict (.int n) = true ∧ (PyData.int n).depth ≤ 60 ∧ PyData.showable (.int n) = true ∧ (PyData.shown (.int n)).length ≤ sizeLine :=
  rep_ok (by simpa [okD] using h) (by simp [PyData.depth]) (by simp [cnt])
theorem shaped_ints {ns : List Int} : SeqAt.shaped (DL ns) = true := by
  unfold SeqAt.shaped
  simp [PyData.canLay0, ints_lay, PyData.depth, ints_depth]
theorem shaped_intsT {ns : List Int} : SeqAt.shaped (DT ns) = true := by
  unfold SeqAt.shaped
  simp [PyData.canLay0, ints_lay, PyData.depth, ints_depth]
theorem eqvAll_ints : ∀ {ns ms : List Int}, PyData.eqvAll (ns.map PyData.int) (ms.map PyData.int) = decide (ns = ms)
  | [], [] => by simp [PyData.eqvAll]
  | [], m :: ms => by simp [PyData.eqvAll]
  | n :: ns, [] => by simp [PyData.eqvAll]
  | n :: ns, m :: ms => by
    simp only [List.map_cons, PyData.eqvAll, PyData.eqv, eqvAll_ints (ns := ns)]
    rw [Bool.eq_iff_iff]
    simp
/-- if repr(x) != repr(x) .. -/
theorem eqv_str {x : Str} : PyData.eqv (.str x) (.str x) = true := by simp [PyData.eqv]
theorem shaped_list {ds : List D} (h : ∀ d ∈ ds, PyData.canLay0 d = true ∧ d.depth ≤ 20) : SeqAt.shaped (.list ds) = true := by
  have h1 : ∀ ds : List D, (∀ d ∈ ds, PyData.canLay0 d = true ∧ d.depth ≤ 20) → PyData.canLayAll0 ds = true ∧ PyData.depthAll ds ≤ 20 := by
    intro ds
    induction ds with
    | nil => intro _; exact ⟨rfl, by simp [PyData.depthAll]⟩
    | cons d ds ih =>
      intro h
      obtain ⟨a, b⟩ := h d List.mem_cons_self
      obtain ⟨c, e⟩ := ih fun x hx => h x (List.mem_cons_of_mem _ hx)
      simp only [PyData.canLayAll0, PyData.depthAll, a, c]
      exact ⟨rfl, by omega⟩
  obtain ⟨a, b⟩ := h1 ds h
  unfold SeqAt.shaped
  simp only [PyData.canLay0, a, PyData.depth]
  simp; omega
theorem cmpb_str {x y : Str} : cmpb (.str x) (.str y) = true := by simp [cmpb, isStr]
theorem cmpb_of {x y : D} (hx : SeqAt.shaped x = true) (hy : SeqAt.shaped y = true) : cmpb x y = true := by simp [cmpb, hx, hy]
end L3
set_option Elab.async false
set_option linter.all false
set_option maxRecDepth 100000
set_option maxHeartbeats 1000000
/-! sorted(..) of ints, of pairs of ints. -/
namespace L3
open PySem PySem.Spec PyProof.Rows L2
abbrev pairD (r : Int × Int) : D := DT [r.1, r.2]
def leP (x y : Int × Int) : Prop := x.1 < y.1 ∨ (x.1 = y.1 ∧ x.2 ≤ y.2)
def sortedG : GN := fun xs Q => match xs with
  | [.list ds] => (∃ ns : List Int, ds = ns.map .int ∧ ∀ ms : List Int, ms.Perm ns → ms.Pairwise (· ≤ ·) → Q (.t (.list (ms.map .int)))) ∨
      ∃ ps : List (Int × Int), ds = ps.map pairD ∧ ∀ qs : List (Int × Int), qs.Perm ps → qs.Pairwise leP → Q (.t (.list (qs.map pairD)))
  | _ => False
def keyAt (H : Hp) (v : V) : Int × Int := match v with
  | .ref t => (match H t with
    | some (.tup [.int i, .int j]) => (i, j)
    | _ => (0, 0))
  | _ => (0, 0)
theorem keyAt_dq {G H : Hp} (s : Sub G H) {v : V} {p : Int × Int} (h : Dq G v (pairD p)) : (∃ t, v = V.ref t ∧ H t = some (.tup [.int p.1, .int p.2])) ∧ keyAt H v = p := by
  cases h with
  | tup ha hs =>
    rename_i a xs
    have e : xs = [.int p.1, .int p.2] := DqA.of_ints (ns := [p.1, p.2]) hs
    subst e
    refine ⟨⟨a, rfl, s _ _ ha⟩, ?_⟩
    show (match H a with
      | some (.tup [.int i, .int j]) => (i, j)
      | _ => ((0 : Int), (0 : Int))) = p
    rw [s _ _ ha]
theorem dqa_pairs {G H : Hp} (s : Sub G H) : ∀ {ys : List V} {ps : List (Int × Int)}, DqA G ys (ps.map pairD) → ys.map (keyAt H) = ps ∧ ∀ y ∈ ys, Dq G y (pairD (keyAt H y))
  | [], [], _ => ⟨rfl, by simp⟩
  | y :: ys, p :: ps, .cons h t => by
    obtain ⟨h1, h2⟩ := dqa_pairs s (ps := ps) t
    have hk := (keyAt_dq s h).2
    refine ⟨by rw [List.map_cons, hk, h1], ?_⟩
    intro z hz
    rcases List.mem_cons.mp hz with rfl | hz
    · rw [hk]; exact h
    · exact h2 z hz
theorem dqa_of {G : Hp} {f : V → D} : ∀ {ys : List V}, (∀ y ∈ ys, Dq G y (f y)) → DqA G ys (ys.map f)
  | [], _ => .nil
  | y :: ys, h => .cons (h y List.mem_cons_self) (dqa_of fun z hz => h z (List.mem_cons_of_mem _ hz))
theorem cg_sorted {X : Cx} : CallG X (.builtin "sorted") sortedG := by
  refine ⟨_, cr_sortedI.or cr_sortedPO, fun G H xs ds s h Q Qp g kk => ?_⟩
  unfold sortedG at g
  split at g
  · obtain ⟨v, rfl, hv⟩ := h.one
    obtain ⟨a, ys, rfl, ha, qa⟩ := hv.lst s
    rcases g with ⟨ns, rfl, g⟩ | ⟨ps, rfl, g⟩
    · rw [qa.of_ints] at ha
      exact .inl ⟨a, ns, rfl, SqL.of ha, fun ms p pm st n => let ⟨e, r⟩ := lstNew s (DqA.ints ms) n; kk _ _ _ _ (g ms pm st) e r⟩
    · obtain ⟨h1, h2⟩ := dqa_pairs s qa
      refine .inr ⟨a, ys, keyAt H, rfl, SqL.of ha, fun y hy => (keyAt_dq s (h2 y hy)).1, fun zs p st sb n => ?_⟩
      have hz : ∀ z ∈ zs, Dq G z (pairD (keyAt H z)) := fun z hz => h2 z (sb.perm.mem_iff.mp hz)
      have hq : DqA G zs ((zs.map (keyAt H)).map pairD) := by rw [List.map_map]; exact dqa_of (f := pairD ∘ keyAt H) hz
      obtain ⟨e, r⟩ := lstNew s hq n
      refine kk _ _ _ _ (g (zs.map (keyAt H)) ?_ ?_) e r
      · rw [← h1]; exact sb.perm.map _
      · rw [List.pairwise_map]
        refine List.Pairwise.imp (fun {x y} q => ?_) st
        have := SrtO.lexB_no.mp q
        unfold leP
        omega
  · exact g.elim
end L3
set_option Elab.async false
set_option linter.all false
set_option maxRecDepth 100000
set_option maxHeartbeats 1000000
/-! The table of a web: rows written into, by hand. -/
namespace L3
open PySem PySem.Spec PyProof.Rows L2
def tTied (K : PySem.W.Frag) : TS :=
  tSeq (tAsg (tLc (iRng1 (tCons (tOp (rIxT K) (tVar 0) (tC (V.int 0))) tNil)) (gName 4) tYes (tOp rRep (tLst (tCons (tC (V.int 0)) tNil)) (tOp (rIxT K) (tVar 0) (tC (V.int 0)))) [4]) (gName 1))
  (tSeq (tFor (iAny K (tOp (rIxT K) (tVar 0) (tC (V.int 1)))) (gTup K 2 (gCons (gName 2) (gCons (gName 3) gNil)))
    (tAsg (tTup (tCons (tC (V.int 1)) (tCons (tC (V.int 1)) tNil))) (gTup K 2 (gCons (gSub (tOp (rIxL K) (tVar 1) (tVar 2)) (tVar 3) rSetL) (gCons (gSub (tOp (rIxL K) (tVar 1) (tVar 3)) (tVar 2) rSetL) gNil)))))
  (tRet (tVar 1)))
theorem nodup_get {α : Type} {l : List α} (h : l.Nodup) {i j : Nat} {a : α} (h1 : l[i]? = some a) (h2 : l[j]? = some a) : i = j := by
  obtain ⟨i1, i2⟩ := List.getElem?_eq_some_iff.mp h1
  obtain ⟨j1, j2⟩ := List.getElem?_eq_some_iff.mp h2
  have hp := List.pairwise_iff_getElem.mp h
  rcases Nat.lt_trichotomy i j with q | q | q
  · exact absurd (i2.trans j2.symm) (hp i j i1 j1 q)
  · exact q
  · exact absurd (j2.trans i2.symm) (hp j i j1 i1 q)
structure Rows (H0 H : Hp) (L : Addr) (bs : List Addr) (row : Nat → List Int) : Prop where
  sm : Same H0 H
  hL0 : H0 L = none
  nd : bs.Nodup
  nL : L ∉ bs
  hb0 : ∀ b ∈ bs, H0 b = none
  hL : H L = some (.lst (bs.map V.ref))
  rows : ∀ (k : Nat) b, bs[k]? = some b → H b = some (.lst ((row k).map V.int))
theorem Rows.junk {H0 H : Hp} {L : Addr} {bs : List Addr} {row : Nat → List Int} (R : Rows H0 H L bs row) {p : Addr} (n : H p = none) (o : HO) : Rows H0 (upd H p o) L bs row where
  sm := fun b u e => by rw [upd_ne (ne_of_none (R.sm b u e) n)]; exact R.sm b u e
  hL0 := R.hL0
  nd := R.nd
  nL := R.nL
  hb0 := R.hb0
  hL := by rw [upd_ne (ne_of_none R.hL n)]; exact R.hL
  rows := fun k b e => by rw [upd_ne (ne_of_none (R.rows k b e) n)]; exact R.rows k b e
theorem Rows.push {H0 H : Hp} {L : Addr} {bs : List Addr} {row : Nat → List Int} (R : Rows H0 H L bs row) {p : Addr} (n : H p = none) {xs : List Int} (hr : row bs.length = xs) : Rows H0 (upd (upd H p (.lst (xs.map V.int))) L (.lst (bs.map V.ref ++ [V.ref p]))) L (bs ++ [p]) row where
  sm := fun b u e => by
    have h1 := R.sm b u e
    have nL : b ≠ L := fun z => by rw [z, R.hL0] at e; cases e
    rw [upd_ne nL, upd_ne (ne_of_none h1 n)]; exact h1
  hL0 := R.hL0
  nd := by
    rw [List.nodup_append]
    refine ⟨R.nd, by simp, ?_⟩
    intro a ha b hb
    rw [List.mem_singleton] at hb
    subst hb
    obtain ⟨k, hk⟩ := List.getElem?_of_mem ha
    exact ne_of_none (R.rows k a hk) n
  nL := by
    rw [List.mem_append, List.mem_singleton]
    rintro (h | h)
    · exact R.nL h
    · exact ne_of_none R.hL n h
  hb0 := fun b hb => by
    rcases List.mem_append.mp hb with h | h
    · exact R.hb0 b h
    · rw [List.mem_singleton] at h
      subst h
      exact Same.free R.sm n
  hL := by rw [upd_same]; simp
  rows := fun k b e => by
    by_cases hk : k < bs.length
    · rw [List.getElem?_append_left hk] at e
      have h1 := R.rows k b e
      have nL : b ≠ L := fun z => R.nL (by rw [← z]; exact List.mem_of_getElem? e)
      rw [upd_ne nL, upd_ne (ne_of_none h1 n)]; exact h1
    · rw [List.getElem?_append_right (by omega)] at e
      have h0 : k - bs.length = 0 := by
        have := (List.getElem?_eq_some_iff.mp e).1
        simp at this; omega
      rw [h0] at e
      simp at e
      subst e
      rw [upd_ne (fun z => ne_of_none R.hL n z.symm), upd_same]
      have : k = bs.length := by omega
      rw [this, hr]
theorem Rows.put {H0 H : Hp} {L : Addr} {bs : List Addr} {row row' : Nat → List Int} (R : Rows H0 H L bs row) {k : Nat} {b : Addr} (hk : bs[k]? = some b) {xs : List Int} (h1 : row' k = xs) (h2 : ∀ j, j < bs.length → j ≠ k → row' j = row j) :
    Rows H0 (upd H b (.lst (xs.map V.int))) L bs row' where
  sm := fun c u e => by
    have : c ≠ b := fun z => by rw [z, R.hb0 b (List.mem_of_getElem? hk)] at e; cases e
    rw [upd_ne this]; exact R.sm c u e
  hL0 := R.hL0
  nd := R.nd
  nL := R.nL
  hb0 := R.hb0
  hL := by
    have : L ≠ b := fun z => R.nL (by rw [z]; exact List.mem_of_getElem? hk)
    rw [upd_ne this]; exact R.hL
  rows := fun j c e => by
    by_cases hj : j = k
    · subst hj
      rw [hk] at e; cases e
      rw [upd_same, h1]
    · have hjl := (List.getElem?_eq_some_iff.mp e).1
      have : c ≠ b := fun z => by
        subst z
        exact hj (nodup_get R.nd e hk)
      rw [upd_ne this, h2 j hjl hj]
      exact R.rows j c e
/-- 1 where two names are tied -/
def tied (ps : List (Int × Int)) (i j : Nat) : Int := if ps.any fun p => decide (p.1 = i ∧ p.2 = j) || decide (p.1 = j ∧ p.2 = i) then 1 else 0
def tabRow (n : Nat) (ps : List (Int × Int)) (i : Nat) : List Int := (List.range n).map (tied ps i)
def tabD (n : Nat) (ps : List (Int × Int)) : D := .list ((List.range n).map fun i => DL (tabRow n ps i))
def webD (n : Nat) (ps : List (Int × Int)) : D := .tuple [.int n, .tuple (ps.map pairD)]
def PairsOk (n : Nat) (ps : List (Int × Int)) : Prop := ∀ p ∈ ps, 0 ≤ p.1 ∧ p.1 < p.2 ∧ p.2 < n
def S_tied_table : FS := fun as Q => match as with
  | [.d web] => ∃ n ps, web = webD n ps ∧ n ≤ 1000 ∧ PairsOk n ps ∧ Q (tabD n ps)
  | _ => False
theorem tied_snoc (ps : List (Int × Int)) (p : Int × Int) (i j : Nat) : tied (ps ++ [p]) i j = if (p.1 = i ∧ p.2 = j) ∨ (p.1 = j ∧ p.2 = i) then 1 else tied ps i j := by
  unfold tied
  rw [List.any_append]
  by_cases h : (p.1 = i ∧ p.2 = j) ∨ (p.1 = j ∧ p.2 = i)
  · rw [if_pos h, if_pos]
    simp only [List.any_cons, List.any_nil, Bool.or_false, Bool.or_eq_true, decide_eq_true_eq]
    exact .inr h
  · rw [if_neg h]
    have e : ([p].any fun p => decide (p.1 = (i : Int) ∧ p.2 = (j : Int)) || decide (p.1 = (j : Int) ∧ p.2 = (i : Int))) = false := by
      simp only [List.any_cons, List.any_nil, Bool.or_false, Bool.or_eq_false_iff, decide_eq_false_iff_not]
      exact ⟨fun z => h (.inl z), fun z => h (.inr z)⟩
    rw [e, Bool.or_false]
theorem mapR_set {α : Type} (n m : Nat) (f : Nat → α) (v : α) : ((List.range n).map f).set m v = (List.range n).map fun j => if j = m then v else f j := by
  apply List.ext_getElem?
  intro i
  rw [List.getElem?_set]
  simp only [List.getElem?_map, List.length_map, List.length_range]
  by_cases hij : m = i
  · subst hij
    by_cases hj : m < n
    · simp [hj]
    · rw [if_pos rfl, if_neg hj, List.getElem?_eq_none (by simpa using hj)]; rfl
  · rw [if_neg hij]
    by_cases hi : i < n
    · simp [hi, Ne.symm hij]
    · rw [List.getElem?_eq_none (by simpa using hi)]; rfl
theorem tabRow_new {n : Nat} {ps : List (Int × Int)} {p : Int × Int} (p1 : 0 ≤ p.1) (p2 : p.1 < p.2) (k : Nat) :
    tabRow n (ps ++ [p]) k = if k = p.2.toNat then (tabRow n ps k).set p.1.toNat 1 else if k = p.1.toNat then (tabRow n ps k).set p.2.toNat 1 else tabRow n ps k := by
  unfold tabRow
  rw [mapR_set, mapR_set]
  split
  · apply List.map_congr_left
    intro j _
    rw [tied_snoc]
    by_cases hj : j = p.1.toNat
    · rw [if_pos (by omega), if_pos hj]
    · rw [if_neg (by omega), if_neg hj]
  · split
    · apply List.map_congr_left
      intro j _
      rw [tied_snoc]
      by_cases hj : j = p.2.toNat
      · rw [if_pos (by omega), if_pos hj]
      · rw [if_neg (by omega), if_neg hj]
    · apply List.map_congr_left
      intro j _
      rw [tied_snoc, if_neg (by omega)]
theorem rep_zero : ∀ n : Nat, (List.replicate ((n : Int)).toNat [V.int 0]).flatten = ((List.replicate n (0 : Int)).map V.int)
  | 0 => rfl
  | n + 1 => by
    have ih := rep_zero n
    rw [Int.toNat_natCast] at ih ⊢
    rw [List.replicate_succ, List.flatten_cons, ih, List.replicate_succ]; rfl
theorem tied_run {K : PySem.W.Frag} {G H : Hp} {W : Addr} {n : Nat} {ps : List (Int × Int)} {D : Ends} (s : Sub G H) (hw : Dq G (.ref W) (webD n ps)) (hn : n ≤ 1000) (hp : PairsOk n ps)
    (q : ∀ v G' H', Dq G' v (tabD n ps) → Ext (fun _ => False) G H G' H' → D.rt v H') : tTied K D [some (.ref W), none, none, none, none] H := by
  cases hw with
  | tup ha hs =>
    cases hs with
    | cons h1 hs =>
      cases hs with
      | cons h2 hs =>
        cases hs
        cases h1
        cases h2 with
        | tup hb hs =>
          rename_i T ts
          have hW := s _ _ ha
          have hT := s _ _ hb
          have rep := rep_zero n
          refine ⟨_, rfl, W, _, 0, _, rfl, rfl, .of hW, rfl, n, rfl, by omega, by omega, fun L nL => lc_range (fun i H3 => ∃ bs, bs.length = i ∧ Rows H H3 L bs fun _ => List.replicate n 0) ?_ ?_ ?_⟩
          · refine ⟨[], rfl, fun b u e => by rw [upd_ne (ne_of_none e nL)]; exact e, nL, .nil, by simp, by simp, upd_same, by simp⟩
          · rintro i H3 hi ⟨bs, hbs, R⟩
            refine ⟨rfl, ?_⟩
            simp only [tYes, if_true]
            rw [Int.toNat_natCast] at hi
            refine ⟨by show 1 ≤ _; rw [sizeLine_eq]; decide, fun p np => ⟨_, rfl, W, [.int n, .ref T], 0, _, rfl, rfl, .of ?_, rfl, p, n, [.int 0], rfl, rfl, upd_same, by omega, by omega, ?_, fun p2 np2 => ?_⟩⟩
            · exact (R.junk np _).sm _ _ hW
            · show 1 * _ ≤ _; rw [sizeLine_eq]; omega
            · have R2 := R.junk np (.lst [.int 0])
              rw [rep]
              refine ⟨bs.map V.ref, ?_, ?_, bs ++ [p2], by simp [hbs], R2.push np2 rfl⟩
              · rw [upd_ne (fun z => ne_of_none R2.hL np2 z)]; exact R2.hL
              · rw [List.length_map, sizeLine_eq]; omega
          · rintro H3 ⟨bs, hbs, R⟩
            rw [Int.toNat_natCast] at hbs
            have hW3 := R.sm _ _ hW
            refine ⟨_, rfl, W, _, 1, _, rfl, rfl, .of hW3, rfl, T, rfl, .inr ⟨ts, .of (R.sm _ _ hT), ?_⟩⟩
            refine for_tup (K := K) (a := T) (xs := ts) (fun i σ H4 => ∃ x y : Option V, σ = [some (.ref W), some (.ref L), x, y, none] ∧ Rows H H4 L bs (tabRow n (ps.take i))) ⟨none, none, rfl, ?_⟩ ?_ ?_ ?_
            · have e : (fun _ => List.replicate n (0 : Int)) = tabRow n (ps.take 0) := by
                funext i
                unfold tabRow
                rw [List.take_zero]
                apply List.ext_getElem
                · simp
                · intro j h1 h2; simp [tied]
              rw [← e]; exact R
            · rintro i σ H4 hi ⟨x, y, rfl, R4⟩
              exact .of (R4.sm _ _ hT)
            · rintro i v σ H4 hv ⟨x, y, rfl, R4⟩
              obtain ⟨d, hd, qd⟩ := hs.getV hv
              rw [List.getElem?_map] at hd
              cases hpi : ps[i]? with
              | none => rw [hpi] at hd; cases hd
              | some p =>
                rw [hpi] at hd
                cases hd
                obtain ⟨p1, p2, p3⟩ := hp p (List.mem_of_getElem? hpi)
                have ht : ps.take (i + 1) = ps.take i ++ [p] := by rw [List.take_succ, hpi]; rfl
                cases qd with
                | tup hc hs2 =>
                  rename_i c cs
                  have ecs : cs = [.int p.1, .int p.2] := DqA.of_ints (ns := [p.1, p.2]) hs2
                  subst ecs
                  have hc4 := R4.sm _ _ (s _ _ hc)
                  refine ⟨c, _, rfl, .of hc4, rfl, _, _, rfl, _, _, rfl, rfl, ?_⟩
                  refine ⟨by show 2 ≤ _; rw [sizeLine_eq]; decide, fun pp npp => ?_⟩
                  have R5 := R4.junk npp (.tup [.int 1, .int 1])
                  have ka : p.1.toNat < bs.length := by omega
                  have kb : p.2.toNat < bs.length := by omega
                  have ga : bs[p.1.toNat]? = some bs[p.1.toNat] := List.getElem?_eq_getElem ka
                  have gb : bs[p.2.toNat]? = some bs[p.2.toNat] := List.getElem?_eq_getElem kb
                  generalize bs[p.1.toNat] = ba at ga
                  generalize bs[p.2.toNat] = bb at gb
                  have ha5 := R5.rows _ _ ga
                  have R6 := R5.put (row' := fun k => if k = p.1.toNat then (tabRow n (ps.take i) k).set p.2.toNat 1 else tabRow n (ps.take i) k) ga (xs := (tabRow n (ps.take i) p.1.toNat).set p.2.toNat 1) (if_pos rfl) (fun j _ hj => if_neg hj)
                  have hb6 := R6.rows _ _ gb
                  rw [if_neg (by omega)] at hb6
                  have R7 := R6.put (row' := tabRow n (ps.take (i + 1))) gb (xs := (tabRow n (ps.take i) p.2.toNat).set p.1.toNat 1) ?_ ?_
                  · refine ⟨pp, _, rfl, .of upd_same, rfl, _, _, rfl, _, rfl, _, rfl, L, _, p.1, .ref ba, rfl, rfl, .of R5.hL, ?_, ?_⟩
                    · exact atI_nat (j := p.1.toNat) (by omega) (by rw [List.getElem?_map, ga]; rfl)
                    refine ⟨_, rfl, ba, _, p.2, p.2.toNat, rfl, rfl, ha5, ixN_nat (by omega) (by simp [tabRow]; omega), ?_⟩
                    rw [← List.map_set]
                    refine ⟨_, _, rfl, _, rfl, _, rfl, L, _, p.2, .ref bb, rfl, rfl, .of R6.hL, ?_, ?_⟩
                    · exact atI_nat (j := p.2.toNat) (by omega) (by rw [List.getElem?_map, gb]; rfl)
                    refine ⟨_, rfl, bb, _, p.1, p.1.toNat, rfl, rfl, hb6, ixN_nat (by omega) (by simp [tabRow]; omega), ?_⟩
                    rw [← List.map_set]
                    exact ⟨rfl, _, _, rfl, R7⟩
                  · rw [ht, tabRow_new p1 p2, if_pos rfl]
                  · intro j _ hj
                    rw [ht, tabRow_new p1 p2, if_neg hj]
            · rintro σ H4 ⟨x, y, rfl, R4⟩
              have hlen : ts.length = ps.length := by rw [hs.length, List.length_map]
              rw [hlen, List.take_length] at R4
              refine ⟨_, rfl, ?_⟩
              have hG : ∀ x, (x = L ∨ x ∈ bs) → H x = none := fun x hx => hx.elim (fun z => by rw [z]; exact R4.hL0) (R4.hb0 x)
              let G' : Hp := fun x => if x = L ∨ x ∈ bs then H4 x else G x
              have gG : Sub G G' := fun x u e => by
                have : ¬ (x = L ∨ x ∈ bs) := fun z => by have := hG x z; rw [s _ _ e] at this; cases this
                show (if _ then _ else _) = _
                rw [if_neg this]; exact e
              have gH : Sub G' H4 := fun x u e => by
                by_cases hx : x = L ∨ x ∈ bs
                · have e : (if x = L ∨ x ∈ bs then H4 x else G x) = some u := e
                  rw [if_pos hx] at e; exact e
                · have e : (if x = L ∨ x ∈ bs then H4 x else G x) = some u := e
                  rw [if_neg hx] at e
                  exact R4.sm _ _ (s _ _ e)
              refine q (.ref L) G' H4 ?_ ⟨fun x u e _ => R4.sm x u e, fun x u e => ⟨u, R4.sm x u e⟩, gG, gH, fun x u e n => ?_⟩
              · refine .lst (xs := bs.map V.ref) (by show (if _ then _ else _) = _; rw [if_pos (.inl rfl)]; exact R4.hL) ?_
                refine DqA.of_get (by simp [hbs]) fun k v d e1 e2 => ?_
                rw [List.getElem?_map] at e1 e2
                cases hb : bs[k]? with
                | none => rw [hb] at e1; cases e1
                | some b =>
                  rw [hb] at e1
                  cases e1
                  have hk := (List.getElem?_eq_some_iff.mp hb).1
                  rw [List.getElem?_range (by omega)] at e2
                  cases e2
                  exact .lst (by show (if _ then _ else _) = _; rw [if_pos (.inr (List.mem_of_getElem? hb))]; exact R4.rows _ _ hb) (DqA.ints _)
              · by_cases hx : x = L ∨ x ∈ bs
                · exact .inl (hG x hx)
                · have e : (if x = L ∨ x ∈ bs then H4 x else G x) = some u := e
                  rw [if_neg hx, n] at e; cases e
section
variable {P : Program} {w : World} {K : PySem.W.Frag} {mg : Str → Option Value} {base : Heap}
theorem tied_fn {qual x : Str} {st : Stmt} {f : Addr} {fd : FuncData} {N : List Str} {k : Nat} (F : Fun K x qual st f fd) (Sc : FnScope N ["web"] (defScope st)) (hN : N.length = 5) (mgx : mg x = some (.ref f)) (hb : Binds K fd ["web"] [])
    (hw : ∀ (cdv : Value) (A : Around) (outer : List Env) (s : Shared) (H : Hp), Room k (A.deeper (envOfC qual (defScope st) s.heap.objs.size f cdv)) → PSs (cxOf CX0 P w K mg base N qual (defScope st) f cdv A outer s H E0).nox (defBody st) (tTied K)) :
    FnQ P w K mg base x (k + 1) S_tied_table := by
  refine ⟨f, fd, _, fn_ofG F Sc ?_ ?_, mgx, F.kp, hb⟩
  · rintro vs H Q E ⟨G, sr, as, Qp, _, h2, _, h4, _⟩
    rw [h2.len]
    match as, h4 with
    | [.d web], _ => rfl
  · rintro cdv A outer s H vs Q hr hgd ⟨G, sr, as, Qp, h1, h2, h3, h4, h5⟩
    refine ⟨_, hw cdv A outer s H hr, ?_⟩
    match as, h4, h2 with
    | [.d web], ⟨n, ps, e, hn, hp, q⟩, .d hd .nil =>
      subst e
      have hd' := hd
      cases hd with
      | tup ha hs =>
        rename_i W xs
        have e : L2.start N [V.ref W] = [some (.ref W), none, none, none, none] := by unfold L2.start; simp [hN]
        rw [e]
        refine tied_run h1 hd' hn hp fun v G' H' hv x => ?_
        refine h5 v _ G' H' q (x.imp fun _ z => z.elim) ?_ hv
        intro d c e
        obtain ⟨g1, g2, sa⟩ := h3 d c e
        have hk : ∀ a o, H a = some o → H' a = some o := fun a o e => x.hk a o e fun z => z
        obtain ⟨ne, ns, l, m, t, hd, hc⟩ := sa
        refine ⟨?_, ?_, ne, ns, l, m, t, hk _ _ hd, hk _ _ hc⟩
        · cases q : G' d with
          | none => rfl
          | some u =>
            rcases x.gn d u q g1 with z | z
            · rw [hd] at z; cases z
            · exact z.elim
        · cases q : G' c with
          | none => rfl
          | some u =>
            rcases x.gn c u q g2 with z | z
            · rw [hc] at z; cases z
            · exact z.elim
end
end L3
set_option Elab.async false
set_option linter.all false
set_option maxRecDepth 100000
/-! What the defs that many laws share compute. -/
namespace EV
open PySem L2 L3
/-! ### polynomials at a place (as in k76) -/
def lin (A B : Int) : Int → List Int → List Int
  | p, [] => [A * p]
  | p, c :: l => (A * p - B * c) :: lin A B c l
def addH (x : Int) : List Int → List Int
  | [] => []
  | c :: l => (c + x) :: l
def stp (u w : Int) (F : List Int) (x : Int) : List Int := addH (x * w ^ F.length) (lin w (-u) 0 F)
def shift (ns : List Int) (u w : Int) : List Int := ns.reverse.foldl (stp u w) []
def signs (ns : List Int) : List Bool := (ns.filter fun x => !(x == 0)).map fun x => decide (0 < x)
def diffs : List Bool → Nat
  | a :: b :: l => (if a = b then 0 else 1) + diffs (b :: l)
  | _ => 0
def chg (ns : List Int) : Nat := diffs (signs ns)
def low : List Int → Nat
  | [] => 0
  | x :: l => if x = 0 then low l + 1 else 0
def PolyOk (ns : List Int) (u w : Int) : Prop := 0 < ns.length ∧ ns.length ≤ 30 ∧ -1000 ≤ u ∧ u ≤ 1000 ∧ 1 ≤ w ∧ w ≤ 4
def S_shifted_poly : FS := fun as Q => match as with
  | [.d p, .d t] => ∃ ns u w, p = DT ns ∧ t = DT [u, w] ∧ PolyOk ns u w ∧ Q (DT (shift ns u w))
  | _ => False
def S__law_shifted : FS := fun as Q => match as with
  | [.d p, .d t] => ∃ ns u w, p = DT ns ∧ t = DT [u, w] ∧ PolyOk ns u w ∧ Q (DL (shift ns u w))
  | _ => False
def S_sign_changes : FS := fun as Q => match as with
  | [.d p] => ∃ ns, p = DT ns ∧ ns.length ≤ 1000 ∧ Q (.int (chg ns))
  | _ => False
def S_roots_above : FS := fun as Q => match as with
  | [.d p, .d t] => ∃ ns u w, p = DT ns ∧ t = DT [u, w] ∧ PolyOk ns u w ∧ Q (.int (chg (shift ns u w)))
  | _ => False
def S__law_above : FS := fun as Q => match as with
  | [.d p, .d t] => ∃ ns u w, p = DT ns ∧ t = DT [u, w] ∧ PolyOk ns u w ∧ Q (.int (chg (shift ns u w)))
  | _ => False
def S_roots_at : FS := fun as Q => match as with
  | [.d p, .d t] => ∃ ns u w, p = DT ns ∧ t = DT [u, w] ∧ PolyOk ns u w ∧ low (shift ns u w) < (shift ns u w).length ∧ Q (.int (low (shift ns u w)))
  | _ => False
def S__law_here : FS := fun as Q => match as with
  | [.d p, .d t] => ∃ ns u w, p = DT ns ∧ t = DT [u, w] ∧ PolyOk ns u w ∧ low (shift ns u w) < (shift ns u w).length ∧ Q (.int (low (shift ns u w)))
  | _ => False
def S_roots_below : FS := fun as Q => match as with
  | [.d p, .d t] => ∃ ns u w, p = DT ns ∧ t = DT [u, w] ∧ PolyOk ns u w ∧ low (shift ns u w) < (shift ns u w).length ∧ Q (.int (ns.length - 1 - chg (shift ns u w) - low (shift ns u w)))
  | _ => False
/-! ### tables -/
abbrev Mat := Nat → Nat → Int
def rowOf (n : Nat) (M : Mat) (i : Nat) : List Int := (List.range n).map (M i)
def matD (n : Nat) (M : Mat) : D := .list ((List.range n).map fun i => DL (rowOf n M i))
def sumR (n : Nat) (f : Nat → Int) : Int := ((List.range n).map f).sum
def mmul (n : Nat) (A B : Mat) : Mat := fun i j => sumR n fun k => A i k * B k j
def tr (n : Nat) (A : Mat) : Int := sumR n fun i => A i i
def one : Mat := fun i j => if i = j then 1 else 0
def Small (n : Nat) (A : Mat) : Prop := ∀ i j, i < n → j < n → -1000 ≤ A i j ∧ A i j ≤ 1000
/-- the program's road: the table behind r steps, the numbers found -/
def rd (n : Nat) (T : Mat) : Nat → Mat × List Int
  | 0 => (one, [1])
  | r + 1 =>
    let L := mmul n T (rd n T r).1
    let c := 0 - (tr n L).fdiv ((r + 1 : Nat) : Int)
    (fun i j => L i j + c * one i j, (rd n T r).2 ++ [c])
def poly (n : Nat) (T : Mat) : List Int := (rd n T n).2.reverse
def S_table_product : FS := fun as Q => match as with
  | [.d a, .d b] => ∃ n A B, a = matD n A ∧ b = matD n B ∧ n ≤ 1000 ∧ Small n A ∧ Q (matD n (mmul n A B))
  | _ => False
def S_diagonal_sum : FS := fun as Q => match as with
  | [.d a] => ∃ n A, a = matD n A ∧ n ≤ 1000 ∧ Q (.int (tr n A))
  | _ => False
def S_web_polynomial : FS := fun as Q => match as with
  | [.d web] => ∃ n ps, web = webD n ps ∧ n ≤ 1000 ∧ PairsOk n ps ∧ Q (DT (poly n (tied ps)))
  | _ => False
/-! ### webs, drawn -/
def S__law_draw_web : FS := fun as Q => match as with
  | [.s, .d (.int most)] => 1 ≤ most ∧ most ≤ 20 ∧ ∀ (n : Nat) (ps : List (Int × Int)), 1 ≤ n → n ≤ most → PairsOk n ps → ps.Pairwise leP → ps.Nodup → Q (webD n ps)
  | _ => False
def S__law_tied : FS := fun as Q => match as with
  | [.d web, .d a, .d b] => ∃ (n : Nat) (ps : List (Int × Int)) (i j : Nat), web = webD n ps ∧ a = .int i ∧ b = .int j ∧ PairsOk n ps ∧ i ≠ j ∧ Q (.bool (decide (tied ps i j = 1)))
  | _ => False
def S__law_table : FS := fun as Q => match as with
  | [.d web] => ∃ n ps, web = webD n ps ∧ n ≤ 1000 ∧ PairsOk n ps ∧ Q (matD n (tied ps))
  | _ => False
def S__law_polynomial : FS := fun as Q => match as with
  | [.d web] => ∃ n ps, web = webD n ps ∧ n ≤ 14 ∧ PairsOk n ps ∧ Q (DT (poly n (tied ps)))
  | _ => False
end EV
set_option Elab.async false
set_option linter.all false
set_option maxRecDepth 100000
set_option maxHeartbeats 4000000

/-! printed by gen.py: readings of defs that many laws share -/
namespace EV
open PySem PySem.Spec PyProof.Rows L2 L3
def p_table_product_1 : PTS := (pSet 2 (pLRange1 (pCB lenG (pCons (pVar 0) pNil))))
def p_table_product_2 : PTS := (pRet (pLc (pIter (pVarF 2)) (pgN 3) pYes (pLc (pIter (pVarF 2)) (pgN 4) pYes (pCB sumG (pCons (pLc (pIter (pVarF 2)) (pgN 5) pYes (pOp mulG (pOp idxG (pOp idxG (pVar 0) (pVar 3)) (pVar 5)) (pOp idxG (pOp idxG (pVar 1) (pVar 5)) (pVar 4))) [5]) pNil)) [4]) [3]))
def p_table_product : PTS :=
  (pSeq p_table_product_1
    p_table_product_2)
def p_diagonal_sum_1 : PTS := (pRet (pCB sumG (pCons (pLc (pRange1 (pCons (pCB lenG (pCons (pVar 0) pNil)) pNil)) (pgN 1) pYes (pOp idxG (pOp idxG (pVar 0) (pVar 1)) (pVar 1)) [1]) pNil)))
def p_diagonal_sum : PTS :=
  p_diagonal_sum_1
def p_web_polynomial_1 : PTS := (pAsgT 2 (pCons (pOp idxG (pVar 0) (pC (.int 0))) (pCons (pCall S_tied_table (pCons (pVarF 0) pNil)) pNil)) (pgCons (pgN 1) (pgCons (pgN 2) pgNil)))
def p_web_polynomial_2 : PTS := (pAsgT 2 (pCons (pLst (pCons (pC (.int 1)) pNil)) (pCons (pLc (pRange1 (pCons (pVar 1) pNil)) (pgN 7) pYes (pLc (pRange1 (pCons (pVar 1) pNil)) (pgN 8) pYes (pCB intG (pCons (pOp eqG (pVar 7) (pVar 8)) pNil)) [8]) [7]) pNil)) (pgCons (pgN 3) (pgCons (pgN 4) pgNil)))
def p_web_polynomial_4 : PTS := (pSet 4 (pCall S_table_product (pCons (pVarF 2) (pCons (pVarF 4) pNil))))
def p_web_polynomial_5 : PTS := (pSet 6 (pOp subG (pC (.int 0)) (pOp fdivG (pCall S_diagonal_sum (pCons (pVarF 4) pNil)) (pVar 5))))
def p_web_polynomial_6 : PTS := (pDrop (pAppend 3 (pCons (pVarF 6) pNil)))
def p_web_polynomial_7 : PTS := (pAsg (pLc (pEnum (pCons (pVarF 4) pNil)) (pgT 2 (pgCons (pgN 7) (pgCons (pgN 9) pgNil))) pYes (pLc (pEnum (pCons (pVarF 9) pNil)) (pgT 2 (pgCons (pgN 8) (pgCons (pgN 10) pgNil))) pYes (pOp addG (pVar 10) (pOp mulG (pVar 6) (pCB intG (pCons (pOp eqG (pVar 7) (pVar 8)) pNil)))) [8, 10]) [7, 9]) (pgN 4))
def p_web_polynomial_3 : PTS := (pFor (pRange2 (pCons (pC (.int 1)) (pCons (pOp addG (pVar 1) (pC (.int 1))) pNil))) (pgN 5) (pSeq p_web_polynomial_4
    (pSeq p_web_polynomial_5
    (pSeq p_web_polynomial_6
    p_web_polynomial_7))))
def p_web_polynomial_8 : PTS := (pRet (pCB tupleG (pCons (pUn revG (pVar 3)) pNil)))
def p_web_polynomial : PTS :=
  (pSeq p_web_polynomial_1
    (pSeq p_web_polynomial_2
    (pSeq p_web_polynomial_3
    p_web_polynomial_8)))
def p_shifted_poly_1 : PTS := (pAsg (pVarF 1) (pgT 2 (pgCons (pgN 2) (pgCons (pgN 3) pgNil))))
def p_shifted_poly_2 : PTS := (pAsgT 2 (pCons (pLst (pCons (pC (.int 0)) pNil)) (pCons (pOp subG (pCB lenG (pCons (pVar 0) pNil)) (pC (.int 1))) pNil)) (pgCons (pgN 4) (pgCons (pgN 5) pgNil)))
def p_shifted_poly_4 : PTS := (pSet 7 (pOp addG (pLst (pCons (pC (.int 0)) pNil)) (pLc (pIter (pVarF 4)) (pgN 9) pYes (pOp mulG (pVar 3) (pVar 9)) [9])))
def p_shifted_poly_6 : PTS := (pAsg (pOp addG (pOp idxG (pVar 7) (pVar 8)) (pOp mulG (pVar 2) (pVar 9))) (pgSub 7 (pVar 8)))
def p_shifted_poly_5 : PTS := (pFor (pEnum (pCons (pVarF 4) pNil)) (pgT 2 (pgCons (pgN 8) (pgCons (pgN 9) pgNil))) p_shifted_poly_6)
def p_shifted_poly_7 : PTS := (pSet 10 (pC (.int 1)))
def p_shifted_poly_9 : PTS := (pSet 10 (pOp mulG (pVar 10) (pVar 3)))
def p_shifted_poly_8 : PTS := (pFor (pRange1 (pCons (pOp subG (pVar 5) (pVar 6)) pNil)) (pgN 11) p_shifted_poly_9)
def p_shifted_poly_10 : PTS := (pAsg (pOp addG (pOp idxG (pVar 7) (pC (.int 0))) (pOp mulG (pOp idxG (pVar 0) (pVar 6)) (pVar 10))) (pgSub 7 (pC (.int 0))))
def p_shifted_poly_11 : PTS := (pSet 4 (pIf (pB (pOp gtG (pCB lenG (pCons (pVar 7) pNil)) (pOp addG (pVar 5) (pC (.int 1))))) (pSl (pVar 7) pNoPart (pPart (pOp addG (pVar 5) (pC (.int 1))))) (pVarF 7)))
def p_shifted_poly_3 : PTS := (pFor (pRangeD (pCons (pVar 5) (pCons (pUn negG (pC (.int 1))) (pCons (pUn negG (pC (.int 1))) pNil)))) (pgN 6) (pSeq p_shifted_poly_4
    (pSeq p_shifted_poly_5
    (pSeq p_shifted_poly_7
    (pSeq p_shifted_poly_8
    (pSeq p_shifted_poly_10
    p_shifted_poly_11))))))
def p_shifted_poly_12 : PTS := (pRet (pCB tupleG (pCons (pSl (pVar 4) pNoPart (pPart (pOp addG (pVar 5) (pC (.int 1))))) pNil)))
def p_shifted_poly : PTS :=
  (pSeq p_shifted_poly_1
    (pSeq p_shifted_poly_2
    (pSeq p_shifted_poly_3
    p_shifted_poly_12)))
def p_sign_changes_1 : PTS := (pSet 1 (pLc (pIter (pVarF 0)) (pgN 2) (pB (pOp neG (pVar 2) (pC (.int 0)))) (pOp gtG (pVar 2) (pC (.int 0))) [2]))
def p_sign_changes_2 : PTS := (pRet (pCB lenG (pCons (pLc (pRange2 (pCons (pC (.int 1)) (pCons (pCB lenG (pCons (pVar 1) pNil)) pNil))) (pgN 3) (pB (pOp neG (pOp idxG (pVar 1) (pVar 3)) (pOp idxG (pVar 1) (pOp subG (pVar 3) (pC (.int 1)))))) (pVarF 3) [3]) pNil)))
def p_sign_changes : PTS :=
  (pSeq p_sign_changes_1
    p_sign_changes_2)
def p_roots_above_1 : PTS := (pRet (pCall S_sign_changes (pCons (pCall S_shifted_poly (pCons (pVarF 0) (pCons (pVarF 1) pNil))) pNil)))
def p_roots_above : PTS :=
  p_roots_above_1
def p_roots_at_1 : PTS := (pSet 2 (pCall S_shifted_poly (pCons (pVarF 0) (pCons (pVarF 1) pNil))))
def p_roots_at_2 : PTS := (pRet (pOp idxG (pLc (pEnum (pCons (pVarF 2) pNil)) (pgT 2 (pgCons (pgN 3) (pgCons (pgN 4) pgNil))) (pB (pOp neG (pVar 4) (pC (.int 0)))) (pVarF 3) [3, 4]) (pC (.int 0))))
def p_roots_at : PTS :=
  (pSeq p_roots_at_1
    p_roots_at_2)
def p__law_draw_web_1 : PTS := (pAsgT 2 (pCons (pOp addG (pC (.int 1)) (pCall S_pick (pCons (pVarF 0) (pCons (pVarF 1) pNil)))) (pCons (pCall S_pick (pCons (pVarF 0) (pCons (pC (.int 3)) pNil))) pNil)) (pgCons (pgN 2) (pgCons (pgN 3) pgNil)))
def p__law_draw_web_2 : PTS := (pSet 4 (pLst pNil))
def p__law_draw_web_5 : PTS := (pSet 7 (pIf (pB (pOp eqG (pVar 3) (pC (.int 0)))) (pOp eqG (pCall S_pick (pCons (pVarF 0) (pCons (pC (.int 3)) pNil))) (pC (.int 0))) (pOp gtG (pCall S_pick (pCons (pVarF 0) (pCons (pC (.int 3)) pNil))) (pC (.int 0)))))
def p__law_draw_web_7 : PTS := (pSet 7 (pOrV (pOp inG (pOp subG (pVar 5) (pVar 6)) (pTup (pCons (pC (.int 1)) (pCons (pOp subG (pVar 2) (pC (.int 1))) pNil)))) (pOp eqG (pCall S_pick (pCons (pVarF 0) (pCons (pC (.int 5)) pNil))) (pC (.int 0)))))
def p__law_draw_web_6 : PTS := (pIfS (pB (pOp eqG (pVar 3) (pC (.int 2)))) p__law_draw_web_7 pNext)
def p__law_draw_web_8 : PTS := (pSet 4 (pOp addG (pVar 4) (pOp mulG (pLst (pCons (pTup (pCons (pVarF 6) (pCons (pVarF 5) pNil))) pNil)) (pCB intG (pCons (pVar 7) pNil)))))
def p__law_draw_web_4 : PTS := (pFor (pRange1 (pCons (pVar 5) pNil)) (pgN 6) (pSeq p__law_draw_web_5
    (pSeq p__law_draw_web_6
    p__law_draw_web_8)))
def p__law_draw_web_3 : PTS := (pFor (pRange1 (pCons (pVar 2) pNil)) (pgN 5) p__law_draw_web_4)
def p__law_draw_web_9 : PTS := (pRet (pTup (pCons (pVarF 2) (pCons (pCB tupleG (pCons (pCB sortedG (pCons (pVar 4) pNil)) pNil)) pNil))))
def p__law_draw_web : PTS :=
  (pSeq p__law_draw_web_1
    (pSeq p__law_draw_web_2
    (pSeq p__law_draw_web_3
    p__law_draw_web_9)))
def p__law_tied_1 : PTS := (pRet (pOp inG (pTup (pCons (pCB min2G (pCons (pVar 1) (pCons (pVar 2) pNil))) (pCons (pCB max2G (pCons (pVar 1) (pCons (pVar 2) pNil))) pNil))) (pOp idxG (pVar 0) (pC (.int 1)))))
def p__law_tied : PTS :=
  p__law_tied_1
def p__law_table_1 : PTS := (pRet (pLc (pRange1 (pCons (pOp idxG (pVar 0) (pC (.int 0))) pNil)) (pgN 1) pYes (pLc (pRange1 (pCons (pOp idxG (pVar 0) (pC (.int 0))) pNil)) (pgN 2) pYes (pCB intG (pCons (pAndV (pOp neG (pVar 1) (pVar 2)) (pCall S__law_tied (pCons (pVarF 0) (pCons (pVarF 1) (pCons (pVarF 2) pNil))))) pNil)) [2]) [1]))
def p__law_table : PTS :=
  p__law_table_1
def p__law_polynomial_1 : PTS := (pAsgT 2 (pCons (pOp idxG (pVar 0) (pC (.int 0))) (pCons (pCall S__law_table (pCons (pVarF 0) pNil)) pNil)) (pgCons (pgN 1) (pgCons (pgN 2) pgNil)))
def p__law_polynomial_2 : PTS := (pAsgT 2 (pCons (pLst pNil) (pCons (pLc (pRange1 (pCons (pVar 1) pNil)) (pgN 7) pYes (pLc (pRange1 (pCons (pVar 1) pNil)) (pgN 8) pYes (pCB intG (pCons (pOp eqG (pVar 7) (pVar 8)) pNil)) [8]) [7]) pNil)) (pgCons (pgN 3) (pgCons (pgN 4) pgNil)))
def p__law_polynomial_4 : PTS := (pSet 4 (pLc (pRange1 (pCons (pVar 1) pNil)) (pgN 7) pYes (pLc (pRange1 (pCons (pVar 1) pNil)) (pgN 8) pYes (pCB sumG (pCons (pLc (pRange1 (pCons (pVar 1) pNil)) (pgN 9) pYes (pOp mulG (pOp idxG (pOp idxG (pVar 4) (pVar 7)) (pVar 9)) (pOp idxG (pOp idxG (pVar 2) (pVar 9)) (pVar 8))) [9]) pNil)) [8]) [7]))
def p__law_polynomial_5 : PTS := (pDrop (pAppend 3 (pCons (pCB sumG (pCons (pLc (pRange1 (pCons (pVar 1) pNil)) (pgN 7) pYes (pOp idxG (pOp idxG (pVar 4) (pVar 7)) (pVar 7)) [7]) pNil)) pNil)))
def p__law_polynomial_3 : PTS := (pFor (pRange1 (pCons (pVar 1) pNil)) (pgN 5) (pSeq p__law_polynomial_4
    p__law_polynomial_5))
def p__law_polynomial_6 : PTS := (pSet 6 (pLst (pCons (pC (.int 1)) pNil)))
def p__law_polynomial_8 : PTS := (pDrop (pAppend 6 (pCons (pOp subG (pC (.int 0)) (pOp fdivG (pCB sumG (pCons (pLc (pRange2 (pCons (pC (.int 1)) (pCons (pOp addG (pVar 5) (pC (.int 1))) pNil))) (pgN 10) pYes (pOp mulG (pOp idxG (pVar 3) (pOp subG (pVar 10) (pC (.int 1)))) (pOp idxG (pVar 6) (pOp subG (pVar 5) (pVar 10)))) [10]) pNil)) (pVar 5))) pNil)))
def p__law_polynomial_7 : PTS := (pFor (pRange2 (pCons (pC (.int 1)) (pCons (pOp addG (pVar 1) (pC (.int 1))) pNil))) (pgN 5) p__law_polynomial_8)
def p__law_polynomial_9 : PTS := (pRet (pCB tupleG (pCons (pUn revG (pVar 6)) pNil)))
def p__law_polynomial : PTS :=
  (pSeq p__law_polynomial_1
    (pSeq p__law_polynomial_2
    (pSeq p__law_polynomial_3
    (pSeq p__law_polynomial_6
    (pSeq p__law_polynomial_7
    p__law_polynomial_9)))))
def p__law_shifted_1 : PTS := (pSet 2 (pLst (pCons (pOp idxG (pVar 0) (pUn negG (pC (.int 1)))) pNil)))
def p__law_shifted_3 : PTS := (pAsgT 2 (pCons (pLc (pRange1 (pCons (pOp addG (pCB lenG (pCons (pVar 2) pNil)) (pC (.int 1))) pNil)) (pgN 6) pYes (pC (.int 0)) [6]) (pCons (pC (.int 1)) pNil)) (pgCons (pgN 4) (pgCons (pgN 5) pgNil)))
def p__law_shifted_5 : PTS := (pAsgT 3 (pCons (pOp addG (pOp idxG (pVar 4) (pVar 6)) (pOp mulG (pOp idxG (pVar 1) (pC (.int 0))) (pVar 7))) (pCons (pOp addG (pOp idxG (pVar 4) (pOp addG (pVar 6) (pC (.int 1)))) (pOp mulG (pOp idxG (pVar 1) (pC (.int 1))) (pVar 7))) (pCons (pOp mulG (pVar 5) (pOp idxG (pVar 1) (pC (.int 1)))) pNil))) (pgCons (pgSub 4 (pVar 6)) (pgCons (pgSub 4 (pOp addG (pVar 6) (pC (.int 1)))) (pgCons (pgN 5) pgNil))))
def p__law_shifted_4 : PTS := (pFor (pEnum (pCons (pVarF 2) pNil)) (pgT 2 (pgCons (pgN 6) (pgCons (pgN 7) pgNil))) p__law_shifted_5)
def p__law_shifted_6 : PTS := (pAsg (pOp addG (pOp idxG (pVar 4) (pC (.int 0))) (pOp mulG (pVar 3) (pVar 5))) (pgSub 4 (pC (.int 0))))
def p__law_shifted_7 : PTS := (pSet 2 (pVarF 4))
def p__law_shifted_2 : PTS := (pFor (pIter (pUn revG (pSl (pVar 0) pNoPart (pPart (pUn negG (pC (.int 1))))))) (pgN 3) (pSeq p__law_shifted_3
    (pSeq p__law_shifted_4
    (pSeq p__law_shifted_6
    p__law_shifted_7))))
def p__law_shifted_8 : PTS := (pRet (pVarF 2))
def p__law_shifted : PTS :=
  (pSeq p__law_shifted_1
    (pSeq p__law_shifted_2
    p__law_shifted_8))
def p__law_above_1 : PTS := (pSet 2 (pLc (pIter (pCall S__law_shifted (pCons (pVarF 0) (pCons (pVarF 1) pNil)))) (pgN 3) (pB (pOp neG (pVar 3) (pC (.int 0)))) (pOp gtG (pVar 3) (pC (.int 0))) [3]))
def p__law_above_2 : PTS := (pRet (pCB lenG (pCons (pLc (pRange2 (pCons (pC (.int 1)) (pCons (pCB lenG (pCons (pVar 2) pNil)) pNil))) (pgN 4) (pB (pOp neG (pOp idxG (pVar 2) (pVar 4)) (pOp idxG (pVar 2) (pOp subG (pVar 4) (pC (.int 1)))))) (pVarF 4) [4]) pNil)))
def p__law_above : PTS :=
  (pSeq p__law_above_1
    p__law_above_2)
def p__law_here_1 : PTS := (pRet (pOp idxG (pLc (pEnum (pCons (pCall S__law_shifted (pCons (pVarF 0) (pCons (pVarF 1) pNil))) pNil)) (pgT 2 (pgCons (pgN 2) (pgCons (pgN 3) pgNil))) (pB (pOp neG (pVar 3) (pC (.int 0)))) (pVarF 2) [2, 3]) (pC (.int 0))))
def p__law_here : PTS :=
  p__law_here_1
end EV
set_option Elab.async false
set_option linter.all false
set_option maxRecDepth 100000
namespace EV
open PySem L2 L3
theorem lin_len {A B : Int} : ∀ (p : Int) (l : List Int), (lin A B p l).length = l.length + 1
  | _, [] => rfl
  | _, c :: l => by simp [lin, lin_len c l]
theorem lin_get {A B : Int} : ∀ (p : Int) (l : List Int) (k : Nat), (lin A B p l).getD k 0 = A * (p :: l).getD k 0 - B * l.getD k 0
  | p, [], 0 => by simp [lin]
  | p, [], k + 1 => by simp [lin]
  | p, c :: l, 0 => by simp [lin]
  | p, c :: l, k + 1 => by
    have := lin_get (A := A) (B := B) c l k
    simpa [lin] using this
theorem lin_zero {A B : Int} : ∀ (p : Int) (l : List Int), lin A B p (l ++ [0]) = lin A B p l ++ [0]
  | p, [] => by simp [lin]
  | p, c :: l => by simp [lin, lin_zero c l]
theorem addH_len {x : Int} {l : List Int} : (addH x l).length = l.length := by cases l <;> rfl
theorem addH_app {x : Int} {l m : List Int} (h : l ≠ []) : addH x (l ++ m) = addH x l ++ m := by
  cases l with
  | nil => exact absurd rfl h
  | cons a l => rfl
theorem addH_get {x : Int} {l : List Int} {k : Nat} (h : 0 < l.length) : (addH x l).getD k 0 = l.getD k 0 + (if k = 0 then x else 0) := by
  cases l with
  | nil => simp at h
  | cons a l => cases k <;> simp [addH]
theorem ext_getD {l m : List Int} (h : l.length = m.length) (g : ∀ k, l.getD k 0 = m.getD k 0) : l = m := by
  apply List.ext_getElem h
  intro i h1 h2
  have := g i
  rw [List.getD_eq_getElem?_getD, List.getD_eq_getElem?_getD, List.getElem?_eq_getElem h1, List.getElem?_eq_getElem h2] at this
  exact this
theorem stp_len {u w : Int} {F : List Int} {x : Int} : (stp u w F x).length = F.length + 1 := by unfold stp; rw [addH_len, lin_len]
theorem foldl_len {u w : Int} : ∀ (xs F : List Int), (xs.foldl (stp u w) F).length = F.length + xs.length
  | [], F => rfl
  | x :: xs, F => by rw [List.foldl_cons, foldl_len xs, stp_len, List.length_cons]; omega
theorem shift_len {ns : List Int} {u w : Int} : (shift ns u w).length = ns.length := by unfold shift; rw [foldl_len]; simp
theorem shift_nil {u w : Int} : shift [] u w = [] := rfl
theorem shift_cons {c : Int} {l : List Int} {u w : Int} : shift (c :: l) u w = addH (c * w ^ l.length) (lin w (-u) 0 (shift l u w)) := by
  unfold shift
  rw [List.reverse_cons, List.foldl_append]
  show stp u w (l.reverse.foldl (stp u w) []) c = _
  have h := foldl_len (u := u) (w := w) l.reverse []
  rw [List.length_reverse, List.length_nil, Nat.zero_add] at h
  generalize l.reverse.foldl (stp u w) [] = F at h
  unfold stp
  rw [h]
theorem shift_lin {a b u w : Int} : ∀ (l : List Int) (p : Int), shift (lin a b p l) u w = addH (a * p * w ^ l.length) (lin (a * w) (b * w - a * u) 0 (shift l u w))
  | [], p => by
    show shift [a * p] u w = _
    rw [shift_cons, shift_nil]
    simp [lin, addH]
  | c :: l, p => by
    show shift ((a * p - b * c) :: lin a b c l) u w = _
    rw [shift_cons, shift_lin l c, shift_cons, lin_len]
    have hS : (shift l u w).length = l.length := shift_len
    generalize shift l u w = S at hS
    apply ext_getD
    · simp [addH_len, lin_len]
    · intro k
      have g1 : ∀ k, (addH (a * c * w ^ l.length) (lin (a * w) (b * w - a * u) 0 S)).getD k 0 = _ := fun k => addH_get (by rw [lin_len]; omega)
      have g2 : ∀ k, (addH (c * w ^ l.length) (lin w (-u) 0 S)).getD k 0 = _ := fun k => addH_get (by rw [lin_len]; omega)
      rw [addH_get (by rw [lin_len]; omega), addH_get (by rw [lin_len]; omega), lin_get, lin_get]
      rw [List.length_cons, Int.pow_succ]
      match k with
      | 0 =>
        simp only [List.getD_cons_zero, g1, g2, lin_get]
        simp
        grind
      | 1 =>
        simp only [List.getD_cons_succ, List.getD_cons_zero, g1, g2, lin_get]
        simp
        grind
      | k + 2 =>
        simp only [List.getD_cons_succ, List.getD_cons_zero, g1, g2, lin_get]
        simp
        grind
theorem addH_zero {l : List Int} : addH 0 l = l := by cases l <;> simp [addH]
theorem shift_lin0 {a b u w : Int} (l : List Int) : shift (lin a b 0 l) u w = lin (a * w) (b * w - a * u) 0 (shift l u w) := by
  rw [shift_lin, Int.mul_zero, Int.zero_mul, addH_zero]
/-- a product of linear polynomials -/
def prod (c : List Int) (rs : List (Int × Int)) : List Int := rs.foldl (fun p r => lin r.1 r.2 0 p) c
theorem shift_prod {u w c : Int} : ∀ (rs : List (Int × Int)) (l : List Int), shift (prod l rs) u w = prod (shift l u w) (rs.map fun r => (r.1 * w, r.2 * w - r.1 * u))
  | [], l => rfl
  | r :: rs, l => by
    show shift (prod (lin r.1 r.2 0 l) rs) u w = _
    rw [shift_prod (c := c) rs, shift_lin0]
    rfl
theorem shift_one {c u w : Int} : shift [c] u w = [c] := by
  rw [shift_cons, shift_nil]
  simp [lin, addH]

theorem shift_last {u w : Int} (hw : w ≠ 0) : ∀ {l : List Int} (h : l ≠ []), l.getLast h ≠ 0 → ∃ h : shift l u w ≠ [], (shift l u w).getLast h ≠ 0
  | [], h, _ => absurd rfl h
  | [c], _, hl => by
    rw [shift_one]
    exact ⟨by simp, hl⟩
  | c :: d :: l, _, hl => by
    obtain ⟨h1, h2⟩ := shift_last hw (l := d :: l) (by simp) (by simpa using hl)
    rw [shift_cons]
    generalize shift (d :: l) u w = S at h1 h2
    cases S with
    | nil => exact absurd rfl h1
    | cons a S =>
      have e : ∀ (p : Int) (S : List Int) (hS : lin w (-u) p S ≠ []), (lin w (-u) p S).getLast hS = w * (p :: S).getLast (by simp) := by
        intro p S
        induction S generalizing p with
        | nil => intro _; rfl
        | cons b S ih =>
          intro hS
          have hn : lin w (-u) b S ≠ [] := fun z => by have := lin_len (A := w) (B := -u) b S; rw [z] at this; simp at this
          show ((w * p - -u * b) :: lin w (-u) b S).getLast _ = _
          rw [List.getLast_cons hn, ih]
          rfl
      show ∃ h : (w * 0 - -u * a + c * w ^ (d :: l).length) :: lin w (-u) a S ≠ [], _
      refine ⟨by simp, ?_⟩
      have hn : lin w (-u) a S ≠ [] := fun z => by have := lin_len (A := w) (B := -u) a S; rw [z] at this; simp at this
      show ((w * 0 - -u * a + c * w ^ (d :: l).length) :: lin w (-u) a S).getLast _ ≠ 0
      rw [List.getLast_cons hn, e]
      exact Int.mul_ne_zero hw h2
theorem low_lt : ∀ {l : List Int}, (∃ x ∈ l, x ≠ 0) → low l < l.length
  | [], h => by simp at h
  | x :: l, h => by
    by_cases hx : x = 0
    · rw [low, if_pos hx, List.length_cons]
      have := low_lt (l := l) (by simpa [hx] using h)
      omega
    · rw [low, if_neg hx]; simp
/-! ### tables, sums -/
theorem matD_row {n : Nat} {M : Mat} {i : Nat} (h : i < n) : ((List.range n).map fun i => DL (rowOf n M i))[i]? = some (DL (rowOf n M i)) := by simp [h]
theorem rowOf_get {n : Nat} {M : Mat} {i j : Nat} (h : j < n) : ((rowOf n M i).map PyData.int)[j]? = some (.int (M i j)) := by unfold rowOf; simp [h]
theorem sumR_succ (n : Nat) (f : Nat → Int) : sumR (n + 1) f = sumR n f + f n := by unfold sumR; rw [List.range_succ, List.map_append, List.sum_append]; simp
theorem sumR_congr {n : Nat} {f g : Nat → Int} (h : ∀ k, k < n → f k = g k) : sumR n f = sumR n g := by
  unfold sumR
  congr 1
  exact List.map_congr_left fun k hk => h k (List.mem_range.mp hk)
theorem sumR_zero (n : Nat) : sumR n (fun _ => 0) = 0 := by
  induction n with
  | zero => rfl
  | succ n ih => rw [sumR_succ, ih]; rfl
theorem sumR_add (n : Nat) (f g : Nat → Int) : sumR n (fun k => f k + g k) = sumR n f + sumR n g := by
  induction n with
  | zero => rfl
  | succ n ih => rw [sumR_succ, sumR_succ, sumR_succ, ih]; omega
theorem sumR_mul (n : Nat) (c : Int) (f : Nat → Int) : sumR n (fun k => c * f k) = c * sumR n f := by
  induction n with
  | zero => show (0 : Int) = c * 0; omega
  | succ n ih => rw [sumR_succ, sumR_succ, ih, Int.mul_add]
theorem sumR_mulr (n : Nat) (c : Int) (f : Nat → Int) : sumR n (fun k => f k * c) = sumR n f * c := by
  rw [Int.mul_comm, ← sumR_mul]
  exact sumR_congr fun k _ => Int.mul_comm _ _
theorem sumR_swap (n m : Nat) (f : Nat → Nat → Int) : sumR n (fun i => sumR m fun j => f i j) = sumR m fun j => sumR n fun i => f i j := by
  induction n with
  | zero => rw [show sumR 0 (fun i => sumR m fun j => f i j) = 0 from rfl]; exact (sumR_zero m).symm
  | succ n ih =>
    rw [sumR_succ, ih, ← sumR_add]
    exact sumR_congr fun j _ => (sumR_succ n fun i => f i j).symm
theorem sumR_one {n i : Nat} (h : i < n) (f : Nat → Int) : sumR n (fun k => (if i = k then 1 else 0) * f k) = f i := by
  induction n with
  | zero => omega
  | succ n ih =>
    rw [sumR_succ]
    by_cases hi : i < n
    · rw [ih hi, if_neg (by omega)]; omega
    · have : i = n := by omega
      subst this
      rw [if_pos rfl]
      have e : sumR i (fun k => (if i = k then 1 else 0) * f k) = 0 := by
        refine (sumR_congr fun k hk => ?_).trans (sumR_zero i)
        rw [if_neg (by omega)]; omega
      rw [e]; omega
end EV
set_option Elab.async false
set_option linter.all false
set_option maxRecDepth 100000
set_option maxHeartbeats 1000000
namespace EV
open PySem L2 L3
theorem range_at {n i k : Nat} (h : (List.range n)[i]? = some k) : k < n := List.mem_range.mp (List.mem_of_getElem? h)
theorem matD_len {n : Nat} {M : Mat} : ((List.range n).map fun i => DL (rowOf n M i)).length = n := by simp
theorem matD_mk {n : Nat} {M : Mat} : matD n M = .list (((List.range n).map fun i => rowOf n M i).map fun l => DL l) := by unfold matD; rw [List.map_map]; rfl
theorem len_table_product : ∀ as Q, S_table_product as Q → as.length = 2
  | [.d p, .d t], _, _ => rfl
theorem v_table_product : ∀ as Q, S_table_product as Q → p_table_product { nx := fun _ => Q .none, rt := Q } (startP ["one", "other", "size", "i", "j", "k"] as) := by
  intro as Q h
  match as, h with
  | [.d p, .d t], ⟨n, A, B, e1, e2, hn, hA, q⟩ =>
    subst e1 e2
    have e0 : rangeD 0 ((((List.range n).map fun i => DL (rowOf n A i)).length : Nat) : Int).toNat = (List.range n).map fun i => PyData.int (0 + (i : Nat)) := by
      rw [matD_len, Int.toNat_natCast]; rfl
    refine ⟨?_, ?_⟩
    · rw [matD_len]; unfold rgOk; omega
    refine lc_map (List.range n) (fun i => .int (0 + (i : Nat))) (fun i => rowOf n (mmul n A B) i) (fun l => DL l) e0 (by rw [List.length_range]; exact szN (by omega)) (fun _ i R hi hR => ?_) (by rw [matD_mk] at q; exact q)
    have hi := range_at hi
    refine lc_map (List.range n) (fun i => .int (0 + (i : Nat))) (fun j => mmul n A B i j) PyData.int e0 (by rw [List.length_range]; exact szN (by omega)) (fun _ j R2 hj hR2 => ?_) (hR _ (back1 (o := none) rfl))
    have hj := range_at hj
    refine lc_map (List.range n) (fun i => .int (0 + (i : Nat))) (fun k => A i k * B k j) PyData.int e0 (by rw [List.length_range]; exact szN (by omega)) (fun _ k R3 hk hR3 => ?_) ⟨_, rfl, hR2 _ (back1 (o := none) rfl)⟩
    have hk := range_at hk
    obtain ⟨s1, s2⟩ := hA i k hi hk
    exact ⟨_, atI_nat (j := i) (by omega) (matD_row hi), _, atI_nat (j := k) (by omega) (rowOf_get hk), _, atI_nat (j := k) (by omega) (matD_row hk), _, atI_nat (j := j) (by omega) (rowOf_get hj), mulOk_l (by omega) (by omega), hR3 _ (back1 (o := none) rfl)⟩

theorem len_diagonal_sum : ∀ as Q, S_diagonal_sum as Q → as.length = 1
  | [.d p], _, _ => rfl
theorem v_diagonal_sum : ∀ as Q, S_diagonal_sum as Q → p_diagonal_sum { nx := fun _ => Q .none, rt := Q } (startP ["rows", "i"] as) := by
  intro as Q h
  match as, h with
  | [.d p], ⟨n, A, e1, hn, q⟩ =>
    subst e1
    have hl : ((((List.range n).map fun i => DL (rowOf n A i)).length : Nat) : Int) = n := by rw [matD_len]
    refine ⟨by rw [hl]; exact small62_of (by omega) (by omega), ?_⟩
    refine lc_map (List.range n) (fun i => .int (0 + (i : Nat))) (fun i => A i i) PyData.int (by rw [hl, Int.toNat_natCast]; rfl) (by rw [List.length_range]; exact szN (by omega)) (fun _ i R hi hR => ?_) ⟨_, rfl, q⟩
    have hi := range_at hi
    exact ⟨_, atI_nat (j := i) (by omega) (matD_row hi), _, atI_nat (j := i) (by omega) (rowOf_get hi), hR _ (back1 (o := none) rfl)⟩
theorem small_tied {n : Nat} {ps : List (Int × Int)} : Small n (tied ps) := by
  intro i j _ _
  unfold tied
  split <;> omega
theorem one_eq (i j : Nat) : (if PyData.eqv (.int (0 + (i : Int))) (.int (0 + (j : Int))) = true then (1 : Int) else 0) = one i j := by
  unfold one
  simp only [PyData.eqv, beq_iff_eq]
  by_cases h : i = j
  · rw [if_pos h, if_pos (by omega)]
  · rw [if_neg h, if_neg (by omega)]
theorem one_eq' (i j : Nat) : (if PyData.eqv (.int (i : Int)) (.int (j : Int)) = true then (1 : Int) else 0) = one i j := by
  unfold one
  simp only [PyData.eqv, beq_iff_eq]
  by_cases h : i = j
  · rw [if_pos h, if_pos (by omega)]
  · rw [if_neg h, if_neg (by omega)]
theorem one_ok (i j : Nat) : 0 ≤ one i j ∧ one i j ≤ 1 := by unfold one; split <;> omega
theorem enum_map {n : Nat} {g : Nat → D} : enumD ((List.range n).map g) = (List.range n).map fun i => .tuple [.int (i : Nat), g i] := by
  apply List.ext_getElem?
  intro i
  unfold enumD
  rw [List.getElem?_mapIdx, List.getElem?_map, List.getElem?_map]
  by_cases hi : i < n
  · rw [List.getElem?_range hi]; rfl
  · rw [List.getElem?_eq_none (by simpa using hi)]; rfl
theorem enum_row {n : Nat} {M : Mat} {i : Nat} : enumD ((rowOf n M i).map PyData.int) = (List.range n).map fun j => .tuple [.int (j : Nat), .int (M i j)] := by
  unfold rowOf
  rw [List.map_map, enum_map]
  rfl
theorem rd_len {n : Nat} {T : Mat} : ∀ r, (rd n T r).2.length = r + 1
  | 0 => rfl
  | r + 1 => by
    show ((rd n T r).2 ++ [_]).length = _
    rw [List.length_append, rd_len r]; rfl
theorem log2_ok {b : Int} (h : b.natAbs < 5000) : b.natAbs.log2 < 9000 := by
  have := Nat.log2_le_self b.natAbs
  omega
theorem len_web_polynomial : ∀ as Q, S_web_polynomial as Q → as.length = 1
  | [.d p], _, _ => rfl
theorem v_web_polynomial : ∀ as Q, S_web_polynomial as Q → p_web_polynomial { nx := fun _ => Q .none, rt := Q } (startP ["web", "n", "table", "found", "late", "r", "number", "i", "j", "row", "x"] as) := by
  intro as Q h
  match as, h with
  | [.d web], ⟨n, ps, e1, hn, hp, q⟩ =>
    subst e1
    have er : rangeD 0 ((n : Int)).toNat = (List.range n).map fun i => PyData.int (0 + (i : Nat)) := by rw [Int.toNat_natCast]; rfl
    have hl : (List.range n).length ≤ sizeLine := by rw [List.length_range]; exact szN (by omega)
    refine ⟨_, atI_nat (j := 0) rfl rfl, n, ps, rfl, hn, hp, sz2, rfl, sz1, small62_of (by omega) (by omega), ?_⟩
    refine lc_map (List.range n) (fun i => .int (0 + (i : Nat))) (fun i => rowOf n one i) (fun l => DL l) er hl (fun _ i R hi hR => ⟨small62_of (by omega) (by omega), ?_⟩) ⟨sz2, rfl, ?_⟩
    · refine lc_map (List.range n) (fun i => .int (0 + (i : Nat))) (fun j => one i j) PyData.int er hl (fun _ j R2 hj hR2 => ⟨rfl, ?_⟩) (hR _ (back1 (o := none) rfl))
      have := hR2 _ (back1 (o := none) (x := .val (.int (0 + (j : Nat)))) rfl)
      rw [← one_eq] at this
      exact this
    rw [← matD_mk]
    refine ⟨small62_of (by decide) (by decide), small62_of (by omega) (by omega), fun i ρ => ∃ s5 s6 : SV, ρ = [.val (webD n ps), .val (.int n), .val (matD n (tied ps)), .own (DL (rd n (tied ps) i).2), .own (matD n (rd n (tied ps) i).1), s5, s6, .no, .no, .no, .no], ⟨.no, .no, rfl⟩, ?_, ?_⟩
    · rintro i d ρ hd ⟨s5, s6, rfl⟩
      obtain ⟨hi, rfl⟩ := rangeD_get hd
      have hi : i < n := by omega
      refine ⟨n, tied ps, (rd n (tied ps) i).1, rfl, rfl, hn, small_tied, ?_⟩
      refine ⟨n, _, rfl, hn, by show (1 : Int) + (i : Nat) ≠ 0; omega, log2_ok (by show ((1 : Int) + (i : Nat)).natAbs < 5000; omega), szN ?_, ?_⟩
      · rw [List.length_map, rd_len]; omega
      have ec : (1 : Int) + (i : Nat) = ((i + 1 : Nat) : Int) := by omega
      rw [ec]
      have e2 : (rd n (tied ps) (i + 1)).2.map PyData.int = (rd n (tied ps) i).2.map PyData.int ++ [.int (0 - (tr n (mmul n (tied ps) (rd n (tied ps) i).1)).fdiv ((i + 1 : Nat) : Int))] := by
        show ((rd n (tied ps) i).2 ++ [_]).map PyData.int = _
        rw [List.map_append]; rfl
      have e3 : (rd n (tied ps) (i + 1)).1 = fun a b => mmul n (tied ps) (rd n (tied ps) i).1 a b + (0 - (tr n (mmul n (tied ps) (rd n (tied ps) i).1)).fdiv ((i + 1 : Nat) : Int)) * one a b := rfl
      generalize mmul n (tied ps) (rd n (tied ps) i).1 = L at e2 e3 ⊢
      generalize 0 - (tr n L).fdiv ((i + 1 : Nat) : Int) = c at e2 e3 ⊢
      refine lc_map (List.range n) (fun a => .tuple [.int (a : Nat), DL (rowOf n L a)]) (fun a => rowOf n (fun a b => L a b + c * one a b) a) (fun l => DL l) enum_map hl (fun _ a R ha hR => ⟨rfl, ?_⟩) ?_
      · refine lc_map (List.range n) (fun b => .tuple [.int (b : Nat), .int (L a b)]) (fun b => L a b + c * one a b) PyData.int enum_row hl (fun _ b R2 hb hR2 => ⟨rfl, rfl, ?_⟩) (hR _ (back2 (o := none) (u := none) (by decide) rfl rfl))
        have h1 := one_ok a b
        refine ⟨mulOk_r (by rw [one_eq']; omega) (by rw [one_eq']; omega), ?_⟩
        rw [one_eq']
        exact hR2 _ (back2 (o := none) (u := none) (by decide) rfl rfl)
      · rw [← matD_mk]
        refine ⟨.val (.int ((i + 1 : Nat) : Int)), .val (.int c), ?_⟩
        have e4 : DL (rd n (tied ps) (i + 1)).2 = .list ((rd n (tied ps) i).2.map PyData.int ++ [.int c]) := congrArg PyData.list e2
        rw [e4, e3]
        rfl
    · rintro ρ ⟨s5, s6, rfl⟩
      have e : (rangeD 1 (((n : Int) + 1 - 1)).toNat).length = n := by rw [rangeD_length]; omega
      rw [e]
      show Q (.tuple ((rd n (tied ps) n).2.map PyData.int).reverse)
      rw [← List.map_reverse]
      exact q
end EV
set_option Elab.async false
set_option linter.all false
set_option maxRecDepth 100000
set_option maxHeartbeats 1000000
namespace EV
open PySem L2 L3
theorem tied_iff {n : Nat} {ps : List (Int × Int)} (hp : PairsOk n ps) {i j : Nat} : (ps.any fun p => decide (p.1 = min (i : Int) j ∧ p.2 = max (i : Int) j)) = decide (tied ps i j = 1) := by
  have e : (ps.any fun p => decide (p.1 = min (i : Int) j ∧ p.2 = max (i : Int) j)) = ps.any fun p => decide (p.1 = (i : Int) ∧ p.2 = (j : Int)) || decide (p.1 = (j : Int) ∧ p.2 = (i : Int)) := by
    rw [Bool.eq_iff_iff, List.any_eq_true, List.any_eq_true]
    constructor
    · rintro ⟨p, hp1, hp2⟩
      refine ⟨p, hp1, ?_⟩
      simp only [Bool.or_eq_true, decide_eq_true_eq] at hp2 ⊢
      omega
    · rintro ⟨p, hp1, hp2⟩
      refine ⟨p, hp1, ?_⟩
      obtain ⟨q1, q2, q3⟩ := hp p hp1
      simp only [Bool.or_eq_true, decide_eq_true_eq] at hp2 ⊢
      omega
  rw [e]
  unfold tied
  cases ps.any fun p => decide (p.1 = (i : Int) ∧ p.2 = (j : Int)) || decide (p.1 = (j : Int) ∧ p.2 = (i : Int)) <;> rfl
theorem shaped_pairs (ps : List (Int × Int)) : SeqAt.shaped (.tuple (ps.map pairD)) = true := by
  have h := shaped_list (ds := ps.map pairD) fun d hd => by
    rw [List.mem_map] at hd
    obtain ⟨r, _, rfl⟩ := hd
    exact ⟨rfl, by simp [PyData.depth, PyData.depthAll]⟩
  have e : SeqAt.shaped (.tuple (ps.map pairD)) = SeqAt.shaped (.list (ps.map pairD)) := by
    unfold SeqAt.shaped
    have e1 : PyData.canLay0 (.tuple (ps.map pairD)) = PyData.canLay0 (.list (ps.map pairD)) := by rw [PyData.canLay0, PyData.canLay0]
    have e2 : PyData.depth (.tuple (ps.map pairD)) = PyData.depth (.list (ps.map pairD)) := by rw [PyData.depth, PyData.depth]
    rw [e1, e2]
  rw [e]; exact h
theorem any_pairs (ps : List (Int × Int)) (a b : Int) : ((ps.map pairD).any fun z => PyData.eqv z (.tuple [.int a, .int b])) = ps.any fun p => decide (p.1 = a ∧ p.2 = b) := by
  rw [List.any_map]
  congr 1
  funext p
  simp only [Function.comp, pairD, PyData.eqv, PyData.eqvAll, List.map_cons, List.map_nil]
  rw [Bool.eq_iff_iff]
  simp
theorem len__law_tied : ∀ as Q, S__law_tied as Q → as.length = 3
  | [.d p, .d a, .d b], _, _ => rfl
theorem v__law_tied : ∀ as Q, S__law_tied as Q → p__law_tied { nx := fun _ => Q .none, rt := Q } (startP ["web", "a", "b"] as) := by
  intro as Q h
  match as, h with
  | [.d web, .d a, .d b], ⟨n, ps, i, j, e1, e2, e3, hp, hij, q⟩ =>
    subst e1 e2 e3
    refine ⟨sz2, _, atI_nat (j := 1) rfl rfl, shaped_intsT (ns := [min (i : Int) j, max (i : Int) j]), shaped_pairs ps, ?_⟩
    rw [any_pairs, tied_iff hp]
    exact q
theorem len__law_table : ∀ as Q, S__law_table as Q → as.length = 1
  | [.d p], _, _ => rfl
theorem tied_self {n : Nat} {ps : List (Int × Int)} (hp : PairsOk n ps) (i : Nat) : tied ps i i = 0 := by
  unfold tied
  rw [if_neg]
  rw [List.any_eq_true]
  rintro ⟨p, h1, h2⟩
  obtain ⟨q1, q2, q3⟩ := hp p h1
  simp only [Bool.or_eq_true, decide_eq_true_eq] at h2
  omega
theorem tied_01 (ps : List (Int × Int)) (i j : Nat) : tied ps i j = 0 ∨ tied ps i j = 1 := by unfold tied; split <;> simp
theorem v__law_table : ∀ as Q, S__law_table as Q → p__law_table { nx := fun _ => Q .none, rt := Q } (startP ["web", "a", "b"] as) := by
  intro as Q h
  match as, h with
  | [.d web], ⟨n, ps, e1, hn, hp, q⟩ =>
    subst e1
    have er : rangeD 0 ((n : Int)).toNat = (List.range n).map fun i => PyData.int (0 + (i : Nat)) := by rw [Int.toNat_natCast]; rfl
    have hl : (List.range n).length ≤ sizeLine := by rw [List.length_range]; exact szN (by omega)
    refine ⟨_, atI_nat (j := 0) rfl rfl, small62_of (by omega) (by omega), ?_⟩
    refine lc_map (List.range n) (fun i => .int (0 + (i : Nat))) (fun i => rowOf n (tied ps) i) (fun l => DL l) er hl (fun _ i R hi hR => ⟨_, atI_nat (j := 0) rfl rfl, small62_of (by omega) (by omega), ?_⟩) (by rw [matD_mk] at q; exact q)
    refine lc_map (List.range n) (fun i => .int (0 + (i : Nat))) (fun j => tied ps i j) PyData.int er hl (fun _ j R2 hj hR2 => ⟨rfl, ?_⟩) (hR _ (back1 (o := none) rfl))
    have h2 := hR2 _ (back1 (o := none) (x := .val (.int (0 + (j : Nat)))) rfl)
    by_cases hij : i = j
    · subst hij
      rw [tied_self hp] at h2
      have e : PyData.eqv (.int (0 + (i : Int))) (.int (0 + (i : Int))) = true := by simp [PyData.eqv]
      rw [e]
      exact h2
    · have e : PyData.eqv (.int (0 + (i : Int))) (.int (0 + (j : Int))) = false := by simp [PyData.eqv]; omega
      rw [e]
      refine ⟨n, ps, i, j, rfl, congrArg PyData.int (by omega), congrArg PyData.int (by omega), hp, hij, ?_⟩
      rcases tied_01 ps i j with t | t
      · rw [t] at h2 ⊢; exact h2
      · rw [t] at h2 ⊢; exact h2
end EV
set_option Elab.async false
set_option linter.all false
set_option maxRecDepth 100000
/-! Newton's numbers are the program's. -/
namespace EV
theorem sumR_front (n : Nat) (f : Nat → Int) : sumR (n + 1) f = f 0 + sumR n fun k => f (k + 1) := by
  induction n with
  | zero => rw [sumR_succ]; show (0 : Int) + f 0 = f 0 + 0; omega
  | succ n ih => rw [sumR_succ, ih, sumR_succ]; omega
theorem sumR_rev (n : Nat) : ∀ f : Nat → Int, sumR n f = sumR n fun k => f (n - 1 - k) := by
  induction n with
  | zero => intro f; rfl
  | succ n ih =>
    intro f
    rw [sumR_succ, sumR_front, ih]
    have e : (sumR n fun k => f (n + 1 - 1 - (k + 1))) = sumR n fun k => f (n - 1 - k) := sumR_congr fun k hk => by congr 1; omega
    rw [e]
    show _ + f n = f n + _
    omega
/-- powers from the left, from the right -/
def lp (n : Nat) (T : Mat) : Nat → Mat
  | 0 => one
  | r + 1 => mmul n T (lp n T r)
def rp (n : Nat) (T : Mat) : Nat → Mat
  | 0 => one
  | r + 1 => mmul n (rp n T r) T
theorem mmul_one {n : Nat} {A : Mat} {i j : Nat} (hj : j < n) : mmul n A one i j = A i j := by
  unfold mmul one
  have e : (sumR n fun k => A i k * if k = j then 1 else 0) = sumR n fun k => (if j = k then 1 else 0) * A i k := sumR_congr fun k _ => by
    by_cases h : k = j
    · rw [if_pos h, if_pos h.symm]; omega
    · rw [if_neg h, if_neg (fun z => h z.symm)]; omega
  rw [e, sumR_one hj]
theorem one_mmul {n : Nat} {A : Mat} {i j : Nat} (hi : i < n) : mmul n one A i j = A i j := sumR_one hi fun k => A k j
theorem mmul_assoc {n : Nat} (A B C : Mat) (i j : Nat) : mmul n (mmul n A B) C i j = mmul n A (mmul n B C) i j := by
  unfold mmul
  have e1 : (sumR n fun k => (sumR n fun m => A i m * B m k) * C k j) = sumR n fun k => sumR n fun m => A i m * B m k * C k j := sumR_congr fun k _ => (sumR_mulr n _ _).symm
  have e2 : (sumR n fun m => A i m * sumR n fun k => B m k * C k j) = sumR n fun m => sumR n fun k => A i m * (B m k * C k j) := sumR_congr fun k _ => (sumR_mul n _ _).symm
  rw [e1, e2, sumR_swap]
  exact sumR_congr fun m _ => sumR_congr fun k _ => Int.mul_assoc _ _ _
theorem mmul_congr {n : Nat} {A A' B B' : Mat} {i j : Nat} (hA : ∀ k, k < n → A i k = A' i k) (hB : ∀ k, k < n → B k j = B' k j) : mmul n A B i j = mmul n A' B' i j := sumR_congr fun k hk => by rw [hA k hk, hB k hk]
theorem lp_comm {n : Nat} {T : Mat} : ∀ (r i j : Nat), i < n → j < n → mmul n (lp n T r) T i j = mmul n T (lp n T r) i j
  | 0, i, j, hi, hj => by
    show mmul n one T i j = mmul n T one i j
    rw [one_mmul hi, mmul_one hj]
  | r + 1, i, j, hi, hj => by
    show mmul n (mmul n T (lp n T r)) T i j = mmul n T (mmul n T (lp n T r)) i j
    rw [mmul_assoc]
    exact mmul_congr (fun _ _ => rfl) fun k hk => lp_comm r k j hk hj
theorem rp_lp {n : Nat} {T : Mat} : ∀ (r i j : Nat), i < n → j < n → rp n T r i j = lp n T r i j
  | 0, _, _, _, _ => rfl
  | r + 1, i, j, hi, hj => by
    show mmul n (rp n T r) T i j = mmul n T (lp n T r) i j
    rw [← lp_comm r i j hi hj]
    exact mmul_congr (fun k hk => rp_lp r i k hi hk) fun _ _ => rfl
theorem tr_rp {n : Nat} {T : Mat} (r : Nat) : tr n (rp n T r) = tr n (lp n T r) := sumR_congr fun i hi => rp_lp r i i hi hi
theorem rd_get {n : Nat} {T : Mat} {r k : Nat} (h : k ≤ r) : (rd n T (r + 1)).2.getD k 0 = (rd n T r).2.getD k 0 := by
  show ((rd n T r).2 ++ [_]).getD k 0 = _
  rw [List.getD_eq_getElem?_getD, List.getElem?_append_left (by rw [rd_len]; omega), ← List.getD_eq_getElem?_getD]
theorem rd_last {n : Nat} {T : Mat} {r : Nat} : (rd n T (r + 1)).2.getD (r + 1) 0 = 0 - (tr n (mmul n T (rd n T r).1)).fdiv ((r + 1 : Nat) : Int) := by
  show ((rd n T r).2 ++ [_]).getD (r + 1) 0 = _
  rw [List.getD_eq_getElem?_getD, List.getElem?_append_right (by rw [rd_len]; omega), rd_len]
  simp
theorem rd_mat {n : Nat} {T : Mat} : ∀ (r i j : Nat), i < n → j < n → (rd n T r).1 i j = sumR (r + 1) fun k => (rd n T r).2.getD k 0 * lp n T (r - k) i j
  | 0, i, j, _, _ => by
    rw [sumR_succ]
    show one i j = sumR 0 _ + 1 * one i j
    have : sumR 0 (fun k => (rd n T 0).2.getD k 0 * lp n T (0 - k) i j) = 0 := rfl
    rw [this]; omega
  | r + 1, i, j, hi, hj => by
    have e0 : (rd n T (r + 1)).1 i j = mmul n T (rd n T r).1 i j + (rd n T (r + 1)).2.getD (r + 1) 0 * one i j := by rw [rd_last]; rfl
    rw [e0, sumR_succ]
    have e1 : r + 1 - (r + 1) = 0 := by omega
    rw [e1]
    congr 1
    rw [mmul_congr (A' := T) (B' := fun a b => sumR (r + 1) fun k => (rd n T r).2.getD k 0 * lp n T (r - k) a b) (fun _ _ => rfl) fun k hk => rd_mat r k j hk hj]
    unfold mmul
    have e2 : (sumR n fun m => T i m * sumR (r + 1) fun k => (rd n T r).2.getD k 0 * lp n T (r - k) m j) = sumR n fun m => sumR (r + 1) fun k => T i m * ((rd n T r).2.getD k 0 * lp n T (r - k) m j) := sumR_congr fun m _ => (sumR_mul _ _ _).symm
    rw [e2, sumR_swap]
    refine sumR_congr fun k hk => ?_
    have e3 : (sumR n fun m => T i m * ((rd n T r).2.getD k 0 * lp n T (r - k) m j)) = sumR n fun m => (rd n T r).2.getD k 0 * (T i m * lp n T (r - k) m j) := sumR_congr fun m _ => by
      rw [← Int.mul_assoc, ← Int.mul_assoc, Int.mul_comm (T i m)]
    rw [e3, sumR_mul, rd_get (by omega)]
    have e4 : r + 1 - k = (r - k) + 1 := by omega
    rw [e4]
    rfl
theorem tr_rd {n : Nat} {T : Mat} (r : Nat) : tr n (mmul n T (rd n T r).1) = sumR (r + 1) fun k => (rd n T r).2.getD k 0 * tr n (lp n T (r - k + 1)) := by
  unfold tr
  have e1 : (sumR n fun i => mmul n T (rd n T r).1 i i) = sumR n fun i => sumR (r + 1) fun k => (rd n T r).2.getD k 0 * lp n T (r - k + 1) i i := sumR_congr fun i hi => by
    rw [mmul_congr (A' := T) (B' := fun a b => sumR (r + 1) fun k => (rd n T r).2.getD k 0 * lp n T (r - k) a b) (fun _ _ => rfl) fun k hk => rd_mat r k i hk hi]
    unfold mmul
    have e2 : (sumR n fun m => T i m * sumR (r + 1) fun k => (rd n T r).2.getD k 0 * lp n T (r - k) m i) = sumR n fun m => sumR (r + 1) fun k => T i m * ((rd n T r).2.getD k 0 * lp n T (r - k) m i) := sumR_congr fun m _ => (sumR_mul _ _ _).symm
    rw [e2, sumR_swap]
    refine sumR_congr fun k hk => ?_
    have e3 : (sumR n fun m => T i m * ((rd n T r).2.getD k 0 * lp n T (r - k) m i)) = sumR n fun m => (rd n T r).2.getD k 0 * (T i m * lp n T (r - k) m i) := sumR_congr fun m _ => by
      rw [← Int.mul_assoc, ← Int.mul_assoc, Int.mul_comm (T i m)]
    rw [e3, sumR_mul]
    rfl
  rw [e1, sumR_swap]
  exact sumR_congr fun k _ => sumR_mul _ _ _
/-- the law's road: by the numbers of closed walks -/
def nw (n : Nat) (T : Mat) : Nat → List Int
  | 0 => [1]
  | r + 1 => nw n T r ++ [0 - (sumR (r + 1) fun i => tr n (rp n T (i + 1)) * (nw n T r).getD (r - i) 0).fdiv ((r + 1 : Nat) : Int)]
theorem nw_rd {n : Nat} {T : Mat} : ∀ r, nw n T r = (rd n T r).2
  | 0 => rfl
  | r + 1 => by
    have ih := nw_rd (n := n) (T := T) r
    show nw n T r ++ [_] = (rd n T r).2 ++ [0 - (tr n (mmul n T (rd n T r).1)).fdiv ((r + 1 : Nat) : Int)]
    rw [ih, tr_rd]
    have e : (sumR (r + 1) fun i => tr n (rp n T (i + 1)) * (rd n T r).2.getD (r - i) 0) = sumR (r + 1) fun k => (rd n T r).2.getD k 0 * tr n (lp n T (r - k + 1)) := by
      rw [sumR_rev]
      refine sumR_congr fun k hk => ?_
      have e1 : r - (r + 1 - 1 - k) = k := by omega
      have e2 : r + 1 - 1 - k + 1 = r - k + 1 := by omega
      rw [e1, e2, tr_rp, Int.mul_comm]
    rw [e]
/-! ### how large closed walks' numbers are -/
theorem sumR_nonneg {n : Nat} {f : Nat → Int} (h : ∀ k, k < n → 0 ≤ f k) : 0 ≤ sumR n f := by
  induction n with
  | zero => exact Int.le_refl 0
  | succ n ih =>
    rw [sumR_succ]
    have := ih fun k hk => h k (by omega)
    have := h n (by omega)
    omega
theorem sumR_le {n : Nat} {f : Nat → Int} {M : Int} (h : ∀ k, k < n → f k ≤ M) : sumR n f ≤ n * M := by
  induction n with
  | zero => show (0 : Int) ≤ ((0 : Nat) : Int) * M; simp
  | succ n ih =>
    rw [sumR_succ]
    have h1 := ih fun k hk => h k (by omega)
    have h2 := h n (by omega)
    have e : ((n + 1 : Nat) : Int) * M = n * M + M := by rw [Int.natCast_add, Int.add_mul]; omega
    rw [e]; omega
theorem rp_bd {n : Nat} {T : Mat} (hT : ∀ i j, i < n → j < n → 0 ≤ T i j ∧ T i j ≤ 1) : ∀ (r i j : Nat), i < n → j < n → 0 ≤ rp n T r i j ∧ rp n T r i j ≤ (n : Int) ^ r
  | 0, i, j, _, _ => by
    show 0 ≤ one i j ∧ one i j ≤ _
    rw [Int.pow_zero]
    exact one_ok i j
  | r + 1, i, j, hi, hj => by
    show 0 ≤ mmul n (rp n T r) T i j ∧ mmul n (rp n T r) T i j ≤ _
    refine ⟨sumR_nonneg fun k hk => Int.mul_nonneg (rp_bd hT r i k hi hk).1 (hT k j hk hj).1, ?_⟩
    rw [Int.pow_succ, Int.mul_comm]
    refine sumR_le fun k hk => ?_
    obtain ⟨h1, h2⟩ := rp_bd hT r i k hi hk
    obtain ⟨h3, h4⟩ := hT k j hk hj
    have := Int.mul_le_mul h2 h4 h3 (Int.le_trans h1 h2)
    omega
theorem tr_bd {n : Nat} {T : Mat} (hT : ∀ i j, i < n → j < n → 0 ≤ T i j ∧ T i j ≤ 1) (hn : n ≤ 14) {r : Nat} (hr : r ≤ 14) : 0 ≤ tr n (rp n T r) ∧ tr n (rp n T r) < 2 ^ 63 := by
  refine ⟨sumR_nonneg fun k hk => (rp_bd hT r k k hk hk).1, ?_⟩
  have h1 : tr n (rp n T r) ≤ n * (n : Int) ^ r := sumR_le fun k hk => (rp_bd hT r k k hk hk).2
  have h2 : (n : Int) ^ r ≤ 14 ^ 14 := by
    have : (n : Nat) ^ r ≤ 14 ^ 14 := Nat.le_trans (Nat.pow_le_pow_left hn r) (Nat.pow_le_pow_right (by decide) hr)
    exact_mod_cast this
  have h3 : (n : Int) * (n : Int) ^ r ≤ 14 * 14 ^ 14 := Int.mul_le_mul (by omega) h2 (by
    have : 0 ≤ (n : Nat) ^ r := Nat.zero_le _
    exact_mod_cast this) (by decide)
  have h4 : (14 : Int) * 14 ^ 14 < 2 ^ 63 := by decide
  omega
end EV
set_option Elab.async false
set_option linter.all false
set_option maxRecDepth 100000
set_option maxHeartbeats 1000000
namespace EV
open PySem L2 L3
theorem nw_len {n : Nat} {T : Mat} (r : Nat) : (nw n T r).length = r + 1 := by rw [nw_rd, rd_len]
/-- the numbers of closed walks of lengths 1 .. r -/
def wk (n : Nat) (T : Mat) (r : Nat) : List Int := (List.range r).map fun i => tr n (rp n T (i + 1))
theorem wk_get {n : Nat} {T : Mat} {r i : Nat} (h : i < r) : ((wk n T r).map PyData.int)[i]? = some (.int (tr n (rp n T (i + 1)))) := by unfold wk; simp [h]
theorem wk_succ {n : Nat} {T : Mat} {r : Nat} : wk n T (r + 1) = wk n T r ++ [tr n (rp n T (r + 1))] := by unfold wk; rw [List.range_succ, List.map_append]; rfl
theorem tied_bd {n : Nat} (ps : List (Int × Int)) : ∀ i j, i < n → j < n → 0 ≤ tied ps i j ∧ tied ps i j ≤ 1 := by
  intro i j _ _
  rcases tied_01 ps i j with h | h <;> omega
theorem len__law_polynomial : ∀ as Q, S__law_polynomial as Q → as.length = 1
  | [.d p], _, _ => rfl
theorem v__law_polynomial : ∀ as Q, S__law_polynomial as Q → p__law_polynomial { nx := fun _ => Q .none, rt := Q } (startP ["web", "n", "table", "walks", "late", "r", "found", "a", "b", "c", "i"] as) := by
  intro as Q h
  match as, h with
  | [.d web], ⟨n, ps, e1, hn, hp, q⟩ =>
    subst e1
    have er : rangeD 0 ((n : Int)).toNat = (List.range n).map fun i => PyData.int (0 + (i : Nat)) := by rw [Int.toNat_natCast]; rfl
    have hl : (List.range n).length ≤ sizeLine := by rw [List.length_range]; exact szN (by omega)
    have h62 : small62 (n : Int) := small62_of (by omega) (by omega)
    refine ⟨_, atI_nat (j := 0) rfl rfl, n, ps, rfl, by omega, hp, sz2, rfl, Nat.zero_le _, h62, ?_⟩
    refine lc_map (List.range n) (fun i => .int (0 + (i : Nat))) (fun i => rowOf n one i) (fun l => DL l) er hl (fun _ i R hi hR => ⟨h62, ?_⟩) ⟨sz2, rfl, ?_⟩
    · refine lc_map (List.range n) (fun i => .int (0 + (i : Nat))) (fun j => one i j) PyData.int er hl (fun _ j R2 hj hR2 => ⟨rfl, ?_⟩) (hR _ (back1 (o := none) rfl))
      have := hR2 _ (back1 (o := none) (x := .val (.int (0 + (j : Nat)))) rfl)
      rw [← one_eq] at this
      exact this
    rw [← matD_mk]
    refine ⟨h62, fun i ρ => ∃ s5 : SV, ρ = [.val (webD n ps), .val (.int n), .val (matD n (tied ps)), .own (DL (wk n (tied ps) i)), .own (matD n (rp n (tied ps) i)), s5, .no, .no, .no, .no, .no], ⟨.no, rfl⟩, ?_, ?_⟩
    · rintro i d ρ hd ⟨s5, rfl⟩
      obtain ⟨hi, rfl⟩ := rangeD_get hd
      refine ⟨h62, ?_⟩
      refine lc_map (List.range n) (fun i => .int (0 + (i : Nat))) (fun a => rowOf n (rp n (tied ps) (i + 1)) a) (fun l => DL l) er hl (fun _ a R ha hR => ⟨h62, ?_⟩) ?_
      · have ha := range_at ha
        refine lc_map (List.range n) (fun i => .int (0 + (i : Nat))) (fun b => rp n (tied ps) (i + 1) a b) PyData.int er hl (fun _ b R2 hb hR2 => ⟨h62, ?_⟩) (hR _ (back1 (o := none) rfl))
        have hb := range_at hb
        refine lc_map (List.range n) (fun i => .int (0 + (i : Nat))) (fun c => rp n (tied ps) i a c * tied ps c b) PyData.int er hl (fun _ c R3 hc hR3 => ?_) ⟨_, rfl, hR2 _ (back1 (o := none) rfl)⟩
        have hc := range_at hc
        have ht := tied_bd ps c b hc hb
        exact ⟨_, atI_nat (j := a) (by omega) (matD_row ha), _, atI_nat (j := c) (by omega) (rowOf_get hc), _, atI_nat (j := c) (by omega) (matD_row hc), _, atI_nat (j := b) (by omega) (rowOf_get hb), mulOk_r (by omega) (by omega), hR3 _ (back1 (o := none) rfl)⟩
      · rw [← matD_mk]
        refine ⟨h62, ?_⟩
        refine lc_map (List.range n) (fun i => .int (0 + (i : Nat))) (fun a => rp n (tied ps) (i + 1) a a) PyData.int er hl (fun _ a R ha hR => ?_) ⟨_, rfl, szN ?_, .val (.int (0 + (i : Nat))), ?_⟩
        · have ha := range_at ha
          exact ⟨_, atI_nat (j := a) (by omega) (matD_row ha), _, atI_nat (j := a) (by omega) (rowOf_get ha), hR _ (back1 (o := none) rfl)⟩
        · unfold wk; simp; omega
        · have e : DL (wk n (tied ps) (i + 1)) = .list ((wk n (tied ps) i).map PyData.int ++ [.int (tr n (rp n (tied ps) (i + 1)))]) := by
            show PyData.list _ = _
            rw [wk_succ, List.map_append]; rfl
          rw [e]
          rfl
    · rintro ρ ⟨s5, rfl⟩
      have e0 : (rangeD 0 ((n : Int)).toNat).length = n := by rw [rangeD_length, Int.toNat_natCast]
      rw [e0]
      generalize rp n (tied ps) n = L
      refine ⟨sz1, small62_of (by decide) (by decide), small62_of (by omega) (by omega), fun i ρ => ∃ s5 : SV, ρ = [.val (webD n ps), .val (.int n), .val (matD n (tied ps)), .own (DL (wk n (tied ps) n)), .own (matD n L), s5, .own (DL (nw n (tied ps) i)), .no, .no, .no, .no], ⟨s5, rfl⟩, ?_, ?_⟩
      · rintro i d ρ hd ⟨s5, rfl⟩
        obtain ⟨hi, rfl⟩ := rangeD_get hd
        have hi : i < n := by omega
        have ec : (1 : Int) + (i : Nat) = ((i + 1 : Nat) : Int) := by omega
        have er2 : rangeD 1 ((1 : Int) + (i : Nat) + 1 - 1).toNat = (List.range (i + 1)).map fun k => PyData.int (1 + (k : Nat)) := by
          have : ((1 : Int) + (i : Nat) + 1 - 1).toNat = i + 1 := by omega
          rw [this]; rfl
        refine ⟨small62_of (by decide) (by decide), small62_of (by omega) (by omega), ?_⟩
        refine lc_map (List.range (i + 1)) (fun k => .int (1 + (k : Nat))) (fun k => tr n (rp n (tied ps) (k + 1)) * (nw n (tied ps) i).getD (i - k) 0) PyData.int er2 (by rw [List.length_range]; exact szN (by omega)) (fun _ k R hk hR => ?_) ⟨_, rfl, by show (1 : Int) + (i : Nat) ≠ 0; omega, log2_ok (by show ((1 : Int) + (i : Nat)).natAbs < 5000; omega), szN ?_, .val (.int (1 + (i : Nat))), ?_⟩
        · have hk := range_at hk
          have hb := tr_bd (n := n) (T := tied ps) (tied_bd ps) hn (r := k + 1) (by omega)
          exact ⟨_, atI_nat (j := k) (by omega) (wk_get (by omega)), _, atI_nat (j := i - k) (by omega) (getInts (by rw [nw_len]; omega)), mulOk_l (by omega) (by omega), hR _ (back1 (o := none) rfl)⟩
        · rw [List.length_map, nw_len]; omega
        · have e : DL (nw n (tied ps) (i + 1)) = .list ((nw n (tied ps) i).map PyData.int ++ [.int (0 - (sumR (i + 1) fun k => tr n (rp n (tied ps) (k + 1)) * (nw n (tied ps) i).getD (i - k) 0).fdiv ((1 : Int) + (i : Nat)))]) := by
            rw [ec]
            show PyData.list ((nw n (tied ps) i ++ [_]).map PyData.int) = _
            rw [List.map_append]; rfl
          rw [e]
          rfl
      · rintro ρ ⟨s5, rfl⟩
        have e : (rangeD 1 (((n : Int) + 1 - 1)).toNat).length = n := by rw [rangeD_length]; omega
        rw [e]
        show Q (.tuple ((nw n (tied ps) n).map PyData.int).reverse)
        rw [← List.map_reverse, nw_rd]
        exact q
end EV
set_option Elab.async false
set_option linter.all false
set_option maxRecDepth 100000
set_option maxHeartbeats 1000000
namespace EV
open PySem L2 L3
abbrev DS (most n road : Int) (s4 s5 s6 s7 : SV) : PSt := [.src, .val (.int most), .val (.int n), .val (.int road), s4, s5, s6, s7]
section
variable {E : PEnds} {most n road : Int} {s4 s5 s6 s7 : SV}
theorem draw_5 (k : ∀ b : Bool, E.nx (DS most n road s4 s5 s6 (.val (.bool b)))) : p__law_draw_web_5 E (DS most n road s4 s5 s6 s7) := by
  refine ⟨rfl, ?_⟩
  by_cases h : PyData.eqv (.int road) (.int 0) = true
  · exact ite_t h ⟨by decide, fun r r0 r1 => ⟨rfl, k _⟩⟩
  · exact ite_f h ⟨by decide, fun r r0 r1 => k _⟩
theorem draw_6 {a b : Int} {c : Bool} (k : ∀ b' : Bool, E.nx (DS most n road s4 (.val (.int b)) (.val (.int a)) (.val (.bool b')))) : p__law_draw_web_6 E (DS most n road s4 (.val (.int b)) (.val (.int a)) (.val (.bool c))) := by
  refine ⟨rfl, ?_⟩
  by_cases h : PyData.eqv (.int road) (.int 2) = true
  · refine ite_t h ⟨sz2, rfl, shaped_intsT (ns := [1, n - 1]), ?_⟩
    cases h2 : ([PyData.int 1, PyData.int (n - 1)].any fun z => PyData.eqv z (.int (b - a))) with
    | true => exact k _
    | false => exact ⟨by decide, fun r r0 r1 => ⟨rfl, k _⟩⟩
  · exact ite_f h (k _)
theorem draw_8 {a b : Int} {c : Bool} {qs : List (Int × Int)} (hl : qs.length ≤ 1000) (k : ∀ qs', (qs' = qs ∨ qs' = qs ++ [(a, b)]) → E.nx (DS most n road (.own (.list (qs'.map pairD))) (.val (.int b)) (.val (.int a)) (.val (.bool c)))) :
    p__law_draw_web_8 E (DS most n road (.own (.list (qs.map pairD))) (.val (.int b)) (.val (.int a)) (.val (.bool c))) := by
  refine ⟨sz2, sz1, ?_⟩
  cases c with
  | false =>
    refine ⟨by decide, by decide, Nat.zero_le _, szN ?_, ?_⟩
    · rw [List.length_map]; show _ + 0 ≤ _; omega
    · have := k qs (.inl rfl)
      rw [← List.append_nil (qs.map pairD)] at this
      exact this
  | true =>
    refine ⟨by decide, by decide, by show 1 * 1 ≤ _; rw [sizeLine_eq]; decide, szN ?_, ?_⟩
    · rw [List.length_map]; show _ + 1 ≤ _; omega
    · have := k (qs ++ [(a, b)]) (.inr rfl)
      rw [List.map_append] at this
      exact this
end
def DrawnTo (n i j : Nat) (qs : List (Int × Int)) : Prop := PairsOk n qs ∧ qs.Nodup ∧ (∀ p ∈ qs, p.2 < i ∨ (p.2 = i ∧ p.1 < j)) ∧ qs.length ≤ i * 20 + j
theorem len__law_draw_web : ∀ as Q, S__law_draw_web as Q → as.length = 2
  | [.s, .d (.int m)], _, _ => rfl
theorem v__law_draw_web : ∀ as Q, S__law_draw_web as Q → p__law_draw_web { nx := fun _ => Q .none, rt := Q } (startP ["source", "most", "n", "road", "ties", "b", "a", "keep"] as) := by
  intro as Q h
  match as, h with
  | [.s, .d (.int most)], ⟨h1, h2, q⟩ =>
    refine ⟨by omega, fun r r0 r1 => ⟨by decide, fun road _ _ => ⟨sz2, rfl, Nat.zero_le _, ?_⟩⟩⟩
    obtain ⟨n, hn⟩ : ∃ n : Nat, 1 + r = (n : Int) := ⟨(1 + r).toNat, by omega⟩
    have hn1 : 1 ≤ n := by omega
    have hn2 : (n : Int) ≤ most := by omega
    rw [hn]
    refine ⟨small62_of (by omega) (by omega), fun i ρ => ∃ (qs : List (Int × Int)) (s5 s6 s7 : SV), ρ = DS most n road (.own (.list (qs.map pairD))) s5 s6 s7 ∧ DrawnTo n i 0 qs, ⟨[], .no, .no, .no, rfl, ?_⟩, ?_, ?_⟩
    · exact ⟨by simp [PairsOk], .nil, by simp, by simp⟩
    · rintro i d ρ hd ⟨qs, s5, s6, s7, rfl, hqs⟩
      obtain ⟨hi, rfl⟩ := rangeD_get hd
      have hi : i < n := by omega
      have ei : (0 : Int) + (i : Nat) = (i : Int) := by omega
      rw [ei]
      refine ⟨small62_of (by omega) (by omega), fun j ρ => ∃ (qs : List (Int × Int)) (s6 s7 : SV), ρ = DS most n road (.own (.list (qs.map pairD))) (.val (.int i)) s6 s7 ∧ DrawnTo n i j qs, ⟨qs, s6, s7, rfl, hqs⟩, ?_, ?_⟩
      · rintro j d ρ hd ⟨qs, s6, s7, rfl, g1, g2, g3, g4⟩
        obtain ⟨hj, rfl⟩ := rangeD_get hd
        have hj : j < i := by omega
        have ej : (0 : Int) + (j : Nat) = (j : Int) := by omega
        rw [ej]
        refine draw_5 (s6 := .val (.int j)) fun b => draw_6 fun b => draw_8 (by omega) fun qs' hq' => ?_
        refine ⟨qs', _, _, rfl, ?_⟩
        rcases hq' with rfl | rfl
        · exact ⟨g1, g2, fun p hp => by have := g3 p hp; omega, by omega⟩
        · refine ⟨?_, ?_, ?_, ?_⟩
          · intro p hp
            rcases List.mem_append.mp hp with h | h
            · exact g1 p h
            · rw [List.mem_singleton] at h
              subst h
              show (0 : Int) ≤ (j : Int) ∧ (j : Int) < (i : Int) ∧ (i : Int) < n
              omega
          · rw [List.nodup_append]
            refine ⟨g2, by simp, ?_⟩
            intro p hp x hx
            rw [List.mem_singleton] at hx
            subst hx
            rintro rfl
            have := g3 _ hp
            simp at this
          · intro p hp
            rcases List.mem_append.mp hp with h | h
            · have := g3 p h; omega
            · rw [List.mem_singleton] at h
              subst h
              show (i : Int) < i ∨ ((i : Int) = i ∧ (j : Int) < ((j + 1 : Nat) : Int))
              omega
          · rw [List.length_append, List.length_singleton]; omega
      · rintro ρ ⟨qs, s6, s7, rfl, g1, g2, g3, g4⟩
        have e : (rangeD 0 ((i : Int)).toNat).length = i := by rw [rangeD_length, Int.toNat_natCast]
        rw [e] at g3 g4
        refine ⟨qs, _, s6, s7, rfl, g1, g2, fun p hp => ?_, by omega⟩
        have := g3 p hp
        have := g1 p hp
        omega
    · rintro ρ ⟨qs, s5, s6, s7, rfl, g1, g2, g3, g4⟩
      refine .inr ⟨qs, rfl, fun ms pm st => ⟨sz2, q n ms hn1 hn2 ?_ st ?_⟩⟩
      · intro p hp
        exact g1 p (pm.mem_iff.mp hp)
      · exact pm.nodup_iff.mpr g2
end EV
set_option Elab.async false
set_option linter.all false
set_option maxRecDepth 100000
set_option maxHeartbeats 1000000
namespace EV
open PySem L2 L3
/-- the places of a row of bools that part from the one before -/
def dif (bs : List Bool) (k : Nat) : Option Int := if bs.getD (k + 1) false = bs.getD k false then none else some (1 + (k : Int))
theorem dif_len : ∀ (bs : List Bool), ((List.range (bs.length - 1)).filterMap (dif bs)).length = diffs bs
  | [] => rfl
  | [a] => rfl
  | a :: b :: l => by
    have ih := dif_len (b :: l)
    have e1 : (a :: b :: l).length - 1 = ((b :: l).length - 1) + 1 := by simp
    rw [e1, List.range_succ_eq_map, List.filterMap_cons, List.filterMap_map]
    have e2 : ∀ k, (dif (a :: b :: l) ∘ Nat.succ) k = (dif (b :: l) k).map fun z => z + 1 := by
      intro k
      simp only [Function.comp, dif, List.getD_cons_succ]
      split
      · rfl
      · simp; omega
    have e3 : ∀ ks : List Nat, (ks.filterMap (dif (a :: b :: l) ∘ Nat.succ)).length = (ks.filterMap (dif (b :: l))).length := by
      intro ks
      induction ks with
      | nil => rfl
      | cons k ks ih =>
        rw [List.filterMap_cons, List.filterMap_cons, e2]
        cases dif (b :: l) k with
        | none => simpa using ih
        | some z => simpa using ih
    by_cases hab : a = b
    · have e4 : dif (a :: b :: l) 0 = none := by simp [dif, hab]
      rw [e4]
      show (List.filterMap _ _).length = _
      rw [e3, ih, diffs, if_pos hab, Nat.zero_add]
    · have e4 : dif (a :: b :: l) 0 = some 1 := by simp [dif, Ne.symm hab]
      rw [e4]
      show (List.filterMap _ _).length + 1 = _
      rw [e3, ih, diffs, if_neg hab, Nat.add_comm]
def sgn (x : Int) : Option Bool := if x = 0 then none else some (decide (0 < x))
theorem signs_fm (ns : List Int) : ns.filterMap sgn = signs ns := by
  unfold signs
  induction ns with
  | nil => rfl
  | cons x l ih =>
    by_cases hx : x = 0
    · simp [sgn, hx, List.filterMap_cons, ← ih]
    · simp [sgn, hx, List.filterMap_cons, ← ih]
theorem len_sign_changes : ∀ as Q, S_sign_changes as Q → as.length = 1
  | [.d p], _, _ => rfl
theorem v_sign_changes : ∀ as Q, S_sign_changes as Q → p_sign_changes { nx := fun _ => Q .none, rt := Q } (startP ["row", "signs", "x", "k"] as) := by
  intro as Q h
  match as, h with
  | [.d p], ⟨ns, e1, h0, q⟩ =>
    subst e1
    refine lc_ok ns PyData.int sgn PyData.bool rfl (fun i x acc hx ha => ⟨rfl, ?_⟩) ?_
    · by_cases h : x = 0
      · exact ite_f (by simp [PyData.eqv, h]) (lc_no hx ha (by simp [sgn, h]) rfl)
      · exact ite_t (by simpa [PyData.eqv] using h) (lc_yes hx (szN (by omega)) ha (by simp [sgn, h]) rfl rfl)
    rw [signs_fm]
    have hl : (signs ns).length ≤ ns.length := by unfold signs; rw [List.length_map]; exact List.length_filter_le _ _
    have hr : ((((signs ns).map PyData.bool).length : Int) - 1).toNat = (signs ns).length - 1 := by rw [List.length_map]; omega
    refine ⟨small62_of (by decide) (by decide), small62_of ?_ ?_, ?_⟩
    · rw [List.length_map]; omega
    · rw [List.length_map]; omega
    refine lc_ok (List.range ((signs ns).length - 1)) (fun k => .int (1 + (k : Nat))) (dif (signs ns)) PyData.int (by rw [hr]; rfl) (fun i k acc hk ha => ?_) ?_
    · have hk' : k < (signs ns).length - 1 := List.mem_range.mp (List.mem_of_getElem? hk)
      have g1 : ((signs ns).map PyData.bool)[k + 1]? = some (.bool ((signs ns).getD (k + 1) false)) := by simp [show k + 1 < (signs ns).length by omega]
      have g2 : ((signs ns).map PyData.bool)[k]? = some (.bool ((signs ns).getD k false)) := by simp [show k < (signs ns).length by omega]
      refine ⟨_, atI_nat (by omega) g1, _, atI_nat (by omega) g2, rfl, ?_⟩
      by_cases hb : (signs ns).getD (k + 1) false = (signs ns).getD k false
      · exact ite_f (by simp only [PyData.eqv, hb]; simp) (lc_no hk ha (by unfold dif; rw [if_pos hb]) rfl)
      · exact ite_t (by simp only [PyData.eqv, Bool.not_eq_true', beq_eq_false_iff_ne]; exact hb) (lc_yes hk (szN (by rw [List.length_range]; omega)) ha (by unfold dif; rw [if_neg hb]) rfl rfl)
    · show Q (.int _)
      rw [List.length_map, dif_len]
      exact q
/-- the shifted polynomial's top numbers -/
def top (ns : List Int) (u w : Int) (i : Nat) : List Int := (ns.reverse.take i).foldl (stp u w) []
theorem top_len {ns : List Int} {u w : Int} {i : Nat} (h : i ≤ ns.length) : (top ns u w i).length = i := by
  unfold top; rw [foldl_len]; simp; omega
theorem top_succ {ns : List Int} {u w : Int} {i : Nat} (h : i < ns.length) : top ns u w (i + 1) = stp u w (top ns u w i) (ns.getD (ns.length - 1 - i) 0) := by
  unfold top
  have e : ns.reverse.take (i + 1) = ns.reverse.take i ++ [ns.getD (ns.length - 1 - i) 0] := by
    rw [List.take_succ, List.getElem?_reverse h]
    have h2 : ns.length - 1 - i < ns.length := by omega
    simp [List.getD_eq_getElem?_getD, List.getElem?_eq_getElem h2]
  rw [e, List.foldl_append]
  rfl
theorem top_all {ns : List Int} {u w : Int} : top ns u w ns.length = shift ns u w := by
  unfold top shift
  rw [List.take_of_length_le (by simp)]
theorem pow_small {w : Int} (h1 : 1 ≤ w) (h2 : w ≤ 4) : ∀ {i : Nat}, i ≤ 30 → 1 ≤ w ^ i ∧ w ^ i ≤ 4 ^ i
  | 0, _ => by simp
  | i + 1, h => by
    obtain ⟨a, b⟩ := pow_small h1 h2 (i := i) (by omega)
    rw [Int.pow_succ, Int.pow_succ]
    have c : 1 * 1 ≤ w ^ i * w := Int.mul_le_mul a h1 (by decide) (by omega)
    have d : w ^ i * w ≤ 4 ^ i * 4 := Int.mul_le_mul b h2 (by omega) (by omega)
    omega
theorem pow4 : ∀ {i : Nat}, i ≤ 30 → (4 : Int) ^ i ≤ 4 ^ 30
  | i, h => by
    have : (4 : Nat) ^ i ≤ 4 ^ 30 := Nat.pow_le_pow_right (by decide) h
    exact_mod_cast this
theorem pow_ok {w : Int} (h1 : 1 ≤ w) (h2 : w ≤ 4) {i : Nat} (h : i ≤ 30) : -(2 ^ 64) < w ^ i ∧ w ^ i < 2 ^ 64 := by
  obtain ⟨a, b⟩ := pow_small h1 h2 h
  have c := pow4 h
  have e : (4 : Int) ^ 30 < 2 ^ 64 := by decide
  have e2 : -(2 ^ 64) < (1 : Int) := by decide
  omega
def lte (f : List Int) (u w : Int) (j k : Nat) : Int := (if 1 ≤ k then w * f.getD (k - 1) 0 else 0) + (if k < j then u * f.getD k 0 else 0)
theorem len_shifted_poly : ∀ as Q, S_shifted_poly as Q → as.length = 2
  | [.d p, .d t], _, _ => rfl
theorem v_shifted_poly : ∀ as Q, S_shifted_poly as Q → p_shifted_poly { nx := fun _ => Q .none, rt := Q } (startP ["poly", "t", "u", "w", "found", "degree", "k", "late", "i", "x", "power", "lap"] as) := by
  intro as Q h
  match as, h with
  | [.d p, .d t], ⟨ns, u, w, e1, e2, ⟨h0, h1, u1, u2, w1, w2⟩, q⟩ =>
    subst e1 e2
    have hn : (((ns.map PyData.int).length : Int) - 1) = ((ns.length - 1 : Nat) : Int) := by rw [List.length_map]; omega
    refine ⟨rfl, sz1, sz2, rfl, small62_of (by rw [hn]; omega) (by rw [hn]; omega), small62_of (by decide) (by decide), ?_⟩
    rw [hn]
    have hn2 : ((((ns.length - 1 : Nat) : Int)) - -1).toNat = ns.length := by omega
    refine ⟨fun i ρ => ∃ (s4 s6 s7 s8 : SV) (o9 : Option SV) (s10 s11 : SV), ρ = [.val (DT ns), .val (DT [u, w]), .val (.int u), .val (.int w), s4, .val (.int ((ns.length - 1 : Nat) : Int)), s6, s7, s8, keepv o9, s10, s11] ∧
      (s4 = .val (DL (top ns u w i ++ if i < ns.length then [0] else [])) ∨ s4 = .own (DL (top ns u w i ++ if i < ns.length then [0] else []))), ⟨_, _, _, _, none, _, _, rfl, .inr ?_⟩, ?_, ?_⟩
    · rw [if_pos h0]; rfl
    · rintro i d ρ hd ⟨s4, s6, s7, s8, o9, s10, s11, rfl, hs⟩
      have hi : i < ns.length := by
        have := (List.getElem?_eq_some_iff.mp hd).1
        rw [downD_length] at this
        omega
      obtain rfl : d = .int (((ns.length - 1 - i : Nat) : Int)) := by
        unfold downD at hd
        rw [List.getElem?_map, List.getElem?_range (by rw [hn2]; exact hi)] at hd
        have := Option.some.inj hd
        rw [← this]
        exact congrArg PyData.int (by omega)
      rw [if_pos hi] at hs
      have hF := top_len (u := u) (w := w) (Nat.le_of_lt hi)
      have hF1 := top_succ (u := u) (w := w) hi
      generalize top ns u w i = F at hs hF hF1
      have hfl : (F ++ [0]).length = i + 1 := by simp [hF]
      revert hs
      revert s4
      refine val_or_own ?_ (fun H => H)
      refine ⟨sz1, lc_map (F ++ [0]) PyData.int (fun x => w * x) PyData.int rfl (szN (by omega)) (fun k x R hx hR => ⟨mulOk_l (by omega) (by omega), hR _ (by show List.set _ 9 (keepv (some (keepv o9))) = _; rw [keepv_keepv]; rfl)⟩) ⟨szN ?_, ?_⟩⟩
      · show 1 + _ ≤ _
        rw [List.length_map, List.length_map]; omega
      have start : [PyData.int 0] ++ ((F ++ [0]).map fun x => w * x).map PyData.int = fnI (i + 2) (lte (F ++ [0]) u w 0) := by
        refine (fnI_ints (m := i + 2) (ns := 0 :: (F ++ [0]).map fun x => w * x) (by simp [hF]) fun k hk => ?_).symm
        match k with
        | 0 => simp [lte]
        | k + 1 =>
          have hk' : k < (F ++ [0]).length := by omega
          rw [List.getD_cons_succ]
          simp only [lte, Nat.not_lt_zero, if_false, Nat.add_sub_cancel, Int.add_zero]
          rw [if_pos (by omega)]
          rw [List.getD_eq_getElem?_getD, List.getD_eq_getElem?_getD, List.getElem?_map, List.getElem?_eq_getElem hk']
          rfl
      refine ⟨fun j ρ => ∃ (s8 : SV) (o9 : Option SV), ρ = [.val (DT ns), .val (DT [u, w]), .val (.int u), .val (.int w), .val (DL (F ++ [0])), .val (.int ((ns.length - 1 : Nat) : Int)), .val (.int (((ns.length - 1 - i : Nat) : Int))), .own (.list (fnI (i + 2) (lte (F ++ [0]) u w j))), s8, keepv o9, s10, s11], ⟨s8, o9, ?_⟩, ?_, ?_⟩
      · rw [← start, ← keepv_keepv]; rfl
      · rintro j d ρ hd ⟨s8, o9, rfl⟩
        obtain ⟨d', hd', rfl⟩ := enumD_get hd
        obtain ⟨hj, rfl⟩ := getInts_inv hd'
        have key : (fnI (i + 2) (lte (F ++ [0]) u w j)).set j (.int (lte (F ++ [0]) u w j j + u * (F ++ [0]).getD j 0)) = fnI (i + 2) (lte (F ++ [0]) u w (j + 1)) := by
          rw [fnL_set]
          refine fnL_congr fun k hk => ?_
          by_cases hkj : k = j
          · subst hkj
            rw [if_pos rfl]
            simp [lte]
          · rw [if_neg hkj]
            unfold lte
            by_cases h1 : k < j
            · rw [if_pos h1, if_pos (show k < j + 1 by omega)]
            · rw [if_neg h1, if_neg (show ¬ k < j + 1 by omega)]
        refine ⟨rfl, _, atI_nat rfl (fnL_get (by omega)), mulOk_l (by omega) (by omega), _, ixN_nat rfl (by rw [fnL_len]; omega), .val (.int (j : Nat)), some (.val (.int ((F ++ [0]).getD j 0))), ?_⟩
        rw [← key]
        rfl
      rintro ρ ⟨s8, o9, rfl⟩
      have late : fnI (i + 2) (lte (F ++ [0]) u w (enumD ((F ++ [0]).map PyData.int)).length) = (lin w (-u) 0 (F ++ [0])).map PyData.int := by
        refine fnI_ints (by rw [lin_len]; omega) fun k hk => ?_
        rw [lin_get]
        have hl : (enumD ((F ++ [0]).map PyData.int)).length = i + 1 := by simp [enumD, hF]
        rw [hl]
        unfold lte
        match k with
        | 0 => simp [Int.neg_mul]
        | k + 1 =>
          rw [List.getD_cons_succ, if_pos (by omega), Nat.add_sub_cancel]
          by_cases hk2 : k + 1 < i + 1
          · rw [if_pos hk2, Int.neg_mul]; omega
          · rw [if_neg hk2, List.getD_eq_getElem?_getD (i := k + 1), List.getElem?_eq_none (by omega)]
            simp
      rw [late]
      have hpw : ((((ns.length - 1 : Nat) : Int)) - (((ns.length - 1 - i : Nat) : Int))).toNat = i := by omega
      refine ⟨small62_of (by omega) (by omega), ?_⟩
      rw [hpw]
      refine ⟨fun j ρ => ∃ s11 : SV, ρ = [.val (DT ns), .val (DT [u, w]), .val (.int u), .val (.int w), .val (DL (F ++ [0])), .val (.int ((ns.length - 1 : Nat) : Int)), .val (.int (((ns.length - 1 - i : Nat) : Int))), .own (DL (lin w (-u) 0 (F ++ [0]))), s8, keepv o9, .val (.int (w ^ j)), s11], ⟨s11, by rw [Int.pow_zero]; rfl⟩, ?_, ?_⟩
      · rintro j d ρ hd ⟨s11, rfl⟩
        refine ⟨mulOk_r (by omega) (by omega), .val d, ?_⟩
        rw [Int.pow_succ]; rfl
      rintro ρ ⟨s11, rfl⟩
      rw [rangeD_length]
      have hpok := pow_ok w1 w2 (i := i) (by omega)
      have hne : lin w (-u) 0 F ≠ [] := fun z => by have := lin_len (A := w) (B := -u) 0 F; rw [z] at this; simp at this
      have new : ((lin w (-u) 0 (F ++ [0])).map PyData.int).set 0 (.int ((lin w (-u) 0 (F ++ [0])).getD 0 0 + ns.getD (ns.length - 1 - i) 0 * w ^ i)) = (top ns u w (i + 1) ++ [0]).map PyData.int := by
        rw [hF1, lin_zero]
        unfold stp
        rw [hF]
        cases hL : lin w (-u) 0 F with
        | nil => exact absurd hL hne
        | cons c l => rfl
      refine ⟨_, atI_nat (j := 0) rfl (getInts (by rw [lin_len]; exact Nat.succ_pos _)), _, atI_nat rfl (getInts (by omega)), mulOk_r hpok.1 hpok.2, 0, ixN_nat (j := 0) rfl (by rw [List.length_map, lin_len]; exact Nat.succ_pos _), ?_⟩
      rw [new]
      have hT : (top ns u w (i + 1)).length = i + 1 := top_len (by omega)
      by_cases hlast : i + 1 < ns.length
      · refine ite_f ?_ ?_
        · rw [List.length_map]
          have : (top ns u w (i + 1) ++ [0]).length = i + 2 := by simp [hT]
          rw [this]
          simp; omega
        · refine ⟨_, _, _, _, o9, _, _, rfl, .inl ?_⟩
          rw [if_pos hlast]
      · refine ite_t ?_ ?_
        · rw [List.length_map]
          have : (top ns u w (i + 1) ++ [0]).length = i + 2 := by simp [hT]
          rw [this]
          simp; omega
        · refine ⟨_, _, _, _, o9, _, _, rfl, .inr ?_⟩
          rw [if_neg hlast, List.append_nil, cutD_take _ (m := i + 1) (by omega)]
          rw [List.map_append, List.take_left' (by rw [List.length_map, hT])]
    · rintro ρ ⟨s4, s6, s7, s8, o9, s10, s11, rfl, hs⟩
      have hl : (downD (((ns.length - 1 : Nat) : Int)) ((((ns.length - 1 : Nat) : Int)) - -1).toNat).length = ns.length := by rw [downD_length, hn2]
      rw [hl, if_neg (by omega), List.append_nil, top_all] at hs
      have hq : Q (.tuple (cutD (List.map PyData.int (shift ns u w)) none (some (((ns.length - 1 : Nat) : Int) + 1)))) := by
        rw [cutD_take _ (m := ns.length) (by omega), List.take_of_length_le]
        · exact q
        · rw [List.length_map, ← top_all, top_len (Nat.le_refl _)]; exact Nat.le_refl _
      rcases hs with rfl | rfl
      · exact hq
      · exact hq
theorem len_roots_above : ∀ as Q, S_roots_above as Q → as.length = 2
  | [.d p, .d t], _, _ => rfl
theorem v_roots_above : ∀ as Q, S_roots_above as Q → p_roots_above { nx := fun _ => Q .none, rt := Q } (startP ["poly", "t"] as) := by
  intro as Q h
  match as, h with
  | [.d p, .d t], ⟨ns, u, w, e1, e2, ok, q⟩ =>
    subst e1 e2
    exact ⟨ns, u, w, rfl, rfl, ok, _, rfl, by rw [shift_len]; have := ok.2.1; omega, q⟩
theorem low_zero : ∀ {l : List Int} {k : Nat}, k < low l → l.getD k 0 = 0
  | [], k, h => by simp
  | x :: l, k, h => by
    by_cases hx : x = 0
    · rw [low, if_pos hx] at h
      cases k with
      | zero => simpa using hx
      | succ k => rw [List.getD_cons_succ]; exact low_zero (by omega)
    · rw [low, if_neg hx] at h; omega
theorem low_not : ∀ {l : List Int}, low l < l.length → l.getD (low l) 0 ≠ 0
  | [], h => by simp at h
  | x :: l, h => by
    by_cases hx : x = 0
    · rw [low, if_pos hx] at h ⊢
      rw [List.getD_cons_succ]
      exact low_not (by simpa using h)
    · rw [low, if_neg hx]; simpa using hx
def nzk (l : List Int) (k : Nat) : Option Int := if l.getD k 0 = 0 then none else some (k : Nat)
theorem low_first {l : List Int} (h : low l < l.length) : ((List.range l.length).filterMap (nzk l))[0]? = some ((low l : Nat) : Int) := by
  have e : l.length = low l + ((l.length - low l - 1) + 1) := by omega
  rw [e, List.range_add, List.filterMap_append]
  have e1 : (List.range (low l)).filterMap (nzk l) = [] := by
    rw [List.filterMap_eq_nil_iff]
    intro k hk
    unfold nzk
    rw [if_pos (low_zero (List.mem_range.mp hk))]
  rw [e1, List.nil_append, List.range_succ_eq_map, List.map_cons, List.filterMap_cons]
  have e2 : nzk l (low l + 0) = some ((low l : Nat) : Int) := by
    unfold nzk
    rw [Nat.add_zero, if_neg (low_not h)]
  rw [e2]
  rfl
theorem enum_ints (ns : List Int) : enumD (ns.map PyData.int) = (List.range ns.length).map fun k => .tuple [.int (k : Nat), .int (ns.getD k 0)] := by
  apply List.ext_getElem?
  intro i
  unfold enumD
  rw [List.getElem?_mapIdx]
  by_cases hi : i < ns.length
  · rw [getInts hi, List.getElem?_map, List.getElem?_range hi]; rfl
  · rw [List.getElem?_eq_none (by simp; omega), List.getElem?_eq_none (by simp; omega)]; rfl
theorem len_roots_at : ∀ as Q, S_roots_at as Q → as.length = 2
  | [.d p, .d t], _, _ => rfl
theorem v_roots_at : ∀ as Q, S_roots_at as Q → p_roots_at { nx := fun _ => Q .none, rt := Q } (startP ["poly", "t", "row", "k", "x"] as) := by
  intro as Q h
  match as, h with
  | [.d p, .d t], ⟨ns, u, w, e1, e2, ok, hlow, q⟩ =>
    subst e1 e2
    refine ⟨ns, u, w, rfl, rfl, ok, ?_⟩
    have hl := shift_len (ns := ns) (u := u) (w := w)
    generalize shift ns u w = row at hlow q hl
    have := ok.2.1
    refine lc_ok (List.range row.length) (fun k => .tuple [.int (k : Nat), .int (row.getD k 0)]) (nzk row) PyData.int (enum_ints row) (fun i k acc hk ha => ⟨rfl, rfl, ?_⟩) ?_
    · by_cases h : row.getD k 0 = 0
      · exact ite_f (by simp only [PyData.eqv, h]; simp) (lc_no hk ha (by unfold nzk; rw [if_pos h]) rfl)
      · exact ite_t (by simp only [PyData.eqv, Bool.not_eq_true', beq_eq_false_iff_ne]; exact h) (lc_yes hk (szN (by rw [List.length_range]; omega)) ha (by unfold nzk; rw [if_neg h]) rfl rfl)
    · refine ⟨_, atI_nat (j := 0) rfl ?_, q⟩
      rw [List.getElem?_map, low_first hlow]
      rfl

/-- what a reading of signs gives, of the list that shift makes -/
theorem law_stp {u w : Int} {F : List Int} {x : Int} : stp u w F x = addH (x * w ^ F.length) (lin w (-u) 0 F) := rfl
def lte2 (f : List Int) (u w : Int) (j k : Nat) : Int := (if k < j then u * f.getD k 0 else 0) + (if 1 ≤ k ∧ k ≤ j then w * f.getD (k - 1) 0 else 0)
theorem lte2_end {f : List Int} {u w : Int} {k : Nat} (hk : k < f.length + 1) : lte2 f u w f.length k = (lin w (-u) 0 f).getD k 0 := by
  rw [lin_get]
  unfold lte2
  match k with
  | 0 =>
    have h0 : ¬ (1 ≤ 0 ∧ 0 ≤ f.length) := by omega
    rw [if_neg h0]
    by_cases h : 0 < f.length
    · rw [if_pos h]; simp [Int.neg_mul]
    · rw [if_neg h, List.getD_eq_getElem?_getD (l := f), List.getElem?_eq_none (by omega)]; simp
  | k + 1 =>
    rw [List.getD_cons_succ, if_pos (show 1 ≤ k + 1 ∧ k + 1 ≤ f.length by omega), Nat.add_sub_cancel]
    by_cases h : k + 1 < f.length
    · rw [if_pos h, Int.neg_mul]; omega
    · rw [if_neg h, List.getD_eq_getElem?_getD (i := k + 1), List.getElem?_eq_none (by omega)]; simp
theorem len__law_shifted : ∀ as Q, S__law_shifted as Q → as.length = 2
  | [.d p, .d t], _, _ => rfl
theorem v__law_shifted : ∀ as Q, S__law_shifted as Q → p__law_shifted { nx := fun _ => Q .none, rt := Q } (startP ["poly", "t", "row", "number", "late", "power", "k", "x"] as) := by
  intro as Q h
  match as, h with
  | [.d p, .d t], ⟨ns, u, w, e1, e2, ⟨h0, h1, u1, u2, w1, w2⟩, q⟩ =>
    subst e1 e2
    have h : (ns.map PyData.int)[(ns.map PyData.int).length - 1]? = some (.int (ns.getD (ns.length - 1) 0)) := by
      rw [List.length_map]; exact getInts (by omega)
    have e : (cutD (ns.map PyData.int) none (some (-1))).reverse = ns.dropLast.reverse.map PyData.int := by
      rw [cutD_most, List.map_reverse, List.map_dropLast]
    have top_one : top ns u w 1 = [ns.getD (ns.length - 1) 0] := by
      rw [top_succ h0]
      show stp u w [] _ = _
      simp [stp, lin, addH]
    refine ⟨_, atI_last h, sz1, fun i ρ => ∃ (s2 s3 s4 s5 : SV) (o6 : Option SV) (s7 : SV), ρ = [.val (DT ns), .val (DT [u, w]), s2, s3, s4, s5, keepv o6, s7] ∧ (s2 = .val (DL (top ns u w (i + 1))) ∨ s2 = .own (DL (top ns u w (i + 1)))), ⟨_, .no, .no, .no, none, .no, rfl, .inr ?_⟩, ?_, ?_⟩
    · rw [top_one]; rfl
    · rintro i d ρ hd ⟨s2, s3, s4, s5, o6, s7, rfl, hs⟩
      change (cutD (ns.map PyData.int) none (some (-1))).reverse[i]? = some d at hd
      rw [e] at hd
      obtain ⟨hi, rfl⟩ := getInts_inv hd
      rw [List.length_reverse, List.length_dropLast] at hi
      have hv : ns.dropLast.reverse.getD i 0 = ns.getD (ns.length - 1 - (i + 1)) 0 := by
        rw [List.getD_eq_getElem?_getD, List.getElem?_reverse (by rw [List.length_dropLast]; omega), List.getD_eq_getElem?_getD, List.length_dropLast]
        have e2 : ns.length - 1 - 1 - i = ns.length - 1 - (i + 1) := by omega
        rw [e2, List.getElem?_dropLast, if_pos (by omega)]
      rw [hv]
      have hT := top_len (u := u) (w := w) (show i + 1 ≤ ns.length by omega)
      have hS := top_succ (u := u) (w := w) (show i + 1 < ns.length by omega)
      generalize top ns u w (i + 1) = F at hT hS hs
      generalize ns.getD (ns.length - 1 - (i + 1)) 0 = x at hS
      have hFl : (F.map PyData.int).length = i + 1 := by rw [List.length_map, hT]
      have e0 : rangeD 0 ((((F.map PyData.int).length : Nat) : Int) + 1).toNat = (List.range (i + 2)).map fun k => PyData.int (0 + (k : Nat)) := by
        rw [hFl]
        have : (((i + 1 : Nat) : Int) + 1).toNat = i + 2 := by omega
        rw [this]; rfl
      -- the new row, all 0
      have body : ∀ s2 : SV, (s2 = .val (DL F) ∨ s2 = .own (DL F)) → ∀ (D : PEnds), (∀ o6, D.nx [.val (DT ns), .val (DT [u, w]), s2, .val (.int x), .own (.list (fnI (i + 2) (lte2 F u w 0))), .val (.int 1), keepv o6, s7]) →
          p__law_shifted_3 D [.val (DT ns), .val (DT [u, w]), s2, .val (.int x), s4, s5, keepv o6, s7] := by
        intro s2 hs D k
        have start : ((List.range (i + 2)).map fun _ => (0 : Int)).map PyData.int = fnI (i + 2) (lte2 F u w 0) := by
          rw [List.map_map]
          refine (fnL_congr fun k hk => ?_).symm
          have h1 : ¬ (1 ≤ k ∧ k ≤ 0) := by omega
          simp only [lte2, if_neg h1, Nat.not_lt_zero, if_false]
          rfl
        rcases hs with rfl | rfl
        · refine ⟨small62_of (by rw [hFl]; omega) (by rw [hFl]; omega), lc_map (List.range (i + 2)) (fun k => .int (0 + (k : Nat))) (fun _ => (0 : Int)) PyData.int e0 (by rw [List.length_range]; exact szN (by omega)) (fun _ k R hk hR => hR _ (back1 rfl)) ⟨sz2, rfl, ?_⟩⟩
          rw [start]; exact k o6
        · refine ⟨small62_of (by rw [hFl]; omega) (by rw [hFl]; omega), lc_map (List.range (i + 2)) (fun k => .int (0 + (k : Nat))) (fun _ => (0 : Int)) PyData.int e0 (by rw [List.length_range]; exact szN (by omega)) (fun _ k R hk hR => hR _ (back1 rfl)) ⟨sz2, rfl, ?_⟩⟩
          rw [start]; exact k o6
      refine body s2 hs _ fun o6 => ?_
      revert hs
      revert s2
      refine val_or_own ?_ (fun H => H)
      refine ⟨fun j ρ => ∃ (o6 : Option SV) (s7 : SV), ρ = [.val (DT ns), .val (DT [u, w]), .val (DL F), .val (.int x), .own (.list (fnI (i + 2) (lte2 F u w j))), .val (.int (w ^ j)), keepv o6, s7], ⟨o6, s7, by rw [Int.pow_zero]⟩, ?_, ?_⟩
      · rintro j d ρ hd ⟨o6, s7, rfl⟩
        obtain ⟨d', hd', rfl⟩ := enumD_get hd
        obtain ⟨hj, rfl⟩ := getInts_inv hd'
        have key : ((fnI (i + 2) (lte2 F u w j)).set j (.int (lte2 F u w j j + u * F.getD j 0))).set (j + 1) (.int (lte2 F u w j (j + 1) + w * F.getD j 0)) = fnI (i + 2) (lte2 F u w (j + 1)) := by
          rw [fnL_set, fnL_set]
          refine fnL_congr fun k hk => ?_
          by_cases hk1 : k = j + 1
          · subst hk1
            rw [if_pos rfl]
            have a1 : ¬ j + 1 < j := by omega
            have a2 : ¬ (1 ≤ j + 1 ∧ j + 1 ≤ j) := by omega
            have a3 : ¬ j + 1 < j + 1 := by omega
            have a4 : 1 ≤ j + 1 ∧ j + 1 ≤ j + 1 := by omega
            simp only [lte2, if_neg a1, if_neg a2, if_neg a3, if_pos a4, Nat.add_sub_cancel]
            simp
          · rw [if_neg hk1]
            by_cases hkj : k = j
            · subst hkj
              rw [if_pos rfl]
              have a1 : ¬ k < k := by omega
              have a3 : k < k + 1 := by omega
              by_cases h5 : 1 ≤ k
              · have a2 : 1 ≤ k ∧ k ≤ k := by omega
                have a4 : 1 ≤ k ∧ k ≤ k + 1 := by omega
                simp only [lte2, if_neg a1, if_pos a2, if_pos a3, if_pos a4]
                congr 1; omega
              · have a2 : ¬ (1 ≤ k ∧ k ≤ k) := by omega
                have a4 : ¬ (1 ≤ k ∧ k ≤ k + 1) := by omega
                simp only [lte2, if_neg a1, if_neg a2, if_pos a3, if_neg a4]
                congr 1; omega
            · rw [if_neg hkj]
              unfold lte2
              by_cases h1 : k < j
              · have a3 : k < j + 1 := by omega
                by_cases h5 : 1 ≤ k
                · rw [if_pos h1, if_pos a3, if_pos (show 1 ≤ k ∧ k ≤ j by omega), if_pos (show 1 ≤ k ∧ k ≤ j + 1 by omega)]
                · rw [if_pos h1, if_pos a3, if_neg (show ¬ (1 ≤ k ∧ k ≤ j) by omega), if_neg (show ¬ (1 ≤ k ∧ k ≤ j + 1) by omega)]
              · rw [if_neg h1, if_neg (show ¬ k < j + 1 by omega), if_neg (show ¬ (1 ≤ k ∧ k ≤ j) by omega), if_neg (show ¬ (1 ≤ k ∧ k ≤ j + 1) by omega)]
        have ej : (j : Int) + 1 = ((j + 1 : Nat) : Int) := by omega
        refine ⟨rfl, _, atI_nat rfl (fnL_get (by omega)), _, atI_nat (j := 0) rfl rfl, mulOk_l (by omega) (by omega), _, atI_nat ej (fnL_get (by omega)), _, atI_nat (j := 1) rfl rfl, mulOk_l (by omega) (by omega), _, atI_nat (j := 1) rfl rfl, mulOk_r (by omega) (by omega), by show 3 ≤ _; rw [sizeLine_eq]; decide, rfl, _, ixN_nat rfl (by rw [fnL_len]; omega), _, ixN_nat ej (by rw [List.length_set, fnL_len]; omega), some (.val (.int (j : Nat))), .val (.int (F.getD j 0)), ?_⟩
        rw [← key, Int.pow_succ]
        rfl
      rintro ρ ⟨o6, s7, rfl⟩
      have hle : (enumD (F.map PyData.int)).length = i + 1 := by simp [enumD, hT]
      rw [hle]
      have late : fnI (i + 2) (lte2 F u w (i + 1)) = (lin w (-u) 0 F).map PyData.int := by
        refine fnI_ints (by rw [lin_len, hT]) fun k hk => ?_
        have := lte2_end (f := F) (u := u) (w := w) (k := k) (by omega)
        rw [hT] at this
        exact this
      rw [late]
      have hp := pow_ok w1 w2 (i := i + 1) (by omega)
      have new : ((lin w (-u) 0 F).map PyData.int).set 0 (.int ((lin w (-u) 0 F).getD 0 0 + x * w ^ (i + 1))) = (top ns u w (i + 1 + 1)).map PyData.int := by
        rw [hS]
        unfold stp
        rw [hT]
        cases hL : lin w (-u) 0 F with
        | nil => exact absurd hL (fun z => by have := lin_len (A := w) (B := -u) 0 F; rw [z] at this; simp at this)
        | cons c l => rfl
      refine ⟨_, atI_nat (j := 0) rfl (getInts (by rw [lin_len]; exact Nat.succ_pos _)), mulOk_r hp.1 hp.2, 0, ixN_nat (j := 0) rfl (by rw [List.length_map, lin_len]; exact Nat.succ_pos _), ?_⟩
      rw [new]
      exact ⟨_, _, _, _, o6, s7, rfl, .inl rfl⟩
    · rintro ρ ⟨s2, s3, s4, s5, o6, s7, rfl, hs⟩
      have hl : (cutD (ns.map PyData.int) none (some (-1))).reverse.length = ns.length - 1 := by rw [e]; simp
      change s2 = .val (DL (top ns u w ((cutD (ns.map PyData.int) none (some (-1))).reverse.length + 1))) ∨ s2 = .own (DL (top ns u w ((cutD (ns.map PyData.int) none (some (-1))).reverse.length + 1))) at hs
      have hl2 : ns.length - 1 + 1 = ns.length := by omega
      rw [hl, hl2, top_all] at hs
      rcases hs with rfl | rfl
      · exact q
      · exact q
end EV
set_option Elab.async false
set_option linter.all false
set_option maxRecDepth 100000
set_option maxHeartbeats 1000000
namespace EV
open PySem L2 L3
theorem len__law_above : ∀ as Q, S__law_above as Q → as.length = 2
  | [.d p, .d t], _, _ => rfl
theorem v__law_above : ∀ as Q, S__law_above as Q → p__law_above { nx := fun _ => Q .none, rt := Q } (startP ["poly", "t", "signs", "x", "k"] as) := by
  intro as Q h
  match as, h with
  | [.d p, .d t], ⟨ns, u, w, e1, e2, ok, q⟩ =>
    subst e1 e2
    refine ⟨ns, u, w, rfl, rfl, ok, ?_⟩
    have hl0 := shift_len (ns := ns) (u := u) (w := w)
    have hlen := ok.2.1
    generalize shift ns u w = row at q hl0
    refine lc_ok row PyData.int sgn PyData.bool rfl (fun i x acc hx ha => ⟨rfl, ?_⟩) ?_
    · by_cases h : x = 0
      · exact ite_f (by simp [PyData.eqv, h]) (lc_no hx ha (by simp [sgn, h]) rfl)
      · exact ite_t (by simpa [PyData.eqv] using h) (lc_yes hx (szN (by omega)) ha (by simp [sgn, h]) rfl rfl)
    rw [signs_fm]
    have hl : (signs row).length ≤ row.length := by unfold signs; rw [List.length_map]; exact List.length_filter_le _ _
    have hr : ((((signs row).map PyData.bool).length : Int) - 1).toNat = (signs row).length - 1 := by rw [List.length_map]; omega
    refine ⟨small62_of (by decide) (by decide), small62_of ?_ ?_, ?_⟩
    · rw [List.length_map]; omega
    · rw [List.length_map]; omega
    refine lc_ok (List.range ((signs row).length - 1)) (fun k => .int (1 + (k : Nat))) (dif (signs row)) PyData.int (by rw [hr]; rfl) (fun i k acc hk ha => ?_) ?_
    · have hk' : k < (signs row).length - 1 := List.mem_range.mp (List.mem_of_getElem? hk)
      have g1 : ((signs row).map PyData.bool)[k + 1]? = some (.bool ((signs row).getD (k + 1) false)) := by simp [show k + 1 < (signs row).length by omega]
      have g2 : ((signs row).map PyData.bool)[k]? = some (.bool ((signs row).getD k false)) := by simp [show k < (signs row).length by omega]
      refine ⟨_, atI_nat (by omega) g1, _, atI_nat (by omega) g2, rfl, ?_⟩
      by_cases hb : (signs row).getD (k + 1) false = (signs row).getD k false
      · exact ite_f (by simp only [PyData.eqv, hb]; simp) (lc_no hk ha (by unfold dif; rw [if_pos hb]) rfl)
      · exact ite_t (by simp only [PyData.eqv, Bool.not_eq_true', beq_eq_false_iff_ne]; exact hb) (lc_yes hk (szN (by rw [List.length_range]; omega)) ha (by unfold dif; rw [if_neg hb]) rfl rfl)
    · show Q (.int _)
      rw [List.length_map, dif_len]
      exact q
theorem len__law_here : ∀ as Q, S__law_here as Q → as.length = 2
  | [.d p, .d t], _, _ => rfl
theorem v__law_here : ∀ as Q, S__law_here as Q → p__law_here { nx := fun _ => Q .none, rt := Q } (startP ["poly", "t", "k", "x"] as) := by
  intro as Q h
  match as, h with
  | [.d p, .d t], ⟨ns, u, w, e1, e2, ok, hlow, q⟩ =>
    subst e1 e2
    refine ⟨ns, u, w, rfl, rfl, ok, ?_⟩
    have hl := shift_len (ns := ns) (u := u) (w := w)
    generalize shift ns u w = row at hlow q hl
    have := ok.2.1
    refine lc_ok (List.range row.length) (fun k => .tuple [.int (k : Nat), .int (row.getD k 0)]) (nzk row) PyData.int (enum_ints row) (fun i k acc hk ha => ⟨rfl, rfl, ?_⟩) ?_
    · by_cases h : row.getD k 0 = 0
      · exact ite_f (by simp only [PyData.eqv, h]; simp) (lc_no hk ha (by unfold nzk; rw [if_pos h]) rfl)
      · exact ite_t (by simp only [PyData.eqv, Bool.not_eq_true', beq_eq_false_iff_ne]; exact h) (lc_yes hk (szN (by rw [List.length_range]; omega)) ha (by unfold nzk; rw [if_neg h]) rfl rfl)
    · refine ⟨_, atI_nat (j := 0) rfl ?_, q⟩
      rw [List.getElem?_map, low_first hlow]
      rfl
/-! ### a web's polynomial at a place -/
theorem poly_len {n : Nat} {T : Mat} : (poly n T).length = n + 1 := by unfold poly; rw [List.length_reverse, rd_len]
theorem rd_first {n : Nat} {T : Mat} : ∀ r, (rd n T r).2.head? = some 1
  | 0 => rfl
  | r + 1 => by
    show ((rd n T r).2 ++ [_]).head? = _
    have := rd_first (n := n) (T := T) r
    cases h : (rd n T r).2 with
    | nil => rw [h] at this; cases this
    | cons a l => rw [h] at this; exact this
theorem poly_last {n : Nat} {T : Mat} : ∃ h : poly n T ≠ [], (poly n T).getLast h ≠ 0 := by
  have h0 : poly n T ≠ [] := fun z => by have := poly_len (n := n) (T := T); rw [z] at this; simp at this
  refine ⟨h0, ?_⟩
  have e : (poly n T).getLast? = some 1 := by unfold poly; rw [List.getLast?_reverse]; exact rd_first n
  rw [List.getLast?_eq_some_getLast h0] at e
  rw [Option.some.inj e]
  decide
theorem poly_low {n : Nat} {T : Mat} {u w : Int} (hw : w ≠ 0) : low (shift (poly n T) u w) < (shift (poly n T) u w).length := by
  obtain ⟨h1, h2⟩ := poly_last (n := n) (T := T)
  obtain ⟨h3, h4⟩ := shift_last (u := u) hw h1 h2
  exact low_lt ⟨_, List.getLast_mem h3, h4⟩
end EV
set_option Elab.async false
set_option linter.all false
set_option maxRecDepth 100000
namespace K80
open PySem L2 L3
abbrev S_table_product := EV.S_table_product
abbrev S_diagonal_sum := EV.S_diagonal_sum
abbrev S_web_polynomial := EV.S_web_polynomial
abbrev S_shifted_poly := EV.S_shifted_poly
abbrev S_sign_changes := EV.S_sign_changes
abbrev S_roots_above := EV.S_roots_above
abbrev S_roots_at := EV.S_roots_at
abbrev S__law_draw_web := EV.S__law_draw_web
abbrev S__law_tied := EV.S__law_tied
abbrev S__law_table := EV.S__law_table
abbrev S__law_polynomial := EV.S__law_polynomial
abbrev S__law_shifted := EV.S__law_shifted
abbrev S__law_above := EV.S__law_above
abbrev S__law_here := EV.S__law_here
abbrev sAbove : D := .str (Str.ofString "above")
abbrev sAt : D := .str (Str.ofString "at")
def cntFrom (v : D) (least : Int) : Bool := match v with
  | .int i => decide (least ≤ i)
  | _ => false
def toldD (c h : Nat) : D := match h with
  | 0 => .tuple [sAbove, .int c]
  | h + 1 => .tuple [sAt, .int c, .int (h + 1 : Nat)]
abbrev form : D := .tuple [.str (Str.ofString "form")]
/-- the end of a judgement: the number told, the paper whole -/
def fin (c h : Nat) (value v1 : D) : D := if PyData.eqv v1 (.int c) = true then (if PyData.eqv value (toldD c h) = true then .none else .tuple [.str (Str.ofString "here"), .int h]) else .tuple [.str (Str.ofString "many"), .int c]
def fault (c h : Nat) (value : D) : D := match value with
  | .tuple (.str x :: rest) =>
    if (x == Str.ofString "above") = true then (match rest with
      | [v1] => if cntFrom v1 0 = true then fin c h value v1 else form
      | _ => form)
    else if (x == Str.ofString "at") = true then (match rest with
      | [v1, v2] => if cntFrom v1 0 = true then (if cntFrom v2 1 = true then fin c h value v1 else form) else form
      | _ => form)
    else form
  | _ => form
def ValOk (v : D) : Prop := PyData.canLay0 v = true ∧ v.depth ≤ 20
def PlaceOk (n : Nat) (ps : List (Int × Int)) (u w : Int) : Prop := n ≤ 14 ∧ PairsOk n ps ∧ -1000 ≤ u ∧ u ≤ 1000 ∧ 1 ≤ w ∧ w ≤ 4
abbrev cOf (n : Nat) (ps : List (Int × Int)) (u w : Int) : Nat := EV.chg (EV.shift (EV.poly n (tied ps)) u w)
abbrev hOf (n : Nat) (ps : List (Int × Int)) (u w : Int) : Nat := EV.low (EV.shift (EV.poly n (tied ps)) u w)
def S_root_paper : FS := fun as Q => match as with
  | [.d web, .d t] => ∃ n ps u w, web = webD n ps ∧ t = DT [u, w] ∧ PlaceOk n ps u w ∧ Q (toldD (cOf n ps u w) (hOf n ps u w))
  | _ => False
def S_is_count_from : FS := fun as Q => match as with
  | [.d v, .d l] => ∃ least, l = .int least ∧ Q (.bool (cntFrom v least))
  | _ => False
def S__law_is_from : FS := fun as Q => match as with
  | [.d v, .d l] => ∃ least, l = .int least ∧ Q (.bool (cntFrom v least))
  | _ => False
def S_judge_roots : FS := fun as Q => match as with
  | [.d web, .d t, .d v] => ∃ n ps u w, web = webD n ps ∧ t = DT [u, w] ∧ PlaceOk n ps u w ∧ ValOk v ∧ Q (fault (cOf n ps u w) (hOf n ps u w) v)
  | _ => False
def S__law_fault : FS := fun as Q => match as with
  | [.d told, .d v] => ∃ c h, told = toldD c h ∧ ValOk v ∧ Q (fault c h v)
  | _ => False
end K80
set_option Elab.async false
set_option linter.all false
set_option maxRecDepth 100000
set_option maxHeartbeats 4000000

/-! printed by gen.py: the readings of the defs and their derivations -/
namespace K80
open PySem PySem.Spec PyProof.Rows L2 L3

def topS (i : Nat) : Stmt := PySem.Challenge.pw_evenlytied_k80_root_papers_judged.main.body.getD i (.Pass ⟨0, 0, 0, 0⟩)
structure BI (mg : Str → Option Value) : Prop where
  abs : mg "abs" = none
  bool : mg "bool" = none
  enumerate : mg "enumerate" = none
  int : mg "int" = none
  isinstance : mg "isinstance" = none
  len : mg "len" = none
  list : mg "list" = none
  max : mg "max" = none
  min : mg "min" = none
  range : mg "range" = none
  repr : mg "repr" = none
  sorted : mg "sorted" = none
  str : mg "str" = none
  sum : mg "sum" = none
  tuple : mg "tuple" = none
section
variable {P : Program} {w : World} {K : PySem.W.Frag} {mg : Str → Option Value} {base : Heap}

abbrev s_tied_table : Stmt := topS 1
theorem sc_tied_table : FnScope ["web", "rows", "a", "b", "name"] ["web"] (defScope s_tied_table) := ⟨rfl, rfl, rfl, by decide +kernel, rfl, by decide +kernel, by decide +kernel⟩
theorem w_tied_table {f : Addr} (T : BI mg) (cdv : Value) (A : Around) (outer : List Env) (s : Shared) (H : Hp) (hr : Room 0 (A.deeper (envOfC "tied_table" (defScope s_tied_table) s.heap.objs.size f cdv))) : PSs (cxOf CX0 P w K mg base ["web", "rows", "a", "b", "name"] "tied_table" (defScope s_tied_table) f cdv A outer s H E0).nox (defBody s_tied_table) (tTied K) := by
  have nd := sc_tied_table.nd
  have hu : (A.deeper (envOfC "tied_table" (defScope s_tied_table) s.heap.objs.size f cdv)).units + 1 < cLine := hu_of hr
  exact pss_cons (ps_setLc (i := 1) (own := [(("name" : Str), 4)]) (g := gName 4) (tt := tYes) rfl nd rfl rfl (sw_true rfl rfl rfl (by kernel_rfl)) (pi_range1 (by rfl) T.range (pa_cons (pe_ix ix_tup (pv 0) pe_int (fun _ _ => rfl)) pa_nil)) (blkOk_by (by kernel_rfl)) (fun s' H' C cl fp => pg_name (X := Cx.blk _ s' H' _ (compEnvC _ cl C _) fp) (i := 4) nd rfl (Or.inl rfl)) (fun _ _ _ _ _ => pts_nil)
      (fun _ _ _ _ _ => pe_op op_rep (pe_lst (pa_cons pe_int pa_nil)) (pe_ix ix_tup (pv 0) pe_int (fun _ _ => rfl))))
    (pss_cons (ps_for PassesOwn.never rfl (pi_any (pe_ix ix_tup (pv 0) pe_int (fun _ _ => rfl))) (pg_tup rfl (pgs_cons (pg_name (i := 2) nd rfl (.inl rfl)) (pgs_cons (pg_name (i := 3) nd rfl (.inl rfl)) pgs_nil)))
      (pss_one (ps_asg (pe_tup (pa_cons pe_int (pa_cons pe_int pa_nil))) (pg_tup rfl (pgs_cons (pg_sub (pe_ix ix_list (pv 1) (pv 2) (fun _ _ => rfl)) (pv 3) set_list) (pgs_cons (pg_sub (pe_ix ix_list (pv 1) (pv 3) (fun _ _ => rfl)) (pv 2) set_list) pgs_nil))))))
    (pss_one (ps_ret (pv 1))))

abbrev s_table_product : Stmt := topS 2
theorem sc_table_product : FnScope ["one", "other", "size", "i", "j", "k"] ["one", "other"] (defScope s_table_product) := ⟨rfl, rfl, rfl, by decide +kernel, rfl, by decide +kernel, by decide +kernel⟩
def p_table_product_1 : PTS := (pSet 2 (pLRange1 (pCB lenG (pCons (pVar 0) pNil))))
def p_table_product_2 : PTS := (pRet (pLc (pIter (pVarF 2)) (pgN 3) pYes (pLc (pIter (pVarF 2)) (pgN 4) pYes (pCB sumG (pCons (pLc (pIter (pVarF 2)) (pgN 5) pYes (pOp mulG (pOp idxG (pOp idxG (pVar 0) (pVar 3)) (pVar 5)) (pOp idxG (pOp idxG (pVar 1) (pVar 5)) (pVar 4))) [5]) pNil)) [4]) [3]))
def p_table_product : PTS :=
  (pSeq p_table_product_1
    p_table_product_2)
theorem w_table_product {f : Addr} (T : BI mg) (cdv : Value) (A : Around) (outer : List Env) (s : Shared) (H : Hp) (hr : Room 0 (A.deeper (envOfC "table_product" (defScope s_table_product) s.heap.objs.size f cdv))) (hgd0 : A.guards = some []) : QSs (cxOf CX0 P w K mg base ["one", "other", "size", "i", "j", "k"] "table_product" (defScope s_table_product) f cdv A outer s H E0).nox (defBody s_table_product) p_table_product := by
  have nd := sc_table_product.nd
  have hgd : (A.deeper (envOfC "table_product" (defScope s_table_product) s.heap.objs.size f cdv)).guards = some [] := hgd0
  exact (qss_cons (qs_set 2 nd (q_listRange rfl (by rfl) T.list (by rfl) T.range (q_cb cg_len (by rfl) T.len PySem.boot_len (qa_cons (q_v 0) qa_nil))))
    (qss_one (qs_ret (q_lc [(("i" : Str), 3)] rfl nd (qi_any (q_f 2)) (blkOk_by (by kernel_rfl)) (qgc_name 3 nd) (fun _ _ _ _ _ => qts_nil) (fun _ _ _ _ _ => (q_lc [(("j" : Str), 4)] rfl nd (qi_any (q_f 2)) (blkOk_by (by kernel_rfl)) (qgc_name 4 nd) (fun _ _ _ _ _ => qts_nil) (fun _ _ _ _ _ => (q_cb (cg_sum rfl) (by rfl) T.sum PyProof.Rows.boot_sum (qa_cons (q_lc [(("k" : Str), 5)] rfl nd (qi_any (q_f 2)) (blkOk_by (by kernel_rfl)) (qgc_name 5 nd) (fun _ _ _ _ _ => qts_nil) (fun _ _ _ _ _ => (q_op og_mul (q_ix ig_idx (q_ix ig_idx (q_v 0) (q_v 3)) (q_v 5)) (q_ix ig_idx (q_ix ig_idx (q_v 1) (q_v 5)) (q_v 4))))) qa_nil)))))))))

abbrev s_diagonal_sum : Stmt := topS 3
theorem sc_diagonal_sum : FnScope ["rows", "i"] ["rows"] (defScope s_diagonal_sum) := ⟨rfl, rfl, rfl, by decide +kernel, rfl, by decide +kernel, by decide +kernel⟩
def p_diagonal_sum_1 : PTS := (pRet (pCB sumG (pCons (pLc (pRange1 (pCons (pCB lenG (pCons (pVar 0) pNil)) pNil)) (pgN 1) pYes (pOp idxG (pOp idxG (pVar 0) (pVar 1)) (pVar 1)) [1]) pNil)))
def p_diagonal_sum : PTS :=
  p_diagonal_sum_1
theorem w_diagonal_sum {f : Addr} (T : BI mg) (cdv : Value) (A : Around) (outer : List Env) (s : Shared) (H : Hp) (hr : Room 0 (A.deeper (envOfC "diagonal_sum" (defScope s_diagonal_sum) s.heap.objs.size f cdv))) (hgd0 : A.guards = some []) : QSs (cxOf CX0 P w K mg base ["rows", "i"] "diagonal_sum" (defScope s_diagonal_sum) f cdv A outer s H E0).nox (defBody s_diagonal_sum) p_diagonal_sum := by
  have nd := sc_diagonal_sum.nd
  have hgd : (A.deeper (envOfC "diagonal_sum" (defScope s_diagonal_sum) s.heap.objs.size f cdv)).guards = some [] := hgd0
  exact (qss_one (qs_ret (q_cb (cg_sum rfl) (by rfl) T.sum PyProof.Rows.boot_sum (qa_cons (q_lc [(("i" : Str), 1)] rfl nd (qi_range1 (by rfl) T.range (qa_cons (q_cb cg_len (by rfl) T.len PySem.boot_len (qa_cons (q_v 0) qa_nil)) qa_nil)) (blkOk_by (by kernel_rfl)) (qgc_name 1 nd) (fun _ _ _ _ _ => qts_nil) (fun _ _ _ _ _ => (q_ix ig_idx (q_ix ig_idx (q_v 0) (q_v 1)) (q_v 1)))) qa_nil))))

abbrev s_web_polynomial : Stmt := topS 4
theorem sc_web_polynomial : FnScope ["web", "n", "table", "found", "late", "r", "number", "i", "j", "row", "x"] ["web"] (defScope s_web_polynomial) := ⟨rfl, rfl, rfl, by decide +kernel, rfl, by decide +kernel, by decide +kernel⟩
def p_web_polynomial_1 : PTS := (pAsgT 2 (pCons (pOp idxG (pVar 0) (pC (.int 0))) (pCons (pCall S_tied_table (pCons (pVarF 0) pNil)) pNil)) (pgCons (pgN 1) (pgCons (pgN 2) pgNil)))
def p_web_polynomial_2 : PTS := (pAsgT 2 (pCons (pLst (pCons (pC (.int 1)) pNil)) (pCons (pLc (pRange1 (pCons (pVar 1) pNil)) (pgN 7) pYes (pLc (pRange1 (pCons (pVar 1) pNil)) (pgN 8) pYes (pCB intG (pCons (pOp eqG (pVar 7) (pVar 8)) pNil)) [8]) [7]) pNil)) (pgCons (pgN 3) (pgCons (pgN 4) pgNil)))
def p_web_polynomial_4 : PTS := (pSet 4 (pCall S_table_product (pCons (pVarF 2) (pCons (pVarF 4) pNil))))
def p_web_polynomial_5 : PTS := (pSet 6 (pOp subG (pC (.int 0)) (pOp fdivG (pCall S_diagonal_sum (pCons (pVarF 4) pNil)) (pVar 5))))
def p_web_polynomial_6 : PTS := (pDrop (pAppend 3 (pCons (pVarF 6) pNil)))
def p_web_polynomial_7 : PTS := (pAsg (pLc (pEnum (pCons (pVarF 4) pNil)) (pgT 2 (pgCons (pgN 7) (pgCons (pgN 9) pgNil))) pYes (pLc (pEnum (pCons (pVarF 9) pNil)) (pgT 2 (pgCons (pgN 8) (pgCons (pgN 10) pgNil))) pYes (pOp addG (pVar 10) (pOp mulG (pVar 6) (pCB intG (pCons (pOp eqG (pVar 7) (pVar 8)) pNil)))) [8, 10]) [7, 9]) (pgN 4))
def p_web_polynomial_3 : PTS := (pFor (pRange2 (pCons (pC (.int 1)) (pCons (pOp addG (pVar 1) (pC (.int 1))) pNil))) (pgN 5) (pSeq p_web_polynomial_4
    (pSeq p_web_polynomial_5
    (pSeq p_web_polynomial_6
    p_web_polynomial_7))))
def p_web_polynomial_8 : PTS := (pRet (pCB tupleG (pCons (pUn revG (pVar 3)) pNil)))
def p_web_polynomial : PTS :=
  (pSeq p_web_polynomial_1
    (pSeq p_web_polynomial_2
    (pSeq p_web_polynomial_3
    p_web_polynomial_8)))
theorem w_web_polynomial {f : Addr} (T : BI mg) (F_tied_table : FnQ P w K mg base "tied_table" 1 S_tied_table) (F_table_product : FnQ P w K mg base "table_product" 1 S_table_product) (F_diagonal_sum : FnQ P w K mg base "diagonal_sum" 1 S_diagonal_sum) (cdv : Value) (A : Around) (outer : List Env) (s : Shared) (H : Hp) (hr : Room 1 (A.deeper (envOfC "web_polynomial" (defScope s_web_polynomial) s.heap.objs.size f cdv))) (hgd0 : A.guards = some []) : QSs (cxOf CX0 P w K mg base ["web", "n", "table", "found", "late", "r", "number", "i", "j", "row", "x"] "web_polynomial" (defScope s_web_polynomial) f cdv A outer s H E0).nox (defBody s_web_polynomial) p_web_polynomial := by
  have nd := sc_web_polynomial.nd
  have hgd : (A.deeper (envOfC "web_polynomial" (defScope s_web_polynomial) s.heap.objs.size f cdv)).guards = some [] := hgd0
  exact (qss_cons (qs_asgT rfl (qa_cons (q_ix ig_idx (q_v 0) q_int) (qa_cons (q_call F_tied_table hr hgd (qa_cons (q_f 0) qa_nil)) qa_nil)) (qgs_cons (qg_name 1 nd) (qgs_cons (qg_name 2 nd) qgs_nil)))
    (qss_cons (qs_par 3 4 rfl nd (qa_cons (q_lst (qa_cons q_int qa_nil)) (qa_cons (q_lc [(("i" : Str), 7)] rfl nd (qi_range1 (by rfl) T.range (qa_cons (q_v 1) qa_nil)) (blkOk_by (by kernel_rfl)) (qgc_name 7 nd) (fun _ _ _ _ _ => qts_nil) (fun _ _ _ _ _ => (q_lc [(("j" : Str), 8)] rfl nd (qi_range1 (by rfl) T.range (qa_cons (q_v 1) qa_nil)) (blkOk_by (by kernel_rfl)) (qgc_name 8 nd) (fun _ _ _ _ _ => qts_nil) (fun _ _ _ _ _ => (q_ct cg_int (by rfl) T.int PyProof.Rows.boot_int (qa_cons (q_cmp (og_eq hr) (q_v 7) (q_v 8)) qa_nil)))))) qa_nil)))
    (qss_cons (qs_for PassesOwn.never rfl (qi_range2 (by rfl) T.range (qa_cons q_int (qa_cons (q_op og_add (q_v 1) q_int) qa_nil))) (qg_name 5 nd) (qss_cons (qs_set 4 nd (q_call F_table_product hr hgd (qa_cons (q_f 2) (qa_cons (q_f 4) qa_nil))))
    (qss_cons (qs_set 6 nd (q_op og_sub q_int (q_op og_fdiv (q_call F_diagonal_sum hr hgd (qa_cons (q_f 4) qa_nil)) (q_v 5))))
    (qss_cons (qs_expr (q_append 3 (qa_cons (q_f 6) qa_nil)))
    (qss_one (qs_setLc 4 [(("i" : Str), 7), (("row" : Str), 9)] rfl nd (qi_enum (by rfl) T.enumerate (qa_cons (q_f 4) qa_nil)) (blkOk_by (by kernel_rfl)) (qgc_tup rfl (qgsc_cons (qgc_name 7 nd) (qgsc_cons (qgc_name 9 nd) qgsc_nil))) (fun _ _ _ _ _ => qts_nil) (fun _ _ _ _ _ => (q_lc [(("j" : Str), 8), (("x" : Str), 10)] rfl nd (qi_enum (by rfl) T.enumerate (qa_cons (q_f 9) qa_nil)) (blkOk_by (by kernel_rfl)) (qgc_tup rfl (qgsc_cons (qgc_name 8 nd) (qgsc_cons (qgc_name 10 nd) qgsc_nil))) (fun _ _ _ _ _ => qts_nil) (fun _ _ _ _ _ => (q_op og_add (q_v 10) (q_op og_mul (q_v 6) (q_ct cg_int (by rfl) T.int PyProof.Rows.boot_int (qa_cons (q_cmp (og_eq hr) (q_v 7) (q_v 8)) qa_nil))))))) (sw_true rfl rfl rfl (by kernel_rfl))))))))
    (qss_one (qs_ret (q_ct cg_tuple (by rfl) T.tuple PyProof.Rows.boot_tuple (qa_cons (q_rev (q_v 3)) qa_nil)))))))

abbrev s_shifted_poly : Stmt := topS 6
theorem sc_shifted_poly : FnScope ["poly", "t", "u", "w", "found", "degree", "k", "late", "i", "x", "power", "lap"] ["poly", "t"] (defScope s_shifted_poly) := ⟨rfl, rfl, rfl, by decide +kernel, rfl, by decide +kernel, by decide +kernel⟩
def p_shifted_poly_1 : PTS := (pAsg (pVarF 1) (pgT 2 (pgCons (pgN 2) (pgCons (pgN 3) pgNil))))
def p_shifted_poly_2 : PTS := (pAsgT 2 (pCons (pLst (pCons (pC (.int 0)) pNil)) (pCons (pOp subG (pCB lenG (pCons (pVar 0) pNil)) (pC (.int 1))) pNil)) (pgCons (pgN 4) (pgCons (pgN 5) pgNil)))
def p_shifted_poly_4 : PTS := (pSet 7 (pOp addG (pLst (pCons (pC (.int 0)) pNil)) (pLc (pIter (pVarF 4)) (pgN 9) pYes (pOp mulG (pVar 3) (pVar 9)) [9])))
def p_shifted_poly_6 : PTS := (pAsg (pOp addG (pOp idxG (pVar 7) (pVar 8)) (pOp mulG (pVar 2) (pVar 9))) (pgSub 7 (pVar 8)))
def p_shifted_poly_5 : PTS := (pFor (pEnum (pCons (pVarF 4) pNil)) (pgT 2 (pgCons (pgN 8) (pgCons (pgN 9) pgNil))) p_shifted_poly_6)
def p_shifted_poly_7 : PTS := (pSet 10 (pC (.int 1)))
def p_shifted_poly_9 : PTS := (pSet 10 (pOp mulG (pVar 10) (pVar 3)))
def p_shifted_poly_8 : PTS := (pFor (pRange1 (pCons (pOp subG (pVar 5) (pVar 6)) pNil)) (pgN 11) p_shifted_poly_9)
def p_shifted_poly_10 : PTS := (pAsg (pOp addG (pOp idxG (pVar 7) (pC (.int 0))) (pOp mulG (pOp idxG (pVar 0) (pVar 6)) (pVar 10))) (pgSub 7 (pC (.int 0))))
def p_shifted_poly_11 : PTS := (pSet 4 (pIf (pB (pOp gtG (pCB lenG (pCons (pVar 7) pNil)) (pOp addG (pVar 5) (pC (.int 1))))) (pSl (pVar 7) pNoPart (pPart (pOp addG (pVar 5) (pC (.int 1))))) (pVarF 7)))
def p_shifted_poly_3 : PTS := (pFor (pRangeD (pCons (pVar 5) (pCons (pUn negG (pC (.int 1))) (pCons (pUn negG (pC (.int 1))) pNil)))) (pgN 6) (pSeq p_shifted_poly_4
    (pSeq p_shifted_poly_5
    (pSeq p_shifted_poly_7
    (pSeq p_shifted_poly_8
    (pSeq p_shifted_poly_10
    p_shifted_poly_11))))))
def p_shifted_poly_12 : PTS := (pRet (pCB tupleG (pCons (pSl (pVar 4) pNoPart (pPart (pOp addG (pVar 5) (pC (.int 1))))) pNil)))
def p_shifted_poly : PTS :=
  (pSeq p_shifted_poly_1
    (pSeq p_shifted_poly_2
    (pSeq p_shifted_poly_3
    p_shifted_poly_12)))
theorem w_shifted_poly {f : Addr} (T : BI mg) (cdv : Value) (A : Around) (outer : List Env) (s : Shared) (H : Hp) (hr : Room 0 (A.deeper (envOfC "shifted_poly" (defScope s_shifted_poly) s.heap.objs.size f cdv))) (hgd0 : A.guards = some []) : QSs (cxOf CX0 P w K mg base ["poly", "t", "u", "w", "found", "degree", "k", "late", "i", "x", "power", "lap"] "shifted_poly" (defScope s_shifted_poly) f cdv A outer s H E0).nox (defBody s_shifted_poly) p_shifted_poly := by
  have nd := sc_shifted_poly.nd
  have hgd : (A.deeper (envOfC "shifted_poly" (defScope s_shifted_poly) s.heap.objs.size f cdv)).guards = some [] := hgd0
  exact (qss_cons (qs_asg (q_f 1) (qg_tup rfl (qgs_cons (qg_name 2 nd) (qgs_cons (qg_name 3 nd) qgs_nil))))
    (qss_cons (qs_par 4 5 rfl nd (qa_cons (q_lst (qa_cons q_int qa_nil)) (qa_cons (q_op og_sub (q_cb cg_len (by rfl) T.len PySem.boot_len (qa_cons (q_v 0) qa_nil)) q_int) qa_nil)))
    (qss_cons (qs_for PassesOwn.never rfl (qi_rangeD (by rfl) T.range (qa_cons (q_v 5) (qa_cons (q_un ug_neg q_int) (qa_cons (q_un ug_neg q_int) qa_nil)))) (qg_name 6 nd) (qss_cons (qs_set 7 nd (q_op og_add (q_lst (qa_cons q_int qa_nil)) (q_lc [(("x" : Str), 9)] rfl nd (qi_any (q_f 4)) (blkOk_by (by kernel_rfl)) (qgc_name 9 nd) (fun _ _ _ _ _ => qts_nil) (fun _ _ _ _ _ => (q_op og_mul (q_v 3) (q_v 9))))))
    (qss_cons (qs_for PassesOwn.never rfl (qi_enum (by rfl) T.enumerate (qa_cons (q_f 4) qa_nil)) (qg_tup rfl (qgs_cons (qg_name 8 nd) (qgs_cons (qg_name 9 nd) qgs_nil))) (qss_one (qs_asg (q_op og_add (q_ix ig_idx (q_v 7) (q_v 8)) (q_op og_mul (q_v 2) (q_v 9))) (qg_sub 7 (q_v 8)))))
    (qss_cons (qs_set 10 nd q_int)
    (qss_cons (qs_for PassesOwn.never rfl (qi_range1 (by rfl) T.range (qa_cons (q_op og_sub (q_v 5) (q_v 6)) qa_nil)) (qg_name 11 nd) (qss_one (qs_set 10 nd (q_op og_mul (q_v 10) (q_v 3)))))
    (qss_cons (qs_asg (q_op og_add (q_ix ig_idx (q_v 7) q_int) (q_op og_mul (q_ix ig_idx (q_v 0) (q_v 6)) (q_v 10))) (qg_sub 7 q_int))
    (qss_one (qs_set 4 nd (q_if (qt_cmp og_gt (q_cb cg_len (by rfl) T.len PySem.boot_len (qa_cons (q_v 7) qa_nil)) (q_op og_add (q_v 5) q_int)) (q_slice (q_v 7) qo_none (qo_some (q_op og_add (q_v 5) q_int))) (q_f 7))))))))))
    (qss_one (qs_ret (q_ct cg_tuple (by rfl) T.tuple PyProof.Rows.boot_tuple (qa_cons (q_slice (q_v 4) qo_none (qo_some (q_op og_add (q_v 5) q_int))) qa_nil)))))))

abbrev s_sign_changes : Stmt := topS 7
theorem sc_sign_changes : FnScope ["row", "signs", "x", "k"] ["row"] (defScope s_sign_changes) := ⟨rfl, rfl, rfl, by decide +kernel, rfl, by decide +kernel, by decide +kernel⟩
def p_sign_changes_1 : PTS := (pSet 1 (pLc (pIter (pVarF 0)) (pgN 2) (pB (pOp neG (pVar 2) (pC (.int 0)))) (pOp gtG (pVar 2) (pC (.int 0))) [2]))
def p_sign_changes_2 : PTS := (pRet (pCB lenG (pCons (pLc (pRange2 (pCons (pC (.int 1)) (pCons (pCB lenG (pCons (pVar 1) pNil)) pNil))) (pgN 3) (pB (pOp neG (pOp idxG (pVar 1) (pVar 3)) (pOp idxG (pVar 1) (pOp subG (pVar 3) (pC (.int 1)))))) (pVarF 3) [3]) pNil)))
def p_sign_changes : PTS :=
  (pSeq p_sign_changes_1
    p_sign_changes_2)
theorem w_sign_changes {f : Addr} (T : BI mg) (cdv : Value) (A : Around) (outer : List Env) (s : Shared) (H : Hp) (hr : Room 0 (A.deeper (envOfC "sign_changes" (defScope s_sign_changes) s.heap.objs.size f cdv))) (hgd0 : A.guards = some []) : QSs (cxOf CX0 P w K mg base ["row", "signs", "x", "k"] "sign_changes" (defScope s_sign_changes) f cdv A outer s H E0).nox (defBody s_sign_changes) p_sign_changes := by
  have nd := sc_sign_changes.nd
  have hgd : (A.deeper (envOfC "sign_changes" (defScope s_sign_changes) s.heap.objs.size f cdv)).guards = some [] := hgd0
  exact (qss_cons (qs_set 1 nd (q_lc [(("x" : Str), 2)] rfl nd (qi_any (q_f 0)) (blkOk_by (by kernel_rfl)) (qgc_name 2 nd) (fun _ _ _ _ _ => (qts_one (qt_cmp (og_ne hr) (q_v 2) q_int))) (fun _ _ _ _ _ => (q_cmp og_gt (q_v 2) q_int))))
    (qss_one (qs_ret (q_cb cg_len (by rfl) T.len PySem.boot_len (qa_cons (q_lc [(("k" : Str), 3)] rfl nd (qi_range2 (by rfl) T.range (qa_cons q_int (qa_cons (q_cb cg_len (by rfl) T.len PySem.boot_len (qa_cons (q_v 1) qa_nil)) qa_nil))) (blkOk_by (by kernel_rfl)) (qgc_name 3 nd) (fun _ _ _ _ _ => (qts_one (qt_cmp (og_ne hr) (q_ix ig_idx (q_v 1) (q_v 3)) (q_ix ig_idx (q_v 1) (q_op og_sub (q_v 3) q_int))))) (fun _ _ _ _ _ => (q_f 3))) qa_nil)))))

abbrev s_roots_above : Stmt := topS 8
theorem sc_roots_above : FnScope ["poly", "t"] ["poly", "t"] (defScope s_roots_above) := ⟨rfl, rfl, rfl, by decide +kernel, rfl, by decide +kernel, by decide +kernel⟩
def p_roots_above_1 : PTS := (pRet (pCall S_sign_changes (pCons (pCall S_shifted_poly (pCons (pVarF 0) (pCons (pVarF 1) pNil))) pNil)))
def p_roots_above : PTS :=
  p_roots_above_1
theorem w_roots_above {f : Addr} (T : BI mg) (F_shifted_poly : FnQ P w K mg base "shifted_poly" 1 S_shifted_poly) (F_sign_changes : FnQ P w K mg base "sign_changes" 1 S_sign_changes) (cdv : Value) (A : Around) (outer : List Env) (s : Shared) (H : Hp) (hr : Room 1 (A.deeper (envOfC "roots_above" (defScope s_roots_above) s.heap.objs.size f cdv))) (hgd0 : A.guards = some []) : QSs (cxOf CX0 P w K mg base ["poly", "t"] "roots_above" (defScope s_roots_above) f cdv A outer s H E0).nox (defBody s_roots_above) p_roots_above := by
  have nd := sc_roots_above.nd
  have hgd : (A.deeper (envOfC "roots_above" (defScope s_roots_above) s.heap.objs.size f cdv)).guards = some [] := hgd0
  exact (qss_one (qs_ret (q_call F_sign_changes hr hgd (qa_cons (q_call F_shifted_poly hr hgd (qa_cons (q_f 0) (qa_cons (q_f 1) qa_nil))) qa_nil))))

abbrev s_roots_at : Stmt := topS 9
theorem sc_roots_at : FnScope ["poly", "t", "row", "k", "x"] ["poly", "t"] (defScope s_roots_at) := ⟨rfl, rfl, rfl, by decide +kernel, rfl, by decide +kernel, by decide +kernel⟩
def p_roots_at_1 : PTS := (pSet 2 (pCall S_shifted_poly (pCons (pVarF 0) (pCons (pVarF 1) pNil))))
def p_roots_at_2 : PTS := (pRet (pOp idxG (pLc (pEnum (pCons (pVarF 2) pNil)) (pgT 2 (pgCons (pgN 3) (pgCons (pgN 4) pgNil))) (pB (pOp neG (pVar 4) (pC (.int 0)))) (pVarF 3) [3, 4]) (pC (.int 0))))
def p_roots_at : PTS :=
  (pSeq p_roots_at_1
    p_roots_at_2)
theorem w_roots_at {f : Addr} (T : BI mg) (F_shifted_poly : FnQ P w K mg base "shifted_poly" 1 S_shifted_poly) (cdv : Value) (A : Around) (outer : List Env) (s : Shared) (H : Hp) (hr : Room 1 (A.deeper (envOfC "roots_at" (defScope s_roots_at) s.heap.objs.size f cdv))) (hgd0 : A.guards = some []) : QSs (cxOf CX0 P w K mg base ["poly", "t", "row", "k", "x"] "roots_at" (defScope s_roots_at) f cdv A outer s H E0).nox (defBody s_roots_at) p_roots_at := by
  have nd := sc_roots_at.nd
  have hgd : (A.deeper (envOfC "roots_at" (defScope s_roots_at) s.heap.objs.size f cdv)).guards = some [] := hgd0
  exact (qss_cons (qs_set 2 nd (q_call F_shifted_poly hr hgd (qa_cons (q_f 0) (qa_cons (q_f 1) qa_nil))))
    (qss_one (qs_ret (q_ix ig_idx (q_lc [(("k" : Str), 3), (("x" : Str), 4)] rfl nd (qi_enum (by rfl) T.enumerate (qa_cons (q_f 2) qa_nil)) (blkOk_by (by kernel_rfl)) (qgc_tup rfl (qgsc_cons (qgc_name 3 nd) (qgsc_cons (qgc_name 4 nd) qgsc_nil))) (fun _ _ _ _ _ => (qts_one (qt_cmp (og_ne hr) (q_v 4) q_int))) (fun _ _ _ _ _ => (q_f 3))) q_int))))

abbrev s_root_paper : Stmt := topS 11
theorem sc_root_paper : FnScope ["web", "t", "poly", "here"] ["web", "t"] (defScope s_root_paper) := ⟨rfl, rfl, rfl, by decide +kernel, rfl, by decide +kernel, by decide +kernel⟩
def p_root_paper_1 : PTS := (pSet 2 (pCall S_web_polynomial (pCons (pVarF 0) pNil)))
def p_root_paper_2 : PTS := (pSet 3 (pCall S_roots_at (pCons (pVarF 2) (pCons (pVarF 1) pNil))))
def p_root_paper_3 : PTS := (pRet (pIf (pB (pOp eqG (pVar 3) (pC (.int 0)))) (pTup (pCons (pC (.str (Str.ofString "above"))) (pCons (pCall S_roots_above (pCons (pVarF 2) (pCons (pVarF 1) pNil))) pNil))) (pTup (pCons (pC (.str (Str.ofString "at"))) (pCons (pCall S_roots_above (pCons (pVarF 2) (pCons (pVarF 1) pNil))) (pCons (pVarF 3) pNil))))))
def p_root_paper : PTS :=
  (pSeq p_root_paper_1
    (pSeq p_root_paper_2
    p_root_paper_3))
theorem w_root_paper {f : Addr} (T : BI mg) (F_web_polynomial : FnQ P w K mg base "web_polynomial" 2 S_web_polynomial) (F_roots_at : FnQ P w K mg base "roots_at" 2 S_roots_at) (F_roots_above : FnQ P w K mg base "roots_above" 2 S_roots_above) (cdv : Value) (A : Around) (outer : List Env) (s : Shared) (H : Hp) (hr : Room 2 (A.deeper (envOfC "root_paper" (defScope s_root_paper) s.heap.objs.size f cdv))) (hgd0 : A.guards = some []) : QSs (cxOf CX0 P w K mg base ["web", "t", "poly", "here"] "root_paper" (defScope s_root_paper) f cdv A outer s H E0).nox (defBody s_root_paper) p_root_paper := by
  have nd := sc_root_paper.nd
  have hgd : (A.deeper (envOfC "root_paper" (defScope s_root_paper) s.heap.objs.size f cdv)).guards = some [] := hgd0
  exact (qss_cons (qs_set 2 nd (q_call F_web_polynomial hr hgd (qa_cons (q_f 0) qa_nil)))
    (qss_cons (qs_set 3 nd (q_call F_roots_at hr hgd (qa_cons (q_f 2) (qa_cons (q_f 1) qa_nil))))
    (qss_one (qs_ret (q_if (qt_cmp (og_eq hr) (q_v 3) q_int) (q_tup (qa_cons q_str (qa_cons (q_call F_roots_above hr hgd (qa_cons (q_f 2) (qa_cons (q_f 1) qa_nil))) qa_nil))) (q_tup (qa_cons q_str (qa_cons (q_call F_roots_above hr hgd (qa_cons (q_f 2) (qa_cons (q_f 1) qa_nil))) (qa_cons (q_f 3) qa_nil)))))))))

abbrev s_is_count_from : Stmt := topS 12
theorem sc_is_count_from : FnScope ["value", "least"] ["value", "least"] (defScope s_is_count_from) := ⟨rfl, rfl, rfl, by decide +kernel, rfl, by decide +kernel, by decide +kernel⟩
def p_is_count_from_1 : PTS := (pRet (pAndV (pIsI "int" (pVar 0)) (pAndV (pNotV (pIsI "bool" (pVar 0))) (pOp geG (pVar 0) (pVar 1)))))
def p_is_count_from : PTS :=
  p_is_count_from_1
theorem w_is_count_from {f : Addr} (T : BI mg) (cdv : Value) (A : Around) (outer : List Env) (s : Shared) (H : Hp) (hr : Room 0 (A.deeper (envOfC "is_count_from" (defScope s_is_count_from) s.heap.objs.size f cdv))) (hgd0 : A.guards = some []) : QSs (cxOf CX0 P w K mg base ["value", "least"] "is_count_from" (defScope s_is_count_from) f cdv A outer s H E0).nox (defBody s_is_count_from) p_is_count_from := by
  have nd := sc_is_count_from.nd
  have hgd : (A.deeper (envOfC "is_count_from" (defScope s_is_count_from) s.heap.objs.size f cdv)).guards = some [] := hgd0
  exact (qss_one (qs_ret (q_and (q_isi kit_int (by rfl) T.isinstance (by rfl) T.int PyProof.Rows.boot_int (q_v 0)) (q_and (q_not (q_isi kit_bool (by rfl) T.isinstance (by rfl) T.bool PyProof.Rows.boot_bool (q_v 0))) (q_one (q_cmp og_ge (q_v 0) (q_v 1)))))))

abbrev s_judge_roots : Stmt := topS 13
theorem sc_judge_roots : FnScope ["web", "t", "value", "told"] ["web", "t", "value"] (defScope s_judge_roots) := ⟨rfl, rfl, rfl, by decide +kernel, rfl, by decide +kernel, by decide +kernel⟩
def p_judge_roots_2 : PTS := (pRet (pTup (pCons (pC (.str (Str.ofString "form"))) pNil)))
def p_judge_roots_1 : PTS := (pIfS (pOrT (pNotT (pB (pIsI "tuple" (pVar 2)))) (pOrT (pB (pOp eqG (pVar 2) (pTup pNil))) (pNotT (pB (pIsI "str" (pOp idxG (pVar 2) (pC (.int 0)))))))) p_judge_roots_2 pNext)
def p_judge_roots_5 : PTS := (pRet (pTup (pCons (pC (.str (Str.ofString "form"))) pNil)))
def p_judge_roots_4 : PTS := (pIfS (pOrT (pB (pOp neG (pCB lenG (pCons (pVar 2) pNil)) (pC (.int 2)))) (pNotT (pB (pCall S_is_count_from (pCons (pOp idxG (pVar 2) (pC (.int 1))) (pCons (pC (.int 0)) pNil)))))) p_judge_roots_5 pNext)
def p_judge_roots_7 : PTS := (pRet (pTup (pCons (pC (.str (Str.ofString "form"))) pNil)))
def p_judge_roots_6 : PTS := (pIfS (pOrT (pB (pOp neG (pOp idxG (pVar 2) (pC (.int 0))) (pC (.str (Str.ofString "at"))))) (pOrT (pB (pOp neG (pCB lenG (pCons (pVar 2) pNil)) (pC (.int 3)))) (pOrT (pNotT (pB (pCall S_is_count_from (pCons (pOp idxG (pVar 2) (pC (.int 1))) (pCons (pC (.int 0)) pNil))))) (pNotT (pB (pCall S_is_count_from (pCons (pOp idxG (pVar 2) (pC (.int 2))) (pCons (pC (.int 1)) pNil)))))))) p_judge_roots_7 pNext)
def p_judge_roots_3 : PTS := (pIfS (pB (pOp eqG (pOp idxG (pVar 2) (pC (.int 0))) (pC (.str (Str.ofString "above"))))) p_judge_roots_4 p_judge_roots_6)
def p_judge_roots_8 : PTS := (pSet 3 (pCall S_root_paper (pCons (pVarF 0) (pCons (pVarF 1) pNil))))
def p_judge_roots_10 : PTS := (pRet (pTup (pCons (pC (.str (Str.ofString "many"))) (pCons (pOp idxG (pVar 3) (pC (.int 1))) pNil))))
def p_judge_roots_9 : PTS := (pIfS (pB (pOp neG (pOp idxG (pVar 2) (pC (.int 1))) (pOp idxG (pVar 3) (pC (.int 1))))) p_judge_roots_10 pNext)
def p_judge_roots_11 : PTS := (pRet (pIf (pB (pOp eqG (pVar 2) (pVar 3))) (pC .none) (pTup (pCons (pC (.str (Str.ofString "here"))) (pCons (pIf (pB (pOp eqG (pCB lenG (pCons (pVar 3) pNil)) (pC (.int 3)))) (pOp idxG (pVar 3) (pC (.int 2))) (pC (.int 0))) pNil)))))
def p_judge_roots : PTS :=
  (pSeq p_judge_roots_1
    (pSeq p_judge_roots_3
    (pSeq p_judge_roots_8
    (pSeq p_judge_roots_9
    p_judge_roots_11))))
theorem w_judge_roots {f : Addr} (T : BI mg) (F_is_count_from : FnQ P w K mg base "is_count_from" 1 S_is_count_from) (F_root_paper : FnQ P w K mg base "root_paper" 3 S_root_paper) (cdv : Value) (A : Around) (outer : List Env) (s : Shared) (H : Hp) (hr : Room 3 (A.deeper (envOfC "judge_roots" (defScope s_judge_roots) s.heap.objs.size f cdv))) (hgd0 : A.guards = some []) : QSs (cxOf CX0 P w K mg base ["web", "t", "value", "told"] "judge_roots" (defScope s_judge_roots) f cdv A outer s H E0).nox (defBody s_judge_roots) p_judge_roots := by
  have nd := sc_judge_roots.nd
  have hgd : (A.deeper (envOfC "judge_roots" (defScope s_judge_roots) s.heap.objs.size f cdv)).guards = some [] := hgd0
  exact (qss_cons (qs_if (QW.qt (qw_or (qt_not (qt_val (q_isi kit_tuple (by rfl) T.isinstance (by rfl) T.tuple PyProof.Rows.boot_tuple (q_v 2)))) (qw_or (qt_cmp (og_eq hr) (q_v 2) (q_tup qa_nil)) (qw_or1 (qt_not (qt_val (q_isi kit_str (by rfl) T.isinstance (by rfl) T.str PyProof.Rows.boot_str (q_ix ig_idx (q_v 2) q_int)))))))) (qss_one (qs_ret (q_tup (qa_cons q_str qa_nil)))) qss_nil)
    (qss_cons (qs_if (qt_cmp (og_eq hr) (q_ix ig_idx (q_v 2) q_int) q_str) (qss_one (qs_if (QW.qt (qw_or (qt_cmp (og_ne hr) (q_cb cg_len (by rfl) T.len PySem.boot_len (qa_cons (q_v 2) qa_nil)) q_int) (qw_or1 (qt_not (qt_val (q_call F_is_count_from hr hgd (qa_cons (q_ix ig_idx (q_v 2) q_int) (qa_cons q_int qa_nil)))))))) (qss_one (qs_ret (q_tup (qa_cons q_str qa_nil)))) qss_nil)) (qss_one (qs_if (QW.qt (qw_or (qt_cmp (og_ne hr) (q_ix ig_idx (q_v 2) q_int) q_str) (qw_or (qt_cmp (og_ne hr) (q_cb cg_len (by rfl) T.len PySem.boot_len (qa_cons (q_v 2) qa_nil)) q_int) (qw_or (qt_not (qt_val (q_call F_is_count_from hr hgd (qa_cons (q_ix ig_idx (q_v 2) q_int) (qa_cons q_int qa_nil))))) (qw_or1 (qt_not (qt_val (q_call F_is_count_from hr hgd (qa_cons (q_ix ig_idx (q_v 2) q_int) (qa_cons q_int qa_nil)))))))))) (qss_one (qs_ret (q_tup (qa_cons q_str qa_nil)))) qss_nil)))
    (qss_cons (qs_set 3 nd (q_call F_root_paper hr hgd (qa_cons (q_f 0) (qa_cons (q_f 1) qa_nil))))
    (qss_cons (qs_if (qt_cmp (og_ne hr) (q_ix ig_idx (q_v 2) q_int) (q_ix ig_idx (q_v 3) q_int)) (qss_one (qs_ret (q_tup (qa_cons q_str (qa_cons (q_ix ig_idx (q_v 3) q_int) qa_nil))))) qss_nil)
    (qss_one (qs_ret (q_if (qt_cmp (og_eq hr) (q_v 2) (q_v 3)) q_non (q_tup (qa_cons q_str (qa_cons (q_if (qt_cmp (og_eq hr) (q_cb cg_len (by rfl) T.len PySem.boot_len (qa_cons (q_v 3) qa_nil)) q_int) (q_ix ig_idx (q_v 3) q_int) q_int) qa_nil))))))))))

abbrev s__law_open_cells : Stmt := topS 15
theorem sc__law_open_cells : FnScope ["script", "stirred", "cell", "cells"] ["script"] (defScope s__law_open_cells) := ⟨rfl, rfl, rfl, by decide +kernel, rfl, by decide +kernel, by decide +kernel⟩
theorem w__law_open_cells {f : Addr} (T : BI mg) (cdv : Value) (A : Around) (outer : List Env) (s : Shared) (H : Hp) (hr : Room 0 (A.deeper (envOfC "_law_open_cells" (defScope s__law_open_cells) s.heap.objs.size f cdv))) : PSs (cxOf CX0 P w K mg base ["script", "stirred", "cell", "cells"] "_law_open_cells" (defScope s__law_open_cells) f cdv A outer s H E0).nox (defBody s__law_open_cells) (tOpen K) := by
  have nd := sc__law_open_cells.nd
  have hu : (A.deeper (envOfC "_law_open_cells" (defScope s__law_open_cells) s.heap.objs.size f cdv)).units + 1 < cLine := hu_of hr
  exact pss_cons (ps_set (i := 1) nd rfl (.inl rfl) pe_int)
    (pss_cons (ps_for PassesOwn.never rfl (pi_list (pv 0)) (pg_name (i := 2) nd rfl (.inl rfl)) (pss_one (ps_set (i := 1) nd rfl (.inl rfl)
      (pe_op op_mod (pe_callTy call_int1 (by rfl) T.int PyProof.Rows.boot_int (pa_cons (pe_op op_add (pe_op op_add (pe_op op_mul (pv 1) pe_int) (pe_op op_mul (pv 2) pe_int)) pe_int) pa_nil)) pe_int))))
    (pss_cons (ps_setLc (i := 3) (own := [(("cell" : Str), 2)]) (g := gName 2) (tt := tYes) rfl nd rfl rfl (sw_true rfl rfl rfl (by kernel_rfl)) (pi_list (pv 0)) (blkOk_by (by kernel_rfl)) (fun s' H' C cl fp => pg_name (X := Cx.blk _ s' H' _ (compEnvC _ cl C _) fp) (i := 2) nd rfl (Or.inl rfl)) (fun _ _ _ _ _ => pts_nil)
      (fun _ _ _ _ _ => pe_callB call_abs (by rfl) T.abs PyProof.Rows.boot_abs (pa_cons (pv 2) pa_nil)))
    (pss_one (ps_ret (pe_disp (pps_cons pe_str (pe_revL (pv 3)) (pps_cons pe_str pe_int (pps_cons pe_str (pv 1) (pps_cons pe_str pe_int pps_nil)))) (by rfl) (by rfl) (fun z => by cases z) (by decide))))))

abbrev s__law_pick : Stmt := topS 16
theorem sc__law_pick : FnScope ["source", "most", "cells", "others", "lap", "stirred"] ["source", "most"] (defScope s__law_pick) := ⟨rfl, rfl, rfl, by decide +kernel, rfl, by decide +kernel, by decide +kernel⟩
theorem w__law_pick {f : Addr} (T : BI mg) (cdv : Value) (A : Around) (outer : List Env) (s : Shared) (H : Hp) (hr : Room 0 (A.deeper (envOfC "_law_pick" (defScope s__law_pick) s.heap.objs.size f cdv))) : PSs (cxOf CX0 P w K mg base ["source", "most", "cells", "others", "lap", "stirred"] "_law_pick" (defScope s__law_pick) f cdv A outer s H E0).nox (defBody s__law_pick) (tPick K) := by
  have nd := sc__law_pick.nd
  have hu : (A.deeper (envOfC "_law_pick" (defScope s__law_pick) s.heap.objs.size f cdv)).units + 1 < cLine := hu_of hr
  exact pss_cons (ps_if (pt_cmp (pc_lt (pv 1) pe_int)) (pss_one (ps_ret pe_int)) pss_nil)
    (pss_cons (ps_set (i := 2) nd rfl (.inl rfl) (pe_dget hu (pv 0) pe_str (fun _ _ => rfl)))
    (pss_cons (ps_while PassesOwn.never (PW.pt (pw_and (pt_cmp (pc_lt (pe_dget hu (pv 0) pe_str (fun _ _ => rfl)) pe_int)) (pw_and1 (pt_cmp (pc_gt (pe_callB call_len (by rfl) T.len PySem.boot_len (pa_cons (pv 2) pa_nil)) pe_int)))))
      (pss_one (ps_dput hu (pv 0) pe_str (pe_bm0 PySem.F.plainAttrs_list PySem.F.slot_list_pop PySem.F.type_list_pop mt_pop (pv 2)) rfl)))
    (pss_cons (ps_set (i := 3) nd rfl (.inl rfl) (pe_dget hu (pv 0) pe_str (fun _ _ => rfl)))
    (pss_cons (ps_if (pt_cmp (pc_gt (pv 3) pe_int)) (pss_cons (ps_dput hu (pv 0) pe_str (pe_op op_fdiv (pv 3) (pv 1)) rfl) (pss_one (ps_ret (pe_op op_mod (pe_callTy call_int1 (by rfl) T.int PyProof.Rows.boot_int (pa_cons (pv 3) pa_nil)) (pv 1))))) pss_nil)
    (pss_cons (ps_dput hu (pv 0) pe_str (pe_op op_add (pe_dget hu (pv 0) pe_str (fun _ _ => rfl)) pe_int) rfl)
    (pss_cons (ps_set (i := 4) nd rfl (.inl rfl) (pe_dget hu (pv 0) pe_str (fun _ _ => rfl)))
    (pss_cons (ps_set (i := 5) nd rfl (.inl rfl) (pe_op op_mod (pe_callTy call_int1 (by rfl) T.int PyProof.Rows.boot_int (pa_cons (pe_op op_add (pe_dget hu (pv 0) pe_str (fun _ _ => rfl)) (pe_op op_mul (pv 4) pe_int)) pa_nil)) pe_int))
    (pss_cons (ps_set (i := 5) nd rfl (.inl rfl) (pe_op op_mod (pe_callTy call_int1 (by rfl) T.int PyProof.Rows.boot_int (pa_cons (pe_op op_add (pe_op op_mul (pv 5) (pv 5)) (pe_op op_mul (pv 4) pe_int)) pa_nil)) pe_int))
    (pss_one (ps_ret (pe_op op_mod (pe_callTy call_int1 (by rfl) T.int PyProof.Rows.boot_int (pa_cons (pe_op op_fdiv (pv 5) pe_int) pa_nil)) (pv 1))))))))))))

abbrev s__law_draw_web : Stmt := topS 17
theorem sc__law_draw_web : FnScope ["source", "most", "n", "road", "ties", "b", "a", "keep"] ["source", "most"] (defScope s__law_draw_web) := ⟨rfl, rfl, rfl, by decide +kernel, rfl, by decide +kernel, by decide +kernel⟩
def p__law_draw_web_1 : PTS := (pAsgT 2 (pCons (pOp addG (pC (.int 1)) (pCall S_pick (pCons (pVarF 0) (pCons (pVarF 1) pNil)))) (pCons (pCall S_pick (pCons (pVarF 0) (pCons (pC (.int 3)) pNil))) pNil)) (pgCons (pgN 2) (pgCons (pgN 3) pgNil)))
def p__law_draw_web_2 : PTS := (pSet 4 (pLst pNil))
def p__law_draw_web_5 : PTS := (pSet 7 (pIf (pB (pOp eqG (pVar 3) (pC (.int 0)))) (pOp eqG (pCall S_pick (pCons (pVarF 0) (pCons (pC (.int 3)) pNil))) (pC (.int 0))) (pOp gtG (pCall S_pick (pCons (pVarF 0) (pCons (pC (.int 3)) pNil))) (pC (.int 0)))))
def p__law_draw_web_7 : PTS := (pSet 7 (pOrV (pOp inG (pOp subG (pVar 5) (pVar 6)) (pTup (pCons (pC (.int 1)) (pCons (pOp subG (pVar 2) (pC (.int 1))) pNil)))) (pOp eqG (pCall S_pick (pCons (pVarF 0) (pCons (pC (.int 5)) pNil))) (pC (.int 0)))))
def p__law_draw_web_6 : PTS := (pIfS (pB (pOp eqG (pVar 3) (pC (.int 2)))) p__law_draw_web_7 pNext)
def p__law_draw_web_8 : PTS := (pSet 4 (pOp addG (pVar 4) (pOp mulG (pLst (pCons (pTup (pCons (pVarF 6) (pCons (pVarF 5) pNil))) pNil)) (pCB intG (pCons (pVar 7) pNil)))))
def p__law_draw_web_4 : PTS := (pFor (pRange1 (pCons (pVar 5) pNil)) (pgN 6) (pSeq p__law_draw_web_5
    (pSeq p__law_draw_web_6
    p__law_draw_web_8)))
def p__law_draw_web_3 : PTS := (pFor (pRange1 (pCons (pVar 2) pNil)) (pgN 5) p__law_draw_web_4)
def p__law_draw_web_9 : PTS := (pRet (pTup (pCons (pVarF 2) (pCons (pCB tupleG (pCons (pCB sortedG (pCons (pVar 4) pNil)) pNil)) pNil))))
def p__law_draw_web : PTS :=
  (pSeq p__law_draw_web_1
    (pSeq p__law_draw_web_2
    (pSeq p__law_draw_web_3
    p__law_draw_web_9)))
theorem w__law_draw_web {f : Addr} (T : BI mg) (F__law_pick : FnQ P w K mg base "_law_pick" 1 S_pick) (cdv : Value) (A : Around) (outer : List Env) (s : Shared) (H : Hp) (hr : Room 1 (A.deeper (envOfC "_law_draw_web" (defScope s__law_draw_web) s.heap.objs.size f cdv))) (hgd0 : A.guards = some []) : QSs (cxOf CX0 P w K mg base ["source", "most", "n", "road", "ties", "b", "a", "keep"] "_law_draw_web" (defScope s__law_draw_web) f cdv A outer s H E0).nox (defBody s__law_draw_web) p__law_draw_web := by
  have nd := sc__law_draw_web.nd
  have hgd : (A.deeper (envOfC "_law_draw_web" (defScope s__law_draw_web) s.heap.objs.size f cdv)).guards = some [] := hgd0
  exact (qss_cons (qs_par 2 3 rfl nd (qa_cons (q_op og_add q_int (q_call F__law_pick hr hgd (qa_cons (q_f 0) (qa_cons (q_f 1) qa_nil)))) (qa_cons (q_call F__law_pick hr hgd (qa_cons (q_f 0) (qa_cons q_int qa_nil))) qa_nil)))
    (qss_cons (qs_set 4 nd (q_lst qa_nil))
    (qss_cons (qs_for PassesOwn.never rfl (qi_range1 (by rfl) T.range (qa_cons (q_v 2) qa_nil)) (qg_name 5 nd) (qss_one (qs_for PassesOwn.never rfl (qi_range1 (by rfl) T.range (qa_cons (q_v 5) qa_nil)) (qg_name 6 nd) (qss_cons (qs_set 7 nd (q_if (qt_cmp (og_eq hr) (q_v 3) q_int) (q_cmp (og_eq hr) (q_call F__law_pick hr hgd (qa_cons (q_f 0) (qa_cons q_int qa_nil))) q_int) (q_cmp og_gt (q_call F__law_pick hr hgd (qa_cons (q_f 0) (qa_cons q_int qa_nil))) q_int)))
    (qss_cons (qs_if (qt_cmp (og_eq hr) (q_v 3) q_int) (qss_one (qs_set 7 nd (q_or (q_cmp (og_in hr) (q_op og_sub (q_v 5) (q_v 6)) (q_tup (qa_cons q_int (qa_cons (q_op og_sub (q_v 2) q_int) qa_nil)))) (q_one (q_cmp (og_eq hr) (q_call F__law_pick hr hgd (qa_cons (q_f 0) (qa_cons q_int qa_nil))) q_int))))) qss_nil)
    (qss_one (qs_set 4 nd (q_op og_add (q_v 4) (q_op og_mul (q_lst (qa_cons (q_tup (qa_cons (q_f 6) (qa_cons (q_f 5) qa_nil))) qa_nil)) (q_ct cg_int (by rfl) T.int PyProof.Rows.boot_int (qa_cons (q_v 7) qa_nil)))))))))))
    (qss_one (qs_ret (q_tup (qa_cons (q_f 2) (qa_cons (q_ct cg_tuple (by rfl) T.tuple PyProof.Rows.boot_tuple (qa_cons (q_cb cg_sorted (by rfl) T.sorted PyProof.Rows.boot_sorted (qa_cons (q_v 4) qa_nil)) qa_nil)) qa_nil))))))))

abbrev s__law_tied : Stmt := topS 18
theorem sc__law_tied : FnScope ["web", "a", "b"] ["web", "a", "b"] (defScope s__law_tied) := ⟨rfl, rfl, rfl, by decide +kernel, rfl, by decide +kernel, by decide +kernel⟩
def p__law_tied_1 : PTS := (pRet (pOp inG (pTup (pCons (pCB min2G (pCons (pVar 1) (pCons (pVar 2) pNil))) (pCons (pCB max2G (pCons (pVar 1) (pCons (pVar 2) pNil))) pNil))) (pOp idxG (pVar 0) (pC (.int 1)))))
def p__law_tied : PTS :=
  p__law_tied_1
theorem w__law_tied {f : Addr} (T : BI mg) (cdv : Value) (A : Around) (outer : List Env) (s : Shared) (H : Hp) (hr : Room 0 (A.deeper (envOfC "_law_tied" (defScope s__law_tied) s.heap.objs.size f cdv))) (hgd0 : A.guards = some []) : QSs (cxOf CX0 P w K mg base ["web", "a", "b"] "_law_tied" (defScope s__law_tied) f cdv A outer s H E0).nox (defBody s__law_tied) p__law_tied := by
  have nd := sc__law_tied.nd
  have hgd : (A.deeper (envOfC "_law_tied" (defScope s__law_tied) s.heap.objs.size f cdv)).guards = some [] := hgd0
  exact (qss_one (qs_ret (q_cmp (og_in hr) (q_tup (qa_cons (q_cb (cg_min2 rfl) (by rfl) T.min PyProof.Rows.boot_min (qa_cons (q_v 1) (qa_cons (q_v 2) qa_nil))) (qa_cons (q_cb (cg_max2 rfl) (by rfl) T.max PyProof.Rows.boot_max (qa_cons (q_v 1) (qa_cons (q_v 2) qa_nil))) qa_nil))) (q_ix ig_idx (q_v 0) q_int))))

abbrev s__law_table : Stmt := topS 19
theorem sc__law_table : FnScope ["web", "a", "b"] ["web"] (defScope s__law_table) := ⟨rfl, rfl, rfl, by decide +kernel, rfl, by decide +kernel, by decide +kernel⟩
def p__law_table_1 : PTS := (pRet (pLc (pRange1 (pCons (pOp idxG (pVar 0) (pC (.int 0))) pNil)) (pgN 1) pYes (pLc (pRange1 (pCons (pOp idxG (pVar 0) (pC (.int 0))) pNil)) (pgN 2) pYes (pCB intG (pCons (pAndV (pOp neG (pVar 1) (pVar 2)) (pCall S__law_tied (pCons (pVarF 0) (pCons (pVarF 1) (pCons (pVarF 2) pNil))))) pNil)) [2]) [1]))
def p__law_table : PTS :=
  p__law_table_1
theorem w__law_table {f : Addr} (T : BI mg) (F__law_tied : FnQ P w K mg base "_law_tied" 1 S__law_tied) (cdv : Value) (A : Around) (outer : List Env) (s : Shared) (H : Hp) (hr : Room 1 (A.deeper (envOfC "_law_table" (defScope s__law_table) s.heap.objs.size f cdv))) (hgd0 : A.guards = some []) : QSs (cxOf CX0 P w K mg base ["web", "a", "b"] "_law_table" (defScope s__law_table) f cdv A outer s H E0).nox (defBody s__law_table) p__law_table := by
  have nd := sc__law_table.nd
  have hgd : (A.deeper (envOfC "_law_table" (defScope s__law_table) s.heap.objs.size f cdv)).guards = some [] := hgd0
  exact (qss_one (qs_ret (q_lc [(("a" : Str), 1)] rfl nd (qi_range1 (by rfl) T.range (qa_cons (q_ix ig_idx (q_v 0) q_int) qa_nil)) (blkOk_by (by kernel_rfl)) (qgc_name 1 nd) (fun _ _ _ _ _ => qts_nil) (fun _ _ _ _ _ => (q_lc [(("b" : Str), 2)] rfl nd (qi_range1 (by rfl) T.range (qa_cons (q_ix ig_idx (q_v 0) q_int) qa_nil)) (blkOk_by (by kernel_rfl)) (qgc_name 2 nd) (fun _ _ _ _ _ => qts_nil) (fun _ _ _ _ _ => (q_ct cg_int (by rfl) T.int PyProof.Rows.boot_int (qa_cons (q_and (q_cmp (og_ne hr) (q_v 1) (q_v 2)) (q_one (q_call F__law_tied hr hgd (qa_cons (q_f 0) (qa_cons (q_f 1) (qa_cons (q_f 2) qa_nil)))))) qa_nil))))))))

abbrev s__law_polynomial : Stmt := topS 20
theorem sc__law_polynomial : FnScope ["web", "n", "table", "walks", "late", "r", "found", "a", "b", "c", "i"] ["web"] (defScope s__law_polynomial) := ⟨rfl, rfl, rfl, by decide +kernel, rfl, by decide +kernel, by decide +kernel⟩
def p__law_polynomial_1 : PTS := (pAsgT 2 (pCons (pOp idxG (pVar 0) (pC (.int 0))) (pCons (pCall S__law_table (pCons (pVarF 0) pNil)) pNil)) (pgCons (pgN 1) (pgCons (pgN 2) pgNil)))
def p__law_polynomial_2 : PTS := (pAsgT 2 (pCons (pLst pNil) (pCons (pLc (pRange1 (pCons (pVar 1) pNil)) (pgN 7) pYes (pLc (pRange1 (pCons (pVar 1) pNil)) (pgN 8) pYes (pCB intG (pCons (pOp eqG (pVar 7) (pVar 8)) pNil)) [8]) [7]) pNil)) (pgCons (pgN 3) (pgCons (pgN 4) pgNil)))
def p__law_polynomial_4 : PTS := (pSet 4 (pLc (pRange1 (pCons (pVar 1) pNil)) (pgN 7) pYes (pLc (pRange1 (pCons (pVar 1) pNil)) (pgN 8) pYes (pCB sumG (pCons (pLc (pRange1 (pCons (pVar 1) pNil)) (pgN 9) pYes (pOp mulG (pOp idxG (pOp idxG (pVar 4) (pVar 7)) (pVar 9)) (pOp idxG (pOp idxG (pVar 2) (pVar 9)) (pVar 8))) [9]) pNil)) [8]) [7]))
def p__law_polynomial_5 : PTS := (pDrop (pAppend 3 (pCons (pCB sumG (pCons (pLc (pRange1 (pCons (pVar 1) pNil)) (pgN 7) pYes (pOp idxG (pOp idxG (pVar 4) (pVar 7)) (pVar 7)) [7]) pNil)) pNil)))
def p__law_polynomial_3 : PTS := (pFor (pRange1 (pCons (pVar 1) pNil)) (pgN 5) (pSeq p__law_polynomial_4
    p__law_polynomial_5))
def p__law_polynomial_6 : PTS := (pSet 6 (pLst (pCons (pC (.int 1)) pNil)))
def p__law_polynomial_8 : PTS := (pDrop (pAppend 6 (pCons (pOp subG (pC (.int 0)) (pOp fdivG (pCB sumG (pCons (pLc (pRange2 (pCons (pC (.int 1)) (pCons (pOp addG (pVar 5) (pC (.int 1))) pNil))) (pgN 10) pYes (pOp mulG (pOp idxG (pVar 3) (pOp subG (pVar 10) (pC (.int 1)))) (pOp idxG (pVar 6) (pOp subG (pVar 5) (pVar 10)))) [10]) pNil)) (pVar 5))) pNil)))
def p__law_polynomial_7 : PTS := (pFor (pRange2 (pCons (pC (.int 1)) (pCons (pOp addG (pVar 1) (pC (.int 1))) pNil))) (pgN 5) p__law_polynomial_8)
def p__law_polynomial_9 : PTS := (pRet (pCB tupleG (pCons (pUn revG (pVar 6)) pNil)))
def p__law_polynomial : PTS :=
  (pSeq p__law_polynomial_1
    (pSeq p__law_polynomial_2
    (pSeq p__law_polynomial_3
    (pSeq p__law_polynomial_6
    (pSeq p__law_polynomial_7
    p__law_polynomial_9)))))
theorem w__law_polynomial {f : Addr} (T : BI mg) (F__law_table : FnQ P w K mg base "_law_table" 2 S__law_table) (cdv : Value) (A : Around) (outer : List Env) (s : Shared) (H : Hp) (hr : Room 2 (A.deeper (envOfC "_law_polynomial" (defScope s__law_polynomial) s.heap.objs.size f cdv))) (hgd0 : A.guards = some []) : QSs (cxOf CX0 P w K mg base ["web", "n", "table", "walks", "late", "r", "found", "a", "b", "c", "i"] "_law_polynomial" (defScope s__law_polynomial) f cdv A outer s H E0).nox (defBody s__law_polynomial) p__law_polynomial := by
  have nd := sc__law_polynomial.nd
  have hgd : (A.deeper (envOfC "_law_polynomial" (defScope s__law_polynomial) s.heap.objs.size f cdv)).guards = some [] := hgd0
  exact (qss_cons (qs_asgT rfl (qa_cons (q_ix ig_idx (q_v 0) q_int) (qa_cons (q_call F__law_table hr hgd (qa_cons (q_f 0) qa_nil)) qa_nil)) (qgs_cons (qg_name 1 nd) (qgs_cons (qg_name 2 nd) qgs_nil)))
    (qss_cons (qs_asgT rfl (qa_cons (q_lst qa_nil) (qa_cons (q_lc [(("a" : Str), 7)] rfl nd (qi_range1 (by rfl) T.range (qa_cons (q_v 1) qa_nil)) (blkOk_by (by kernel_rfl)) (qgc_name 7 nd) (fun _ _ _ _ _ => qts_nil) (fun _ _ _ _ _ => (q_lc [(("b" : Str), 8)] rfl nd (qi_range1 (by rfl) T.range (qa_cons (q_v 1) qa_nil)) (blkOk_by (by kernel_rfl)) (qgc_name 8 nd) (fun _ _ _ _ _ => qts_nil) (fun _ _ _ _ _ => (q_ct cg_int (by rfl) T.int PyProof.Rows.boot_int (qa_cons (q_cmp (og_eq hr) (q_v 7) (q_v 8)) qa_nil)))))) qa_nil)) (qgs_cons (qg_name 3 nd) (qgs_cons (qg_name 4 nd) qgs_nil)))
    (qss_cons (qs_for PassesOwn.never rfl (qi_range1 (by rfl) T.range (qa_cons (q_v 1) qa_nil)) (qg_name 5 nd) (qss_cons (qs_set 4 nd (q_lc [(("a" : Str), 7)] rfl nd (qi_range1 (by rfl) T.range (qa_cons (q_v 1) qa_nil)) (blkOk_by (by kernel_rfl)) (qgc_name 7 nd) (fun _ _ _ _ _ => qts_nil) (fun _ _ _ _ _ => (q_lc [(("b" : Str), 8)] rfl nd (qi_range1 (by rfl) T.range (qa_cons (q_v 1) qa_nil)) (blkOk_by (by kernel_rfl)) (qgc_name 8 nd) (fun _ _ _ _ _ => qts_nil) (fun _ _ _ _ _ => (q_cb (cg_sum rfl) (by rfl) T.sum PyProof.Rows.boot_sum (qa_cons (q_lc [(("c" : Str), 9)] rfl nd (qi_range1 (by rfl) T.range (qa_cons (q_v 1) qa_nil)) (blkOk_by (by kernel_rfl)) (qgc_name 9 nd) (fun _ _ _ _ _ => qts_nil) (fun _ _ _ _ _ => (q_op og_mul (q_ix ig_idx (q_ix ig_idx (q_v 4) (q_v 7)) (q_v 9)) (q_ix ig_idx (q_ix ig_idx (q_v 2) (q_v 9)) (q_v 8))))) qa_nil)))))))
    (qss_one (qs_expr (q_append 3 (qa_cons (q_cb (cg_sum rfl) (by rfl) T.sum PyProof.Rows.boot_sum (qa_cons (q_lc [(("a" : Str), 7)] rfl nd (qi_range1 (by rfl) T.range (qa_cons (q_v 1) qa_nil)) (blkOk_by (by kernel_rfl)) (qgc_name 7 nd) (fun _ _ _ _ _ => qts_nil) (fun _ _ _ _ _ => (q_ix ig_idx (q_ix ig_idx (q_v 4) (q_v 7)) (q_v 7)))) qa_nil)) qa_nil))))))
    (qss_cons (qs_set 6 nd (q_lst (qa_cons q_int qa_nil)))
    (qss_cons (qs_for PassesOwn.never rfl (qi_range2 (by rfl) T.range (qa_cons q_int (qa_cons (q_op og_add (q_v 1) q_int) qa_nil))) (qg_name 5 nd) (qss_one (qs_expr (q_append 6 (qa_cons (q_op og_sub q_int (q_op og_fdiv (q_cb (cg_sum rfl) (by rfl) T.sum PyProof.Rows.boot_sum (qa_cons (q_lc [(("i" : Str), 10)] rfl nd (qi_range2 (by rfl) T.range (qa_cons q_int (qa_cons (q_op og_add (q_v 5) q_int) qa_nil))) (blkOk_by (by kernel_rfl)) (qgc_name 10 nd) (fun _ _ _ _ _ => qts_nil) (fun _ _ _ _ _ => (q_op og_mul (q_ix ig_idx (q_v 3) (q_op og_sub (q_v 10) q_int)) (q_ix ig_idx (q_v 6) (q_op og_sub (q_v 5) (q_v 10)))))) qa_nil)) (q_v 5))) qa_nil)))))
    (qss_one (qs_ret (q_ct cg_tuple (by rfl) T.tuple PyProof.Rows.boot_tuple (qa_cons (q_rev (q_v 6)) qa_nil)))))))))

abbrev s__law_shifted : Stmt := topS 21
theorem sc__law_shifted : FnScope ["poly", "t", "row", "number", "late", "power", "k", "x"] ["poly", "t"] (defScope s__law_shifted) := ⟨rfl, rfl, rfl, by decide +kernel, rfl, by decide +kernel, by decide +kernel⟩
def p__law_shifted_1 : PTS := (pSet 2 (pLst (pCons (pOp idxG (pVar 0) (pUn negG (pC (.int 1)))) pNil)))
def p__law_shifted_3 : PTS := (pAsgT 2 (pCons (pLc (pRange1 (pCons (pOp addG (pCB lenG (pCons (pVar 2) pNil)) (pC (.int 1))) pNil)) (pgN 6) pYes (pC (.int 0)) [6]) (pCons (pC (.int 1)) pNil)) (pgCons (pgN 4) (pgCons (pgN 5) pgNil)))
def p__law_shifted_5 : PTS := (pAsgT 3 (pCons (pOp addG (pOp idxG (pVar 4) (pVar 6)) (pOp mulG (pOp idxG (pVar 1) (pC (.int 0))) (pVar 7))) (pCons (pOp addG (pOp idxG (pVar 4) (pOp addG (pVar 6) (pC (.int 1)))) (pOp mulG (pOp idxG (pVar 1) (pC (.int 1))) (pVar 7))) (pCons (pOp mulG (pVar 5) (pOp idxG (pVar 1) (pC (.int 1)))) pNil))) (pgCons (pgSub 4 (pVar 6)) (pgCons (pgSub 4 (pOp addG (pVar 6) (pC (.int 1)))) (pgCons (pgN 5) pgNil))))
def p__law_shifted_4 : PTS := (pFor (pEnum (pCons (pVarF 2) pNil)) (pgT 2 (pgCons (pgN 6) (pgCons (pgN 7) pgNil))) p__law_shifted_5)
def p__law_shifted_6 : PTS := (pAsg (pOp addG (pOp idxG (pVar 4) (pC (.int 0))) (pOp mulG (pVar 3) (pVar 5))) (pgSub 4 (pC (.int 0))))
def p__law_shifted_7 : PTS := (pSet 2 (pVarF 4))
def p__law_shifted_2 : PTS := (pFor (pIter (pUn revG (pSl (pVar 0) pNoPart (pPart (pUn negG (pC (.int 1))))))) (pgN 3) (pSeq p__law_shifted_3
    (pSeq p__law_shifted_4
    (pSeq p__law_shifted_6
    p__law_shifted_7))))
def p__law_shifted_8 : PTS := (pRet (pVarF 2))
def p__law_shifted : PTS :=
  (pSeq p__law_shifted_1
    (pSeq p__law_shifted_2
    p__law_shifted_8))
theorem w__law_shifted {f : Addr} (T : BI mg) (cdv : Value) (A : Around) (outer : List Env) (s : Shared) (H : Hp) (hr : Room 0 (A.deeper (envOfC "_law_shifted" (defScope s__law_shifted) s.heap.objs.size f cdv))) (hgd0 : A.guards = some []) : QSs (cxOf CX0 P w K mg base ["poly", "t", "row", "number", "late", "power", "k", "x"] "_law_shifted" (defScope s__law_shifted) f cdv A outer s H E0).nox (defBody s__law_shifted) p__law_shifted := by
  have nd := sc__law_shifted.nd
  have hgd : (A.deeper (envOfC "_law_shifted" (defScope s__law_shifted) s.heap.objs.size f cdv)).guards = some [] := hgd0
  exact (qss_cons (qs_set 2 nd (q_lst (qa_cons (q_ix ig_idx (q_v 0) (q_un ug_neg q_int)) qa_nil)))
    (qss_cons (qs_for PassesOwn.never rfl (qi_any (q_rev (q_slice (q_v 0) qo_none (qo_some (q_un ug_neg q_int))))) (qg_name 3 nd) (qss_cons (qs_par 4 5 rfl nd (qa_cons (q_lc [(("k" : Str), 6)] rfl nd (qi_range1 (by rfl) T.range (qa_cons (q_op og_add (q_cb cg_len (by rfl) T.len PySem.boot_len (qa_cons (q_v 2) qa_nil)) q_int) qa_nil)) (blkOk_by (by kernel_rfl)) (qgc_name 6 nd) (fun _ _ _ _ _ => qts_nil) (fun _ _ _ _ _ => q_int)) (qa_cons q_int qa_nil)))
    (qss_cons (qs_for PassesOwn.never rfl (qi_enum (by rfl) T.enumerate (qa_cons (q_f 2) qa_nil)) (qg_tup rfl (qgs_cons (qg_name 6 nd) (qgs_cons (qg_name 7 nd) qgs_nil))) (qss_one (qs_asgT rfl (qa_cons (q_op og_add (q_ix ig_idx (q_v 4) (q_v 6)) (q_op og_mul (q_ix ig_idx (q_v 1) q_int) (q_v 7))) (qa_cons (q_op og_add (q_ix ig_idx (q_v 4) (q_op og_add (q_v 6) q_int)) (q_op og_mul (q_ix ig_idx (q_v 1) q_int) (q_v 7))) (qa_cons (q_op og_mul (q_v 5) (q_ix ig_idx (q_v 1) q_int)) qa_nil))) (qgs_cons (qg_sub 4 (q_v 6)) (qgs_cons (qg_sub 4 (q_op og_add (q_v 6) q_int)) (qgs_cons (qg_name 5 nd) qgs_nil))))))
    (qss_cons (qs_asg (q_op og_add (q_ix ig_idx (q_v 4) q_int) (q_op og_mul (q_v 3) (q_v 5))) (qg_sub 4 q_int))
    (qss_one (qs_set 2 nd (q_f 4)))))))
    (qss_one (qs_ret (q_f 2)))))

abbrev s__law_above : Stmt := topS 22
theorem sc__law_above : FnScope ["poly", "t", "signs", "x", "k"] ["poly", "t"] (defScope s__law_above) := ⟨rfl, rfl, rfl, by decide +kernel, rfl, by decide +kernel, by decide +kernel⟩
def p__law_above_1 : PTS := (pSet 2 (pLc (pIter (pCall S__law_shifted (pCons (pVarF 0) (pCons (pVarF 1) pNil)))) (pgN 3) (pB (pOp neG (pVar 3) (pC (.int 0)))) (pOp gtG (pVar 3) (pC (.int 0))) [3]))
def p__law_above_2 : PTS := (pRet (pCB lenG (pCons (pLc (pRange2 (pCons (pC (.int 1)) (pCons (pCB lenG (pCons (pVar 2) pNil)) pNil))) (pgN 4) (pB (pOp neG (pOp idxG (pVar 2) (pVar 4)) (pOp idxG (pVar 2) (pOp subG (pVar 4) (pC (.int 1)))))) (pVarF 4) [4]) pNil)))
def p__law_above : PTS :=
  (pSeq p__law_above_1
    p__law_above_2)
theorem w__law_above {f : Addr} (T : BI mg) (F__law_shifted : FnQ P w K mg base "_law_shifted" 1 S__law_shifted) (cdv : Value) (A : Around) (outer : List Env) (s : Shared) (H : Hp) (hr : Room 1 (A.deeper (envOfC "_law_above" (defScope s__law_above) s.heap.objs.size f cdv))) (hgd0 : A.guards = some []) : QSs (cxOf CX0 P w K mg base ["poly", "t", "signs", "x", "k"] "_law_above" (defScope s__law_above) f cdv A outer s H E0).nox (defBody s__law_above) p__law_above := by
  have nd := sc__law_above.nd
  have hgd : (A.deeper (envOfC "_law_above" (defScope s__law_above) s.heap.objs.size f cdv)).guards = some [] := hgd0
  exact (qss_cons (qs_set 2 nd (q_lc [(("x" : Str), 3)] rfl nd (qi_any (q_call F__law_shifted hr hgd (qa_cons (q_f 0) (qa_cons (q_f 1) qa_nil)))) (blkOk_by (by kernel_rfl)) (qgc_name 3 nd) (fun _ _ _ _ _ => (qts_one (qt_cmp (og_ne hr) (q_v 3) q_int))) (fun _ _ _ _ _ => (q_cmp og_gt (q_v 3) q_int))))
    (qss_one (qs_ret (q_cb cg_len (by rfl) T.len PySem.boot_len (qa_cons (q_lc [(("k" : Str), 4)] rfl nd (qi_range2 (by rfl) T.range (qa_cons q_int (qa_cons (q_cb cg_len (by rfl) T.len PySem.boot_len (qa_cons (q_v 2) qa_nil)) qa_nil))) (blkOk_by (by kernel_rfl)) (qgc_name 4 nd) (fun _ _ _ _ _ => (qts_one (qt_cmp (og_ne hr) (q_ix ig_idx (q_v 2) (q_v 4)) (q_ix ig_idx (q_v 2) (q_op og_sub (q_v 4) q_int))))) (fun _ _ _ _ _ => (q_f 4))) qa_nil)))))

abbrev s__law_here : Stmt := topS 23
theorem sc__law_here : FnScope ["poly", "t", "k", "x"] ["poly", "t"] (defScope s__law_here) := ⟨rfl, rfl, rfl, by decide +kernel, rfl, by decide +kernel, by decide +kernel⟩
def p__law_here_1 : PTS := (pRet (pOp idxG (pLc (pEnum (pCons (pCall S__law_shifted (pCons (pVarF 0) (pCons (pVarF 1) pNil))) pNil)) (pgT 2 (pgCons (pgN 2) (pgCons (pgN 3) pgNil))) (pB (pOp neG (pVar 3) (pC (.int 0)))) (pVarF 2) [2, 3]) (pC (.int 0))))
def p__law_here : PTS :=
  p__law_here_1
theorem w__law_here {f : Addr} (T : BI mg) (F__law_shifted : FnQ P w K mg base "_law_shifted" 1 S__law_shifted) (cdv : Value) (A : Around) (outer : List Env) (s : Shared) (H : Hp) (hr : Room 1 (A.deeper (envOfC "_law_here" (defScope s__law_here) s.heap.objs.size f cdv))) (hgd0 : A.guards = some []) : QSs (cxOf CX0 P w K mg base ["poly", "t", "k", "x"] "_law_here" (defScope s__law_here) f cdv A outer s H E0).nox (defBody s__law_here) p__law_here := by
  have nd := sc__law_here.nd
  have hgd : (A.deeper (envOfC "_law_here" (defScope s__law_here) s.heap.objs.size f cdv)).guards = some [] := hgd0
  exact (qss_one (qs_ret (q_ix ig_idx (q_lc [(("k" : Str), 2), (("x" : Str), 3)] rfl nd (qi_enum (by rfl) T.enumerate (qa_cons (q_call F__law_shifted hr hgd (qa_cons (q_f 0) (qa_cons (q_f 1) qa_nil))) qa_nil)) (blkOk_by (by kernel_rfl)) (qgc_tup rfl (qgsc_cons (qgc_name 2 nd) (qgsc_cons (qgc_name 3 nd) qgsc_nil))) (fun _ _ _ _ _ => (qts_one (qt_cmp (og_ne hr) (q_v 3) q_int))) (fun _ _ _ _ _ => (q_f 2))) q_int)))

abbrev s__law_is_from : Stmt := topS 24
theorem sc__law_is_from : FnScope ["value", "least"] ["value", "least"] (defScope s__law_is_from) := ⟨rfl, rfl, rfl, by decide +kernel, rfl, by decide +kernel, by decide +kernel⟩
def p__law_is_from_1 : PTS := (pRet (pAndV (pIsI "int" (pVar 0)) (pAndV (pNotV (pIsI "bool" (pVar 0))) (pOp geG (pVar 0) (pVar 1)))))
def p__law_is_from : PTS :=
  p__law_is_from_1
theorem w__law_is_from {f : Addr} (T : BI mg) (cdv : Value) (A : Around) (outer : List Env) (s : Shared) (H : Hp) (hr : Room 0 (A.deeper (envOfC "_law_is_from" (defScope s__law_is_from) s.heap.objs.size f cdv))) (hgd0 : A.guards = some []) : QSs (cxOf CX0 P w K mg base ["value", "least"] "_law_is_from" (defScope s__law_is_from) f cdv A outer s H E0).nox (defBody s__law_is_from) p__law_is_from := by
  have nd := sc__law_is_from.nd
  have hgd : (A.deeper (envOfC "_law_is_from" (defScope s__law_is_from) s.heap.objs.size f cdv)).guards = some [] := hgd0
  exact (qss_one (qs_ret (q_and (q_isi kit_int (by rfl) T.isinstance (by rfl) T.int PyProof.Rows.boot_int (q_v 0)) (q_and (q_not (q_isi kit_bool (by rfl) T.isinstance (by rfl) T.bool PyProof.Rows.boot_bool (q_v 0))) (q_one (q_cmp og_ge (q_v 0) (q_v 1)))))))

abbrev s__law_fault : Stmt := topS 25
theorem sc__law_fault : FnScope ["told", "value"] ["told", "value"] (defScope s__law_fault) := ⟨rfl, rfl, rfl, by decide +kernel, rfl, by decide +kernel, by decide +kernel⟩
def p__law_fault_2 : PTS := (pRet (pTup (pCons (pC (.str (Str.ofString "form"))) pNil)))
def p__law_fault_1 : PTS := (pIfS (pOrT (pNotT (pB (pIsI "tuple" (pVar 1)))) (pOrT (pB (pOp eqG (pVar 1) (pTup pNil))) (pB (pOp notInG (pOp idxG (pVar 1) (pC (.int 0))) (pTup (pCons (pC (.str (Str.ofString "above"))) (pCons (pC (.str (Str.ofString "at"))) pNil))))))) p__law_fault_2 pNext)
def p__law_fault_4 : PTS := (pRet (pTup (pCons (pC (.str (Str.ofString "form"))) pNil)))
def p__law_fault_3 : PTS := (pIfS (pAndT (pB (pOp eqG (pOp idxG (pVar 1) (pC (.int 0))) (pC (.str (Str.ofString "above"))))) (pOrT (pB (pOp neG (pCB lenG (pCons (pVar 1) pNil)) (pC (.int 2)))) (pNotT (pB (pCall S__law_is_from (pCons (pOp idxG (pVar 1) (pC (.int 1))) (pCons (pC (.int 0)) pNil))))))) p__law_fault_4 pNext)
def p__law_fault_6 : PTS := (pRet (pTup (pCons (pC (.str (Str.ofString "form"))) pNil)))
def p__law_fault_5 : PTS := (pIfS (pAndT (pB (pOp eqG (pOp idxG (pVar 1) (pC (.int 0))) (pC (.str (Str.ofString "at"))))) (pOrT (pB (pOp neG (pCB lenG (pCons (pVar 1) pNil)) (pC (.int 3)))) (pOrT (pNotT (pB (pCall S__law_is_from (pCons (pOp idxG (pVar 1) (pC (.int 1))) (pCons (pC (.int 0)) pNil))))) (pNotT (pB (pCall S__law_is_from (pCons (pOp idxG (pVar 1) (pC (.int 2))) (pCons (pC (.int 1)) pNil)))))))) p__law_fault_6 pNext)
def p__law_fault_8 : PTS := (pRet (pTup (pCons (pC (.str (Str.ofString "many"))) (pCons (pOp idxG (pVar 0) (pC (.int 1))) pNil))))
def p__law_fault_7 : PTS := (pIfS (pB (pOp neG (pOp idxG (pVar 1) (pC (.int 1))) (pOp idxG (pVar 0) (pC (.int 1))))) p__law_fault_8 pNext)
def p__law_fault_9 : PTS := (pRet (pIf (pB (pOp eqG (pVar 1) (pVar 0))) (pC .none) (pTup (pCons (pC (.str (Str.ofString "here"))) (pCons (pIf (pB (pOp eqG (pCB lenG (pCons (pVar 0) pNil)) (pC (.int 3)))) (pOp idxG (pVar 0) (pC (.int 2))) (pC (.int 0))) pNil)))))
def p__law_fault : PTS :=
  (pSeq p__law_fault_1
    (pSeq p__law_fault_3
    (pSeq p__law_fault_5
    (pSeq p__law_fault_7
    p__law_fault_9))))
theorem w__law_fault {f : Addr} (T : BI mg) (F__law_is_from : FnQ P w K mg base "_law_is_from" 1 S__law_is_from) (cdv : Value) (A : Around) (outer : List Env) (s : Shared) (H : Hp) (hr : Room 1 (A.deeper (envOfC "_law_fault" (defScope s__law_fault) s.heap.objs.size f cdv))) (hgd0 : A.guards = some []) : QSs (cxOf CX0 P w K mg base ["told", "value"] "_law_fault" (defScope s__law_fault) f cdv A outer s H E0).nox (defBody s__law_fault) p__law_fault := by
  have nd := sc__law_fault.nd
  have hgd : (A.deeper (envOfC "_law_fault" (defScope s__law_fault) s.heap.objs.size f cdv)).guards = some [] := hgd0
  exact (qss_cons (qs_if (QW.qt (qw_or (qt_not (qt_val (q_isi kit_tuple (by rfl) T.isinstance (by rfl) T.tuple PyProof.Rows.boot_tuple (q_v 1)))) (qw_or (qt_cmp (og_eq hr) (q_v 1) (q_tup qa_nil)) (qw_or1 (qt_cmp (og_notIn hr) (q_ix ig_idx (q_v 1) q_int) (q_tup (qa_cons q_str (qa_cons q_str qa_nil)))))))) (qss_one (qs_ret (q_tup (qa_cons q_str qa_nil)))) qss_nil)
    (qss_cons (qs_if (QW.qt (qw_and (qt_cmp (og_eq hr) (q_ix ig_idx (q_v 1) q_int) q_str) (qw_and1 (QW.qt (qw_or (qt_cmp (og_ne hr) (q_cb cg_len (by rfl) T.len PySem.boot_len (qa_cons (q_v 1) qa_nil)) q_int) (qw_or1 (qt_not (qt_val (q_call F__law_is_from hr hgd (qa_cons (q_ix ig_idx (q_v 1) q_int) (qa_cons q_int qa_nil))))))))))) (qss_one (qs_ret (q_tup (qa_cons q_str qa_nil)))) qss_nil)
    (qss_cons (qs_if (QW.qt (qw_and (qt_cmp (og_eq hr) (q_ix ig_idx (q_v 1) q_int) q_str) (qw_and1 (QW.qt (qw_or (qt_cmp (og_ne hr) (q_cb cg_len (by rfl) T.len PySem.boot_len (qa_cons (q_v 1) qa_nil)) q_int) (qw_or (qt_not (qt_val (q_call F__law_is_from hr hgd (qa_cons (q_ix ig_idx (q_v 1) q_int) (qa_cons q_int qa_nil))))) (qw_or1 (qt_not (qt_val (q_call F__law_is_from hr hgd (qa_cons (q_ix ig_idx (q_v 1) q_int) (qa_cons q_int qa_nil)))))))))))) (qss_one (qs_ret (q_tup (qa_cons q_str qa_nil)))) qss_nil)
    (qss_cons (qs_if (qt_cmp (og_ne hr) (q_ix ig_idx (q_v 1) q_int) (q_ix ig_idx (q_v 0) q_int)) (qss_one (qs_ret (q_tup (qa_cons q_str (qa_cons (q_ix ig_idx (q_v 0) q_int) qa_nil))))) qss_nil)
    (qss_one (qs_ret (q_if (qt_cmp (og_eq hr) (q_v 1) (q_v 0)) q_non (q_tup (qa_cons q_str (qa_cons (q_if (qt_cmp (og_eq hr) (q_cb cg_len (by rfl) T.len PySem.boot_len (qa_cons (q_v 0) qa_nil)) q_int) (q_ix ig_idx (q_v 0) q_int) q_int) qa_nil))))))))))

abbrev s_law : Stmt := topS 26
theorem sc_law : FnScope ["script", "source", "lap", "web", "poly", "t", "above", "here", "told", "odd", "value"] ["script"] (defScope s_law) := ⟨rfl, rfl, rfl, by decide +kernel, rfl, by decide +kernel, by decide +kernel⟩
def p_law_2 : PTS := (pSet 3 (pCall S__law_draw_web (pCons (pVarF 1) (pCons (pC (.int 6)) pNil))))
def p_law_3 : PTS := (pSet 4 (pCall S__law_polynomial (pCons (pVarF 3) pNil)))
def p_law_4 : PTS := (pSet 5 (pIf (pB (pOp eqG (pVar 2) (pC (.int 0)))) (pTup (pCons (pOp subG (pCall S_pick (pCons (pVarF 1) (pCons (pC (.int 9)) pNil))) (pC (.int 4))) (pCons (pC (.int 1)) pNil))) (pTup (pCons (pOp subG (pOp mulG (pC (.int 2)) (pCall S_pick (pCons (pVarF 1) (pCons (pC (.int 9)) pNil)))) (pC (.int 9))) (pCons (pC (.int 2)) pNil)))))
def p_law_5 : PTS := (pAsgT 2 (pCons (pCall S__law_above (pCons (pVarF 4) (pCons (pVarF 5) pNil))) (pCons (pCall S__law_here (pCons (pVarF 4) (pCons (pVarF 5) pNil))) pNil)) (pgCons (pgN 6) (pgCons (pgN 7) pgNil)))
def p_law_6 : PTS := (pSet 8 (pIf (pB (pOp eqG (pVar 7) (pC (.int 0)))) (pTup (pCons (pC (.str (Str.ofString "above"))) (pCons (pVarF 6) pNil))) (pTup (pCons (pC (.str (Str.ofString "at"))) (pCons (pVarF 6) (pCons (pVarF 7) pNil))))))
def p_law_8 : PTS := (pRet (pC (.bool false)))
def p_law_7 : PTS := (pIfS (pB (pOp neG (pCB reprG' (pCons (pCall S_root_paper (pCons (pVarF 3) (pCons (pVarF 5) pNil))) pNil)) (pCB reprG' (pCons (pVar 8) pNil)))) p_law_8 pNext)
def p_law_9 : PTS := (pSet 9 (pLst (pCons (pVarF 8) (pCons (pTup (pCons (pC (.str (Str.ofString "above"))) (pCons (pVarF 6) pNil))) (pCons (pTup (pCons (pC (.str (Str.ofString "at"))) (pCons (pVarF 6) (pCons (pVarF 7) pNil)))) (pCons (pTup (pCons (pC (.str (Str.ofString "at"))) (pCons (pVarF 6) (pCons (pC (.int 1)) pNil)))) (pCons (pTup (pCons (pC (.str (Str.ofString "above"))) (pCons (pOp addG (pVar 6) (pC (.int 1))) pNil))) (pCons (pTup (pCons (pC (.str (Str.ofString "at"))) (pCons (pOp addG (pVar 6) (pC (.int 1))) (pCons (pC (.int 1)) pNil)))) pNil))))))))
def p_law_10 : PTS := (pSet 9 (pOp addG (pVar 9) (pLst (pCons (pOp addG (pVar 8) (pTup (pCons (pC (.int 0)) pNil))) (pCons (pSl (pVar 8) pNoPart (pPart (pUn negG (pC (.int 1))))) (pCons (pCB listG (pCons (pVar 8) pNil)) (pCons (pC .none) (pCons (pTup pNil) (pCons (pC (.int 7)) (pCons (pTup (pCons (pC (.str (Str.ofString "above"))) (pCons (pOp subG (pC (.int 0)) (pC (.int 1))) pNil))) (pCons (pTup (pCons (pC (.str (Str.ofString "above"))) (pCons (pC (.bool true)) pNil))) (pCons (pTup (pCons (pC (.str (Str.ofString "above"))) (pCons (pC .none) pNil))) pNil))))))))))))
def p_law_11 : PTS := (pSet 9 (pOp addG (pVar 9) (pLst (pCons (pTup (pCons (pC (.str (Str.ofString "at"))) (pCons (pVarF 6) (pCons (pC (.int 0)) pNil)))) (pCons (pTup (pCons (pC (.str (Str.ofString "at"))) (pCons (pVarF 6) (pCons (pC (.bool true)) pNil)))) (pCons (pTup (pCons (pC (.str (Str.ofString "at"))) (pCons (pOp subG (pC (.int 0)) (pC (.int 1))) (pCons (pC (.int 1)) pNil)))) (pCons (pTup (pCons (pC (.str (Str.ofString "at"))) (pCons (pVarF 6) pNil))) (pCons (pTup (pCons (pC (.str (Str.ofString "other"))) (pCons (pVarF 6) pNil))) (pCons (pTup (pCons (pLst pNil) (pCons (pC (.int 1)) pNil))) pNil)))))))))
def p_law_14 : PTS := (pRet (pC (.bool false)))
def p_law_13 : PTS := (pIfS (pB (pOp neG (pCB reprG' (pCons (pCall S_judge_roots (pCons (pVarF 3) (pCons (pVarF 5) (pCons (pVarF 10) pNil)))) pNil)) (pCB reprG' (pCons (pCall S__law_fault (pCons (pVarF 8) (pCons (pVarF 10) pNil))) pNil)))) p_law_14 pNext)
def p_law_12 : PTS := (pFor (pIter (pVarF 9)) (pgN 10) p_law_13)
def p_law_1 : PTS := (pFor (pRange1 (pCons (pC (.int 2)) pNil)) (pgN 2) (pSeq p_law_2
    (pSeq p_law_3
    (pSeq p_law_4
    (pSeq p_law_5
    (pSeq p_law_6
    (pSeq p_law_7
    (pSeq p_law_9
    (pSeq p_law_10
    (pSeq p_law_11
    p_law_12))))))))))
def p_law_15 : PTS := (pRet (pC (.bool true)))
def p_law : PTS :=
  (pSeq p_law_1
    p_law_15)
theorem w_law {f : Addr} (T : BI mg) (F__law_draw_web : FnQ P w K mg base "_law_draw_web" 2 S__law_draw_web) (F__law_polynomial : FnQ P w K mg base "_law_polynomial" 3 S__law_polynomial) (F__law_pick : FnQ P w K mg base "_law_pick" 1 S_pick) (F__law_above : FnQ P w K mg base "_law_above" 2 S__law_above) (F__law_here : FnQ P w K mg base "_law_here" 2 S__law_here) (F_root_paper : FnQ P w K mg base "root_paper" 3 S_root_paper) (F_judge_roots : FnQ P w K mg base "judge_roots" 4 S_judge_roots) (F__law_fault : FnQ P w K mg base "_law_fault" 2 S__law_fault) (F__law_open_cells : FnAt P w K mg base "_law_open_cells" 1 (spOpen K)) (cdv : Value) (A : Around) (outer : List Env) (s : Shared) (H : Hp) (hr : Room 4 (A.deeper (envOfC "law" (defScope s_law) s.heap.objs.size f cdv))) (hgd0 : A.guards = some []) : PS (cxOf CX0 P w K mg base ["script", "source", "lap", "web", "poly", "t", "above", "here", "told", "odd", "value"] "law" (defScope s_law) f cdv A outer s H E0).nox (firstS s_law) (tAsg (tCall (spOpen K) [] E0 (tCons (tVar 0) tNil)) (gName 1)) ∧ QSs (cxOf CX0 P w K mg base ["script", "source", "lap", "web", "poly", "t", "above", "here", "told", "odd", "value"] "law" (defScope s_law) f cdv A outer s H E0).nox (restS s_law) p_law := by
  have nd := sc_law.nd
  have hgd : (A.deeper (envOfC "law" (defScope s_law) s.heap.objs.size f cdv)).guards = some [] := hgd0
  refine ⟨ps_set (i := 1) nd rfl (by first | exact .inl rfl | exact .inr rfl) (pe_callG F__law_open_cells (hr.mono (by decide)) hgd rfl (pa_cons (pv 0) pa_nil) (by decide) rfl rfl), ?_⟩
  exact (qss_cons (qs_for PassesOwn.never rfl (qi_range1 (by rfl) T.range (qa_cons q_int qa_nil)) (qg_name 2 nd) (qss_cons (qs_set 3 nd (q_call F__law_draw_web hr hgd (qa_cons (q_f 1) (qa_cons q_int qa_nil))))
    (qss_cons (qs_set 4 nd (q_call F__law_polynomial hr hgd (qa_cons (q_f 3) qa_nil)))
    (qss_cons (qs_set 5 nd (q_if (qt_cmp (og_eq hr) (q_v 2) q_int) (q_tup (qa_cons (q_op og_sub (q_call F__law_pick hr hgd (qa_cons (q_f 1) (qa_cons q_int qa_nil))) q_int) (qa_cons q_int qa_nil))) (q_tup (qa_cons (q_op og_sub (q_op og_mul q_int (q_call F__law_pick hr hgd (qa_cons (q_f 1) (qa_cons q_int qa_nil)))) q_int) (qa_cons q_int qa_nil)))))
    (qss_cons (qs_par 6 7 rfl nd (qa_cons (q_call F__law_above hr hgd (qa_cons (q_f 4) (qa_cons (q_f 5) qa_nil))) (qa_cons (q_call F__law_here hr hgd (qa_cons (q_f 4) (qa_cons (q_f 5) qa_nil))) qa_nil)))
    (qss_cons (qs_set 8 nd (q_if (qt_cmp (og_eq hr) (q_v 7) q_int) (q_tup (qa_cons q_str (qa_cons (q_f 6) qa_nil))) (q_tup (qa_cons q_str (qa_cons (q_f 6) (qa_cons (q_f 7) qa_nil))))))
    (qss_cons (qs_if (qt_cmp (og_ne hr) (q_cb (cg_repr hr hgd) (by rfl) T.repr PyProof.Rows.bootS_repr (qa_cons (q_call F_root_paper hr hgd (qa_cons (q_f 3) (qa_cons (q_f 5) qa_nil))) qa_nil)) (q_cb (cg_repr hr hgd) (by rfl) T.repr PyProof.Rows.bootS_repr (qa_cons (q_v 8) qa_nil))) (qss_one (qs_ret q_bl)) qss_nil)
    (qss_cons (qs_set 9 nd (q_lst (qa_cons (q_f 8) (qa_cons (q_tup (qa_cons q_str (qa_cons (q_f 6) qa_nil))) (qa_cons (q_tup (qa_cons q_str (qa_cons (q_f 6) (qa_cons (q_f 7) qa_nil)))) (qa_cons (q_tup (qa_cons q_str (qa_cons (q_f 6) (qa_cons q_int qa_nil)))) (qa_cons (q_tup (qa_cons q_str (qa_cons (q_op og_add (q_v 6) q_int) qa_nil))) (qa_cons (q_tup (qa_cons q_str (qa_cons (q_op og_add (q_v 6) q_int) (qa_cons q_int qa_nil)))) qa_nil))))))))
    (qss_cons (qs_set 9 nd (q_op og_add (q_v 9) (q_lst (qa_cons (q_op og_add (q_v 8) (q_tup (qa_cons q_int qa_nil))) (qa_cons (q_slice (q_v 8) qo_none (qo_some (q_un ug_neg q_int))) (qa_cons (q_ct cg_list (by rfl) T.list PyProof.Rows.boot_list (qa_cons (q_v 8) qa_nil)) (qa_cons q_non (qa_cons (q_tup qa_nil) (qa_cons q_int (qa_cons (q_tup (qa_cons q_str (qa_cons (q_op og_sub q_int q_int) qa_nil))) (qa_cons (q_tup (qa_cons q_str (qa_cons q_bl qa_nil))) (qa_cons (q_tup (qa_cons q_str (qa_cons q_non qa_nil))) qa_nil))))))))))))
    (qss_cons (qs_set 9 nd (q_op og_add (q_v 9) (q_lst (qa_cons (q_tup (qa_cons q_str (qa_cons (q_f 6) (qa_cons q_int qa_nil)))) (qa_cons (q_tup (qa_cons q_str (qa_cons (q_f 6) (qa_cons q_bl qa_nil)))) (qa_cons (q_tup (qa_cons q_str (qa_cons (q_op og_sub q_int q_int) (qa_cons q_int qa_nil)))) (qa_cons (q_tup (qa_cons q_str (qa_cons (q_f 6) qa_nil))) (qa_cons (q_tup (qa_cons q_str (qa_cons (q_f 6) qa_nil))) (qa_cons (q_tup (qa_cons (q_lst qa_nil) (qa_cons q_int qa_nil))) qa_nil)))))))))
    (qss_one (qs_for PassesOwn.never rfl (qi_any (q_f 9)) (qg_name 10 nd) (qss_one (qs_if (qt_cmp (og_ne hr) (q_cb (cg_repr hr hgd) (by rfl) T.repr PyProof.Rows.bootS_repr (qa_cons (q_call F_judge_roots hr hgd (qa_cons (q_f 3) (qa_cons (q_f 5) (qa_cons (q_f 10) qa_nil)))) qa_nil)) (q_cb (cg_repr hr hgd) (by rfl) T.repr PyProof.Rows.bootS_repr (qa_cons (q_call F__law_fault hr hgd (qa_cons (q_f 8) (qa_cons (q_f 10) qa_nil))) qa_nil))) (qss_one (qs_ret q_bl)) qss_nil))))))))))))))
    (qss_one (qs_ret q_bl)))
end
end K80
set_option Elab.async false
set_option linter.all false
set_option maxRecDepth 100000
set_option maxHeartbeats 1000000
namespace K80
open PySem L2 L3
theorem len_is_count_from : ∀ as Q, S_is_count_from as Q → as.length = 2
  | [.d p, .d t], _, _ => rfl
theorem cnt_run {v : D} {least : Int} {Q : OP → PSt → Prop} {ρ : PSt} (h0 : ρ[0]? = some (.val v)) (h1 : ρ[1]? = some (.val (.int least))) (q : Q (.d (.bool (cntFrom v least))) ρ) : pAndV (pIsI "int" (pVar 0)) (pAndV (pNotV (pIsI "bool" (pVar 0))) (pOp geG (pVar 0) (pVar 1))) ρ Q := by
  have v0 : ∀ Q, pVar 0 ρ Q = Q (.d v) ρ := fun Q => by unfold pVar; rw [h0]
  have v1 : ∀ Q, pVar 1 ρ Q = Q (.d (.int least)) ρ := fun Q => by unfold pVar; rw [h1]
  unfold pAndV pIsI pNotV pOp
  simp only [v0, v1, OP.rd, isI_int, isI_bool]
  cases v <;> exact q
theorem v_is_count_from : ∀ as Q, S_is_count_from as Q → p_is_count_from { nx := fun _ => Q .none, rt := Q } (startP ["value", "least"] as) := by
  intro as Q h
  match as, h with
  | [.d v, .d l], ⟨least, e, q⟩ =>
    subst e
    exact cnt_run (v := v) (least := least) (ρ := [.val v, .val (.int least)]) (Q := fun x _ => x.cl Q) rfl rfl q
theorem len__law_is_from : ∀ as Q, S__law_is_from as Q → as.length = 2
  | [.d p, .d t], _, _ => rfl
theorem v__law_is_from : ∀ as Q, S__law_is_from as Q → p__law_is_from { nx := fun _ => Q .none, rt := Q } (startP ["value", "least"] as) := by
  intro as Q h
  match as, h with
  | [.d v, .d l], ⟨least, e, q⟩ =>
    subst e
    exact cnt_run (v := v) (least := least) (ρ := [.val v, .val (.int least)]) (Q := fun x _ => x.cl Q) rfl rfl q
theorem len_root_paper : ∀ as Q, S_root_paper as Q → as.length = 2
  | [.d p, .d t], _, _ => rfl
theorem v_root_paper : ∀ as Q, S_root_paper as Q → p_root_paper { nx := fun _ => Q .none, rt := Q } (startP ["web", "t", "poly", "here"] as) := by
  intro as Q h
  match as, h with
  | [.d web, .d t], ⟨n, ps, u, w, e1, e2, ⟨hn, hp, u1, u2, w1, w2⟩, q⟩ =>
    subst e1 e2
    have ok : EV.PolyOk (EV.poly n (tied ps)) u w := by
      have := EV.poly_len (n := n) (T := tied ps)
      exact ⟨by omega, by omega, u1, u2, w1, w2⟩
    have hlow := EV.poly_low (n := n) (T := tied ps) (u := u) (w := w) (by omega)
    refine ⟨n, ps, rfl, by omega, hp, _, u, w, rfl, rfl, ok, hlow, rfl, ?_⟩
    unfold cOf hOf at q
    generalize EV.low (EV.shift (EV.poly n (tied ps)) u w) = h at q
    cases h with
    | zero => exact ite_t rfl ⟨_, u, w, rfl, rfl, ok, sz2, q⟩
    | succ h => exact ite_f (by simp [PyData.eqv]; omega) ⟨_, u, w, rfl, rfl, ok, sz3, q⟩

/-! ### judgements -/
theorem ValOk.shaped {v : D} (h : ValOk v) : SeqAt.shaped v = true := by
  unfold SeqAt.shaped
  rw [h.1, Bool.true_and, decide_eq_true_eq]
  have := h.2; omega
theorem ValOk.head {x : D} {rest : List D} (h : ValOk (.tuple (x :: rest))) : ValOk x := by
  obtain ⟨h1, h2⟩ := h
  simp only [PyData.canLay0, PyData.canLayAll0, Bool.and_eq_true] at h1
  simp only [PyData.depth, PyData.depthAll] at h2
  exact ⟨h1.1, by omega⟩
theorem told_ok (c h : Nat) : ValOk (toldD c h) := by
  have e1 : PyData.canLay0 sAbove = true := by decide +kernel
  have e2 : PyData.canLay0 sAt = true := by decide +kernel
  cases h with
  | zero => exact ⟨by simp only [toldD, PyData.canLay0, PyData.canLayAll0] at e1 ⊢; rw [e1]; rfl, by simp [toldD, PyData.depth, PyData.depthAll]⟩
  | succ h => exact ⟨by simp only [toldD, PyData.canLay0, PyData.canLayAll0] at e2 ⊢; rw [e2]; rfl, by simp [toldD, PyData.depth, PyData.depthAll]⟩
theorem cmp_told {v : D} (h : ValOk v) (c k : Nat) : cmpb v (toldD c k) = true := cmpb_of h.shaped (told_ok c k).shaped
theorem cmp_nil {v : D} (h : ValOk v) : cmpb v (.tuple []) = true := cmpb_of h.shaped rfl
theorem atI0 {α : Type} {x : α} {l : List α} : atI (x :: l) 0 = some x := atI_nat (j := 0) rfl rfl
theorem atI1 {α : Type} {x y : α} {l : List α} : atI (x :: y :: l) 1 = some y := atI_nat (j := 1) rfl rfl
theorem atI2 {α : Type} {x y z : α} {l : List α} : atI (x :: y :: z :: l) 2 = some z := atI_nat (j := 2) rfl rfl
/-- the end of the program's judge -/
theorem judge_end {E : PEnds} {web t x : D} {i : Int} {rest : List D} {c h : Nat} (hv : ValOk (.tuple (x :: .int i :: rest))) (q : E.rt (fin c h (.tuple (x :: .int i :: rest)) (.int i))) :
    pSeq p_judge_roots_9 p_judge_roots_11 E [.val web, .val t, .val (.tuple (x :: .int i :: rest)), .val (toldD c h)] := by
  unfold fin at q
  have e : PyData.eqv (.int i) (.int c) = decide (i = c) := by simp [PyData.eqv]; rfl
  cases h with
  | zero =>
    refine ⟨_, atI1, _, atI1, rfl, ?_⟩
    by_cases hi : PyData.eqv (.int i) (.int c) = true
    · rw [if_pos hi] at q
      refine ite_f (by rw [hi]; decide) ⟨cmp_told hv c 0, ?_⟩
      by_cases hw : PyData.eqv (.tuple (x :: .int i :: rest)) (toldD c 0) = true
      · rw [if_pos hw] at q
        exact ite_t hw q
      · rw [if_neg hw] at q
        exact ite_f hw ⟨rfl, ite_f (by simp [PyData.eqv]) ⟨sz2, q⟩⟩
    · rw [if_neg hi] at q
      have hf : PyData.eqv (.int i) (.int c) = false := by simpa using hi
      exact ite_t (by rw [hf]; rfl) ⟨_, atI1, sz2, q⟩
  | succ h =>
    refine ⟨_, atI1, _, atI1, rfl, ?_⟩
    by_cases hi : PyData.eqv (.int i) (.int c) = true
    · rw [if_pos hi] at q
      refine ite_f (by rw [hi]; decide) ⟨cmp_told hv c (h + 1), ?_⟩
      by_cases hw : PyData.eqv (.tuple (x :: .int i :: rest)) (toldD c (h + 1)) = true
      · rw [if_pos hw] at q
        exact ite_t hw q
      · rw [if_neg hw] at q
        exact ite_f hw ⟨rfl, ite_t (by simp [PyData.eqv]) ⟨_, atI2, sz2, q⟩⟩
    · rw [if_neg hi] at q
      have hf : PyData.eqv (.int i) (.int c) = false := by simpa using hi
      exact ite_t (by rw [hf]; rfl) ⟨_, atI1, sz2, q⟩
theorem fault_end {E : PEnds} {x : D} {i : Int} {rest : List D} {c h : Nat} (hv : ValOk (.tuple (x :: .int i :: rest))) (q : E.rt (fin c h (.tuple (x :: .int i :: rest)) (.int i))) :
    pSeq p__law_fault_7 p__law_fault_9 E [.val (toldD c h), .val (.tuple (x :: .int i :: rest))] := by
  unfold fin at q
  cases h with
  | zero =>
    refine ⟨_, atI1, _, atI1, rfl, ?_⟩
    by_cases hi : PyData.eqv (.int i) (.int c) = true
    · rw [if_pos hi] at q
      refine ite_f (by rw [hi]; decide) ⟨cmp_told hv c 0, ?_⟩
      by_cases hw : PyData.eqv (.tuple (x :: .int i :: rest)) (toldD c 0) = true
      · rw [if_pos hw] at q
        exact ite_t hw q
      · rw [if_neg hw] at q
        exact ite_f hw ⟨rfl, ite_f (by simp [PyData.eqv]) ⟨sz2, q⟩⟩
    · rw [if_neg hi] at q
      have hf : PyData.eqv (.int i) (.int c) = false := by simpa using hi
      exact ite_t (by rw [hf]; rfl) ⟨_, atI1, sz2, q⟩
  | succ h =>
    refine ⟨_, atI1, _, atI1, rfl, ?_⟩
    by_cases hi : PyData.eqv (.int i) (.int c) = true
    · rw [if_pos hi] at q
      refine ite_f (by rw [hi]; decide) ⟨cmp_told hv c (h + 1), ?_⟩
      by_cases hw : PyData.eqv (.tuple (x :: .int i :: rest)) (toldD c (h + 1)) = true
      · rw [if_pos hw] at q
        exact ite_t hw q
      · rw [if_neg hw] at q
        exact ite_f hw ⟨rfl, ite_t (by simp [PyData.eqv]) ⟨_, atI2, sz2, q⟩⟩
    · rw [if_neg hi] at q
      have hf : PyData.eqv (.int i) (.int c) = false := by simpa using hi
      exact ite_t (by rw [hf]; rfl) ⟨_, atI1, sz2, q⟩

theorem eqv_s (x y : Str) : PyData.eqv (.str x) (.str y) = (x == y) := by simp [PyData.eqv]
theorem cnt_int {v : D} {l : Int} (h : cntFrom v l = true) : ∃ i, v = .int i := by
  cases v <;> first | exact ⟨_, rfl⟩ | cases h
theorem len_judge_roots : ∀ as Q, S_judge_roots as Q → as.length = 3
  | [.d p, .d t, .d v], _, _ => rfl
theorem isTup {d : D} : isI "tuple" d = isTupD d := isI_tup d
theorem v_judge_roots : ∀ as Q, S_judge_roots as Q → p_judge_roots { nx := fun _ => Q .none, rt := Q } (startP ["web", "t", "value", "told"] as) := by
  intro as Q h
  match as, h with
  | [.d web, .d t, .d value], ⟨n, ps, u, w, e1, e2, pl, hv, q⟩ =>
    subst e1 e2
    have paper : ∀ {x : D} {i : Int} {rest : List D}, value = .tuple (x :: .int i :: rest) → Q (fin (cOf n ps u w) (hOf n ps u w) value (.int i)) →
        pSeq p_judge_roots_8 (pSeq p_judge_roots_9 p_judge_roots_11) { nx := fun _ => Q .none, rt := Q } [.val (webD n ps), .val (DT [u, w]), .val value, .no] := by
      rintro x i rest rfl q
      exact ⟨n, ps, u, w, rfl, rfl, pl, judge_end hv q⟩
    have nt : isTupD value = false → Q form → p_judge_roots { nx := fun _ => Q .none, rt := Q } [.val (webD n ps), .val (DT [u, w]), .val value, .no] := fun ht q => ite_t (by rw [isTup, ht]; rfl) (ite_t rfl ⟨sz1, q⟩)
    cases value with
    | none => exact nt rfl q
    | bool b => exact nt rfl q
    | int i => exact nt rfl q
    | str x => exact nt rfl q
    | list l => exact nt rfl q
    | dict l => exact nt rfl q
    | tuple ds =>
      show p_judge_roots { nx := fun _ => Q .none, rt := Q } [.val (webD n ps), .val (DT [u, w]), .val (.tuple ds), .no]
      refine ⟨Nat.zero_le _, cmp_nil hv, ?_⟩
      cases ds with
      | nil => exact ite_t rfl (ite_t rfl ⟨sz1, q⟩)
      | cons x rest =>
        refine ite_f (by simp [PyData.eqv, PyData.eqvAll]) ⟨_, atI0, ?_⟩
        have ns : isStrD x = false → Q form → (fun (b : Bool) ρ1 => if b = true then p_judge_roots_2 { nx := pSeq p_judge_roots_3 (pSeq p_judge_roots_8 (pSeq p_judge_roots_9 p_judge_roots_11)) { nx := fun _ => Q .none, rt := Q }, rt := Q } ρ1 else pNext { nx := pSeq p_judge_roots_3 (pSeq p_judge_roots_8 (pSeq p_judge_roots_9 p_judge_roots_11)) { nx := fun _ => Q .none, rt := Q }, rt := Q } ρ1) (!(isI "str" x)) [.val (webD n ps), .val (DT [u, w]), .val (.tuple (x :: rest)), .no] := fun hs q => ite_t (by rw [isI_str, hs]; rfl) ⟨sz1, q⟩
        cases x with
        | none => exact ns rfl q
        | bool b => exact ns rfl q
        | int i => exact ns rfl q
        | list l => exact ns rfl q
        | tuple l => exact ns rfl q
        | dict l => exact ns rfl q
        | str x =>
          refine ⟨_, atI0, cmpb_str, ?_⟩
          unfold fault at q
          by_cases ha : (x == Str.ofString "above") = true
          · refine ite_t (by rw [eqv_s]; exact ha) ⟨rfl, ?_⟩
            simp only [ha, if_true] at q
            match rest, hv, q with
            | [], hv, q => exact ite_t (by simp [PyData.eqv]) (ite_t rfl ⟨sz1, q⟩)
            | [v1], hv, q =>
              refine ite_f (by simp [PyData.eqv]) ⟨_, atI1, 0, rfl, ?_⟩
              by_cases hc : cntFrom v1 0 = true
              · obtain ⟨i, rfl⟩ := cnt_int hc
                simp only [hc, if_true] at q
                exact ite_f (by rw [hc]; decide) (paper rfl q)
              · have hf : cntFrom v1 0 = false := by simpa using hc
                simp only [hf] at q
                exact ite_t (by rw [hf]; rfl) ⟨sz1, q⟩
            | v1 :: v2 :: r, hv, q => exact ite_t (by simp [PyData.eqv]; omega) (ite_t rfl ⟨sz1, q⟩)
          · have ha' : (x == Str.ofString "above") = false := by simpa using ha
            refine ite_f (by rw [eqv_s]; exact ha) ⟨_, atI0, cmpb_str, ?_⟩
            simp only [ha'] at q
            by_cases hb : (x == Str.ofString "at") = true
            · refine ite_f (by rw [eqv_s, hb]; decide) ⟨rfl, ?_⟩
              simp only [hb, if_true] at q
              match rest, hv, q with
              | [], hv, q => exact ite_t (by simp [PyData.eqv]) (ite_t rfl ⟨sz1, q⟩)
              | [v1], hv, q => exact ite_t (by simp [PyData.eqv]) (ite_t rfl ⟨sz1, q⟩)
              | [v1, v2], hv, q =>
                refine ite_f (by simp [PyData.eqv]) ⟨_, atI1, 0, rfl, ?_⟩
                by_cases hc : cntFrom v1 0 = true
                · obtain ⟨i, rfl⟩ := cnt_int hc
                  simp only [hc, if_true] at q
                  refine ite_f (by rw [hc]; decide) ⟨_, atI2, 1, rfl, ?_⟩
                  by_cases hd : cntFrom v2 1 = true
                  · simp only [hd, if_true] at q
                    exact ite_f (by rw [hd]; decide) (paper rfl q)
                  · have hf : cntFrom v2 1 = false := by simpa using hd
                    simp only [hf] at q
                    exact ite_t (by rw [hf]; rfl) ⟨sz1, q⟩
                · have hf : cntFrom v1 0 = false := by simpa using hc
                  simp only [hf] at q
                  exact ite_t (by rw [hf]; rfl) (ite_t rfl ⟨sz1, q⟩)
              | v1 :: v2 :: v3 :: r, hv, q => exact ite_t (by simp [PyData.eqv]; omega) (ite_t rfl ⟨sz1, q⟩)
            · have hb' : (x == Str.ofString "at") = false := by simpa using hb
              simp only [hb'] at q
              exact ite_t (by rw [eqv_s, hb']; rfl) (ite_t rfl ⟨sz1, q⟩)

theorem two_ok : SeqAt.shaped (.tuple [sAbove, sAt]) = true := by
  have e1 : PyData.canLay0 sAbove = true := by decide +kernel
  have e2 : PyData.canLay0 sAt = true := by decide +kernel
  exact ValOk.shaped ⟨by simp only [PyData.canLay0, PyData.canLayAll0] at e1 e2 ⊢; rw [e1, e2]; rfl, by simp [PyData.depth, PyData.depthAll]⟩
theorem any_two (x : Str) : ([sAbove, sAt].any fun z => PyData.eqv z (.str x)) = ((x == Str.ofString "above") || (x == Str.ofString "at")) := by
  simp only [List.any_cons, List.any_nil, Bool.or_false, eqv_s]
  rw [BEq.comm (a := x), BEq.comm (a := x)]
theorem any_none {x : D} (h : isStrD x = false) : ([sAbove, sAt].any fun z => PyData.eqv z x) = false := by
  cases x <;> first | rfl | cases h
theorem len__law_fault : ∀ as Q, S__law_fault as Q → as.length = 2
  | [.d p, .d t], _, _ => rfl
theorem v__law_fault : ∀ as Q, S__law_fault as Q → p__law_fault { nx := fun _ => Q .none, rt := Q } (startP ["told", "value"] as) := by
  intro as Q h
  match as, h with
  | [.d told, .d value], ⟨c, k, e1, hv, q⟩ =>
    subst e1
    have paper : ∀ {x : D} {i : Int} {rest : List D}, value = .tuple (x :: .int i :: rest) → Q (fin c k value (.int i)) →
        pSeq p__law_fault_7 p__law_fault_9 { nx := fun _ => Q .none, rt := Q } [.val (toldD c k), .val value] := by
      rintro x i rest rfl q
      exact fault_end hv q
    have nt : isTupD value = false → Q form → p__law_fault { nx := fun _ => Q .none, rt := Q } [.val (toldD c k), .val value] := fun ht q => ite_t (by rw [isTup, ht]; rfl) (ite_t rfl ⟨sz1, q⟩)
    cases value with
    | none => exact nt rfl q
    | bool b => exact nt rfl q
    | int i => exact nt rfl q
    | str x => exact nt rfl q
    | list l => exact nt rfl q
    | dict l => exact nt rfl q
    | tuple ds =>
      show p__law_fault { nx := fun _ => Q .none, rt := Q } [.val (toldD c k), .val (.tuple ds)]
      refine ⟨Nat.zero_le _, cmp_nil hv, ?_⟩
      cases ds with
      | nil => exact ite_t rfl (ite_t rfl ⟨sz1, q⟩)
      | cons x rest =>
        refine ite_f (by simp [PyData.eqv, PyData.eqvAll]) ⟨_, atI0, sz2, hv.head.shaped, two_ok, ?_⟩
        by_cases hs : isStrD x = true
        · cases x with
          | none => cases hs
          | bool b => cases hs
          | int i => cases hs
          | list l => cases hs
          | tuple l => cases hs
          | dict l => cases hs
          | str x =>
            unfold fault at q
            by_cases ha : (x == Str.ofString "above") = true
            · refine ite_f (by rw [any_two, ha, Bool.true_or]; decide) ⟨_, atI0, cmpb_str, ?_⟩
              refine ite_t (by rw [eqv_s]; exact ha) ⟨rfl, ?_⟩
              have hat : (x == Str.ofString "at") = false := by
                rw [eq_of_beq ha]; decide +kernel
              simp only [ha, if_true] at q
              match rest, hv, q with
              | [], hv, q => exact ite_t (by simp [PyData.eqv]) (ite_t rfl ⟨sz1, q⟩)
              | [v1], hv, q =>
                refine ite_f (by simp [PyData.eqv]) ⟨_, atI1, 0, rfl, ?_⟩
                by_cases hc : cntFrom v1 0 = true
                · obtain ⟨i, rfl⟩ := cnt_int hc
                  simp only [hc, if_true] at q
                  refine ite_f (by rw [hc]; decide) ⟨_, atI0, cmpb_str, ?_⟩
                  refine ite_f (by rw [eqv_s, hat]; decide) ?_
                  exact ite_f (by decide) (paper rfl q)
                · have hf : cntFrom v1 0 = false := by simpa using hc
                  simp only [hf] at q
                  exact ite_t (by rw [hf]; rfl) ⟨sz1, q⟩
              | v1 :: v2 :: r, hv, q => exact ite_t (by simp [PyData.eqv]; omega) (ite_t rfl ⟨sz1, q⟩)
            · have ha' : (x == Str.ofString "above") = false := by simpa using ha
              simp only [ha'] at q
              by_cases hb : (x == Str.ofString "at") = true
              · refine ite_f (by rw [any_two, hb, Bool.or_true]; decide) ⟨_, atI0, cmpb_str, ?_⟩
                refine ite_f (by rw [eqv_s]; exact ha) (ite_f (by decide) ⟨_, atI0, cmpb_str, ?_⟩)
                refine ite_t (by rw [eqv_s]; exact hb) ⟨rfl, ?_⟩
                simp only [hb, if_true] at q
                match rest, hv, q with
                | [], hv, q => exact ite_t (by simp [PyData.eqv]) (ite_t rfl ⟨sz1, q⟩)
                | [v1], hv, q => exact ite_t (by simp [PyData.eqv]) (ite_t rfl ⟨sz1, q⟩)
                | [v1, v2], hv, q =>
                  refine ite_f (by simp [PyData.eqv]) ⟨_, atI1, 0, rfl, ?_⟩
                  by_cases hc : cntFrom v1 0 = true
                  · obtain ⟨i, rfl⟩ := cnt_int hc
                    simp only [hc, if_true] at q
                    refine ite_f (by rw [hc]; decide) ⟨_, atI2, 1, rfl, ?_⟩
                    by_cases hd : cntFrom v2 1 = true
                    · simp only [hd, if_true] at q
                      exact ite_f (by rw [hd]; decide) (paper rfl q)
                    · have hf : cntFrom v2 1 = false := by simpa using hd
                      simp only [hf] at q
                      exact ite_t (by rw [hf]; rfl) ⟨sz1, q⟩
                  · have hf : cntFrom v1 0 = false := by simpa using hc
                    simp only [hf] at q
                    exact ite_t (by rw [hf]; rfl) (ite_t rfl ⟨sz1, q⟩)
                | v1 :: v2 :: v3 :: r, hv, q => exact ite_t (by simp [PyData.eqv]; omega) (ite_t rfl ⟨sz1, q⟩)
              · have hb' : (x == Str.ofString "at") = false := by simpa using hb
                simp only [hb'] at q
                exact ite_t (by rw [any_two, ha', hb']; rfl) ⟨sz1, q⟩
        · have hs' : isStrD x = false := by simpa using hs
          have q' : Q form := by
            unfold fault at q
            cases x <;> first | exact q | cases hs'
          exact ite_t (by rw [any_none hs']; rfl) ⟨sz1, q'⟩
end K80
set_option Elab.async false
set_option linter.all false
set_option maxRecDepth 100000
set_option maxHeartbeats 200000
namespace K80
open PySem L2 L3
abbrev LS (s2 s3 s4 s5 s6 s7 s8 s9 s10 : SV) : PSt := [.no, .src, s2, s3, s4, s5, s6, s7, s8, s9, s10]
theorem k1 : PyData.strOk (Str.ofString "above") = true := by decide +kernel
theorem k2 : PyData.strOk (Str.ofString "at") = true := by decide +kernel
theorem k3 : PyData.strOk (Str.ofString "other") = true := by decide +kernel
section
variable {E : PEnds} {s2 s3 s4 s5 s6 s7 s8 s9 s10 : SV}
theorem law_4 {lap : Int} (k : ∀ u w : Int, -1000 ≤ u → u ≤ 1000 → 1 ≤ w → w ≤ 4 → E.nx (LS (.val (.int lap)) s3 s4 (.val (DT [u, w])) s6 s7 s8 s9 s10)) : p_law_4 E (LS (.val (.int lap)) s3 s4 s5 s6 s7 s8 s9 s10) := by
  refine ⟨rfl, ?_⟩
  by_cases h : PyData.eqv (.int lap) (.int 0) = true
  · exact ite_t h ⟨by decide, fun r r0 r1 => ⟨sz2, k _ _ (by omega) (by omega) (by decide) (by decide)⟩⟩
  · exact ite_f h ⟨by decide, fun r r0 r1 => ⟨mulOk_l (by decide) (by decide), sz2, k _ _ (by omega) (by omega) (by decide) (by decide)⟩⟩
theorem law_6 {c h : Nat} (k : E.nx (LS s2 s3 s4 s5 (.val (.int c)) (.val (.int h)) (.val (toldD c h)) s9 s10)) : p_law_6 E (LS s2 s3 s4 s5 (.val (.int c)) (.val (.int h)) s8 s9 s10) := by
  refine ⟨rfl, ?_⟩
  cases h with
  | zero => exact ite_t rfl ⟨sz2, k⟩
  | succ h => exact ite_f (by simp [PyData.eqv]; omega) ⟨sz3, k⟩
theorem law_odd {t : PTS} {c h : Nat} (k : ∀ odd : List D, (∀ v ∈ odd, ValOk v) → t E (LS s2 s3 s4 s5 (.val (.int c)) (.val (.int h)) (.val (toldD c h)) (.own (.list odd)) s10)) :
    pSeq p_law_9 (pSeq p_law_10 (pSeq p_law_11 t)) E (LS s2 s3 s4 s5 (.val (.int c)) (.val (.int h)) (.val (toldD c h)) s9 s10) := by
  cases h with
  | zero =>
    refine ⟨(by exact szN (by simp)), (by exact szN (by simp)), (by exact szN (by simp)), (by exact szN (by simp)), (by exact szN (by simp)), (by exact szN (by simp)), (by exact szN (by simp)), (by exact szN (by simp)), (by exact szN (by simp)), (by exact szN (by simp)), (by exact szN (by simp)), (by exact szN (by simp)), (by exact szN (by simp)), (by exact szN (by simp)), (by exact szN (by simp)), (by exact szN (by simp)), (by exact szN (by simp)), (by exact szN (by simp)), (by exact szN (by simp)), (by exact szN (by simp)), (by exact szN (by simp)), (by exact szN (by simp)), (by exact szN (by simp)), ?_⟩
    refine k _ ?_
    intro v hv
    simp only [List.cons_append, List.nil_append, List.mem_cons, List.not_mem_nil, or_false] at hv
    rw [cutD_most] at hv
    rcases hv with rfl | rfl | rfl | rfl | rfl | rfl | rfl | rfl | rfl | rfl | rfl | rfl | rfl | rfl | rfl | rfl | rfl | rfl | rfl | rfl | rfl <;> simp [ValOk, toldD, PyData.canLay0, PyData.canLayAll0, k1, k2, k3, PyData.depth, PyData.depthAll]
  | succ h =>
    refine ⟨(by exact szN (by simp)), (by exact szN (by simp)), (by exact szN (by simp)), (by exact szN (by simp)), (by exact szN (by simp)), (by exact szN (by simp)), (by exact szN (by simp)), (by exact szN (by simp)), (by exact szN (by simp)), (by exact szN (by simp)), (by exact szN (by simp)), (by exact szN (by simp)), (by exact szN (by simp)), (by exact szN (by simp)), (by exact szN (by simp)), (by exact szN (by simp)), (by exact szN (by simp)), (by exact szN (by simp)), (by exact szN (by simp)), (by exact szN (by simp)), (by exact szN (by simp)), (by exact szN (by simp)), (by exact szN (by simp)), ?_⟩
    refine k _ ?_
    intro v hv
    simp only [List.cons_append, List.nil_append, List.mem_cons, List.not_mem_nil, or_false] at hv
    rw [cutD_most] at hv
    rcases hv with rfl | rfl | rfl | rfl | rfl | rfl | rfl | rfl | rfl | rfl | rfl | rfl | rfl | rfl | rfl | rfl | rfl | rfl | rfl | rfl | rfl <;> simp [ValOk, toldD, PyData.canLay0, PyData.canLayAll0, k1, k2, k3, PyData.depth, PyData.depthAll]
theorem rep_of {d : D} (h1 : okD d = true) (h2 : d.depth ≤ 60) (h3 : cnt d ≤ 1500) : nodict d = true ∧ d.depth ≤ 60 ∧ PyData.showable d = true ∧ (PyData.shown d).length ≤ sizeLine := rep_ok h1 h2 h3
theorem okD_tup (ds : List D) : okD (.tuple ds) = okDs ds := by rw [okD]
theorem okDs_cons (d : D) (ds : List D) : okDs (d :: ds) = (okD d && okDs ds) := by rw [okDs]
theorem okDs_nil : okDs [] = true := by rw [okDs]
theorem o1 : okD sAbove = true := by decide +kernel
theorem o2 : okD sAt = true := by decide +kernel
theorem o3 : okD (.str (Str.ofString "form")) = true := by decide +kernel
theorem o4 : okD (.str (Str.ofString "many")) = true := by decide +kernel
theorem o5 : okD (.str (Str.ofString "here")) = true := by decide +kernel
theorem oN {n : Nat} (h : n ≤ 1000) : okD (.int n) = true := by
  simp only [okD, decide_eq_true_eq, Int.natAbs_natCast]
  exact Nat.lt_of_le_of_lt h (by decide)
theorem rep_told {c h : Nat} (hc : c ≤ 1000) (hh : h ≤ 1000) : nodict (toldD c h) = true ∧ (toldD c h).depth ≤ 60 ∧ PyData.showable (toldD c h) = true ∧ (PyData.shown (toldD c h)).length ≤ sizeLine := by
  cases h with
  | zero => exact rep_of (by simp only [toldD, okD_tup, okDs_cons, okDs_nil, o1, oN hc]; rfl) (by simp [toldD, PyData.depth, PyData.depthAll]) (by simp [toldD, cnt, cnts])
  | succ h => exact rep_of (by simp only [toldD, okD_tup, okDs_cons, okDs_nil, o2, oN hc, oN hh]; rfl) (by simp [toldD, PyData.depth, PyData.depthAll]) (by simp [toldD, cnt, cnts])
theorem rep_fin {c h : Nat} (hc : c ≤ 1000) (hh : h ≤ 1000) (v v1 : D) : nodict (fin c h v v1) = true ∧ (fin c h v v1).depth ≤ 60 ∧ PyData.showable (fin c h v v1) = true ∧ (PyData.shown (fin c h v v1)).length ≤ sizeLine := by
  unfold fin
  split
  · split
    · exact rep_of rfl (by simp [PyData.depth]) (by simp [cnt])
    · exact rep_of (by simp only [okD_tup, okDs_cons, okDs_nil, o5, oN hh]; rfl) (by simp [PyData.depth, PyData.depthAll]) (by simp [cnt, cnts])
  · exact rep_of (by simp only [okD_tup, okDs_cons, okDs_nil, o4, oN hc]; rfl) (by simp [PyData.depth, PyData.depthAll]) (by simp [cnt, cnts])
theorem rep_form : nodict form = true ∧ form.depth ≤ 60 ∧ PyData.showable form = true ∧ (PyData.shown form).length ≤ sizeLine := rep_of (by simp only [okD_tup, okDs_cons, okDs_nil, o3]; rfl) (by simp [PyData.depth, PyData.depthAll]) (by simp [cnt, cnts])
theorem rep_fault {c h : Nat} (hc : c ≤ 1000) (hh : h ≤ 1000) (v : D) : nodict (fault c h v) = true ∧ (fault c h v).depth ≤ 60 ∧ PyData.showable (fault c h v) = true ∧ (PyData.shown (fault c h v)).length ≤ sizeLine := by
  unfold fault
  split
  · split
    · split
      · split
        · exact rep_fin hc hh _ _
        · exact rep_form
      · exact rep_form
    · split
      · split
        · split
          · split
            · exact rep_fin hc hh _ _
            · exact rep_form
          · exact rep_form
        · exact rep_form
      · exact rep_form
  · exact rep_form
theorem chg_le (l : List Int) : EV.chg l ≤ l.length := by
  have h : ∀ bs : List Bool, EV.diffs bs ≤ bs.length := by
    intro bs
    induction bs with
    | nil => exact Nat.le_refl _
    | cons a l ih =>
      cases l with
      | nil => exact Nat.zero_le _
      | cons b l =>
        rw [EV.diffs, List.length_cons]
        split <;> omega
  have h2 : (EV.signs l).length ≤ l.length := by unfold EV.signs; rw [List.length_map]; exact List.length_filter_le _ _
  exact Nat.le_trans (h _) h2
theorem law_7 {n : Nat} {ps : List (Int × Int)} {u w : Int} {c h : Nat} (pl : PlaceOk n ps u w) (ec : cOf n ps u w = c) (eh : hOf n ps u w = h) (hc : c ≤ 1000) (hh : h ≤ 1000)
    (k : E.nx (LS s2 (.val (webD n ps)) s4 (.val (DT [u, w])) s6 s7 (.val (toldD c h)) s9 s10)) : p_law_7 E (LS s2 (.val (webD n ps)) s4 (.val (DT [u, w])) s6 s7 (.val (toldD c h)) s9 s10) := by
  obtain ⟨r1, r2, r3, r4⟩ := rep_told hc hh
  refine ⟨n, ps, u, w, rfl, rfl, pl, ?_⟩
  rw [ec, eh]
  exact ⟨r1, r2, r3, r4, r1, r2, r3, r4, cmpb_str, ite_f (by rw [eqv_str]; decide) k⟩
theorem law_13 {n : Nat} {ps : List (Int × Int)} {u w : Int} {c h : Nat} {v : D} (pl : PlaceOk n ps u w) (vo : ValOk v) (ec : cOf n ps u w = c) (eh : hOf n ps u w = h) (hc : c ≤ 1000) (hh : h ≤ 1000)
    (k : E.nx (LS s2 (.val (webD n ps)) s4 (.val (DT [u, w])) s6 s7 (.val (toldD c h)) s9 (.val v))) : p_law_13 E (LS s2 (.val (webD n ps)) s4 (.val (DT [u, w])) s6 s7 (.val (toldD c h)) s9 (.val v)) := by
  obtain ⟨r1, r2, r3, r4⟩ := rep_fault hc hh v
  refine ⟨n, ps, u, w, rfl, rfl, pl, vo, ?_⟩
  rw [ec, eh]
  exact ⟨r1, r2, r3, r4, _, _, rfl, vo, r1, r2, r3, r4, cmpb_str, ite_f (by rw [eqv_str]; decide) k⟩
theorem law_12 {n : Nat} {ps : List (Int × Int)} {u w : Int} {c h : Nat} {odd : List D} (pl : PlaceOk n ps u w) (vo : ∀ v ∈ odd, ValOk v) (ec : cOf n ps u w = c) (eh : hOf n ps u w = h) (hc : c ≤ 1000) (hh : h ≤ 1000)
    (k : ∀ s9 s10, E.nx (LS s2 (.val (webD n ps)) s4 (.val (DT [u, w])) s6 s7 (.val (toldD c h)) s9 s10)) : p_law_12 E (LS s2 (.val (webD n ps)) s4 (.val (DT [u, w])) s6 s7 (.val (toldD c h)) (.own (.list odd)) s10) := by
  refine ⟨fun j ρ => ∃ s10 : SV, ρ = LS s2 (.val (webD n ps)) s4 (.val (DT [u, w])) s6 s7 (.val (toldD c h)) (.val (.list odd)) s10, ⟨s10, rfl⟩, ?_, ?_⟩
  · rintro j v ρ hv ⟨s10, rfl⟩
    exact law_13 pl (vo v (List.mem_of_getElem? hv)) ec eh hc hh ⟨_, rfl⟩
  · rintro ρ ⟨s10, rfl⟩
    exact k _ _
theorem law_5 {P : List Int} {u w : Int} {c h : Nat} (ok : EV.PolyOk P u w) (ec : EV.chg (EV.shift P u w) = c) (eh : EV.low (EV.shift P u w) = h) (hlow : EV.low (EV.shift P u w) < (EV.shift P u w).length)
    (k : E.nx (LS s2 s3 (.val (DT P)) (.val (DT [u, w])) (.val (.int c)) (.val (.int h)) s8 s9 s10)) : p_law_5 E (LS s2 s3 (.val (DT P)) (.val (DT [u, w])) s6 s7 s8 s9 s10) := by
  subst ec eh
  exact ⟨_, u, w, rfl, rfl, ok, _, u, w, rfl, rfl, ok, hlow, sz2, rfl, k⟩
theorem v_law : p_law { nx := fun _ => False, rt := fun d => d = .bool true } (.no :: .src :: List.replicate 9 .no) := by
  refine ⟨small62_of (by decide) (by decide), fun i ρ => ∃ (s2 s3 s4 s5 s6 s7 s8 s9 s10 : SV), ρ = LS s2 s3 s4 s5 s6 s7 s8 s9 s10, ⟨.no, .no, .no, .no, .no, .no, .no, .no, .no, rfl⟩, ?_, ?_⟩
  · rintro i d ρ hd ⟨s2, s3, s4, s5, s6, s7, s8, s9, s10, rfl⟩
    obtain ⟨hi, rfl⟩ := rangeD_get hd
    refine ⟨by decide, by decide, fun n ps n1 n2 hp _ _ => ?_⟩
    have n2 : n ≤ 6 := by omega
    refine ⟨n, ps, rfl, by omega, hp, ?_⟩
    have hl := EV.poly_len (n := n) (T := tied ps)
    have facts : ∀ u w : Int, -1000 ≤ u → u ≤ 1000 → 1 ≤ w → w ≤ 4 → PlaceOk n ps u w ∧ EV.PolyOk (EV.poly n (tied ps)) u w ∧ EV.low (EV.shift (EV.poly n (tied ps)) u w) < (EV.shift (EV.poly n (tied ps)) u w).length ∧ cOf n ps u w ≤ 1000 ∧ hOf n ps u w ≤ 1000 := by
      intro u w u1 u2 w1 w2
      have hlow := EV.poly_low (n := n) (T := tied ps) (u := u) (w := w) (by omega)
      have hsl := EV.shift_len (ns := EV.poly n (tied ps)) (u := u) (w := w)
      have hcl := chg_le (EV.shift (EV.poly n (tied ps)) u w)
      refine ⟨⟨by omega, hp, u1, u2, w1, w2⟩, ⟨by omega, by omega, u1, u2, w1, w2⟩, hlow, ?_, ?_⟩
      · unfold cOf; omega
      · unfold hOf; omega
    have eP : EV.poly n (tied ps) = EV.poly n (tied ps) := rfl
    refine law_4 (s3 := .val (webD n ps)) fun u w u1 u2 w1 w2 => ?_
    obtain ⟨pl, ok, hlow, hc, hh⟩ := facts u w u1 u2 w1 w2
    obtain ⟨c, ec⟩ : ∃ c, cOf n ps u w = c := ⟨_, rfl⟩
    obtain ⟨h, eh⟩ : ∃ h, hOf n ps u w = h := ⟨_, rfl⟩
    rw [ec] at hc
    rw [eh] at hh
    refine law_5 ok ec eh hlow ?_
    refine law_6 ?_
    refine law_7 pl ec eh hc hh ?_
    refine law_odd fun odd hodd => ?_
    refine law_12 pl hodd ec eh hc hh fun s9 s10 => ?_
    exact ⟨_, _, _, _, _, _, _, _, _, rfl⟩
  · rintro ρ ⟨s2, s3, s4, s5, s6, s7, s8, s9, s10, rfl⟩
    exact rfl
end
end K80
set_option Elab.async false
set_option linter.all false
set_option maxRecDepth 100000
namespace K80
open PySem L2 L3
theorem len_table_product : ∀ as Q, S_table_product as Q → as.length = 2 := EV.len_table_product
theorem v_table_product : ∀ as Q, S_table_product as Q → p_table_product { nx := fun _ => Q .none, rt := Q } (startP ["one", "other", "size", "i", "j", "k"] as) := EV.v_table_product
theorem len_diagonal_sum : ∀ as Q, S_diagonal_sum as Q → as.length = 1 := EV.len_diagonal_sum
theorem v_diagonal_sum : ∀ as Q, S_diagonal_sum as Q → p_diagonal_sum { nx := fun _ => Q .none, rt := Q } (startP ["rows", "i"] as) := EV.v_diagonal_sum
theorem len_web_polynomial : ∀ as Q, S_web_polynomial as Q → as.length = 1 := EV.len_web_polynomial
theorem v_web_polynomial : ∀ as Q, S_web_polynomial as Q → p_web_polynomial { nx := fun _ => Q .none, rt := Q } (startP ["web", "n", "table", "found", "late", "r", "number", "i", "j", "row", "x"] as) := EV.v_web_polynomial
theorem len_shifted_poly : ∀ as Q, S_shifted_poly as Q → as.length = 2 := EV.len_shifted_poly
theorem v_shifted_poly : ∀ as Q, S_shifted_poly as Q → p_shifted_poly { nx := fun _ => Q .none, rt := Q } (startP ["poly", "t", "u", "w", "found", "degree", "k", "late", "i", "x", "power", "lap"] as) := EV.v_shifted_poly
theorem len_sign_changes : ∀ as Q, S_sign_changes as Q → as.length = 1 := EV.len_sign_changes
theorem v_sign_changes : ∀ as Q, S_sign_changes as Q → p_sign_changes { nx := fun _ => Q .none, rt := Q } (startP ["row", "signs", "x", "k"] as) := EV.v_sign_changes
theorem len_roots_above : ∀ as Q, S_roots_above as Q → as.length = 2 := EV.len_roots_above
theorem v_roots_above : ∀ as Q, S_roots_above as Q → p_roots_above { nx := fun _ => Q .none, rt := Q } (startP ["poly", "t"] as) := EV.v_roots_above
theorem len_roots_at : ∀ as Q, S_roots_at as Q → as.length = 2 := EV.len_roots_at
theorem v_roots_at : ∀ as Q, S_roots_at as Q → p_roots_at { nx := fun _ => Q .none, rt := Q } (startP ["poly", "t", "row", "k", "x"] as) := EV.v_roots_at
theorem len__law_draw_web : ∀ as Q, S__law_draw_web as Q → as.length = 2 := EV.len__law_draw_web
theorem v__law_draw_web : ∀ as Q, S__law_draw_web as Q → p__law_draw_web { nx := fun _ => Q .none, rt := Q } (startP ["source", "most", "n", "road", "ties", "b", "a", "keep"] as) := EV.v__law_draw_web
theorem len__law_tied : ∀ as Q, S__law_tied as Q → as.length = 3 := EV.len__law_tied
theorem v__law_tied : ∀ as Q, S__law_tied as Q → p__law_tied { nx := fun _ => Q .none, rt := Q } (startP ["web", "a", "b"] as) := EV.v__law_tied
theorem len__law_table : ∀ as Q, S__law_table as Q → as.length = 1 := EV.len__law_table
theorem v__law_table : ∀ as Q, S__law_table as Q → p__law_table { nx := fun _ => Q .none, rt := Q } (startP ["web", "a", "b"] as) := EV.v__law_table
theorem len__law_polynomial : ∀ as Q, S__law_polynomial as Q → as.length = 1 := EV.len__law_polynomial
theorem v__law_polynomial : ∀ as Q, S__law_polynomial as Q → p__law_polynomial { nx := fun _ => Q .none, rt := Q } (startP ["web", "n", "table", "walks", "late", "r", "found", "a", "b", "c", "i"] as) := EV.v__law_polynomial
theorem len__law_shifted : ∀ as Q, S__law_shifted as Q → as.length = 2 := EV.len__law_shifted
theorem v__law_shifted : ∀ as Q, S__law_shifted as Q → p__law_shifted { nx := fun _ => Q .none, rt := Q } (startP ["poly", "t", "row", "number", "late", "power", "k", "x"] as) := EV.v__law_shifted
theorem len__law_above : ∀ as Q, S__law_above as Q → as.length = 2 := EV.len__law_above
theorem v__law_above : ∀ as Q, S__law_above as Q → p__law_above { nx := fun _ => Q .none, rt := Q } (startP ["poly", "t", "signs", "x", "k"] as) := EV.v__law_above
theorem len__law_here : ∀ as Q, S__law_here as Q → as.length = 2 := EV.len__law_here
theorem v__law_here : ∀ as Q, S__law_here as Q → p__law_here { nx := fun _ => Q .none, rt := Q } (startP ["poly", "t", "k", "x"] as) := EV.v__law_here
end K80
set_option Elab.async false
set_option linter.all false
set_option maxRecDepth 100000
set_option maxHeartbeats 4000000

namespace K80
open PySem PySem.Spec PyProof.Rows L2 L3
theorem all_mk {P : Program} {w : World} {K : PySem.W.Frag} {h : Heap} {mg : Str → Option Value} {fa f1 f2 f3 f4 f5 f6 f7 f8 f9 f10 f11 f12 f13 f14 f15 f16 f17 f18 f19 f20 f21 f22 f23 : Addr} (X : K.In h) (G : h.Ns mainGlobals mg) (hfa : mg "law" = some (.ref fa))
    {od1 an1 od2 an2 od3 an3 od4 an4 od5 an5 od6 an6 od7 an7 od8 an8 od9 an9 od10 an10 od11 an11 od12 an12 od13 an13 od14 an14 od15 an15 od16 an16 od17 an17 od18 an18 od19 an19 od20 an20 od21 an21 od22 an22 od23 an23 : Option Addr} {sl1 sl2 sl3 sl4 sl5 sl6 sl7 sl8 sl9 sl10 sl11 sl12 sl13 sl14 sl15 sl16 sl17 sl18 sl19 sl20 sl21 sl22 sl23 : Array (Option Value)} {oc1 kV1 dc1 pm1 cd1 ct1 oc2 kV2 dc2 pm2 cd2 ct2 oc3 kV3 dc3 pm3 cd3 ct3 oc4 kV4 dc4 pm4 cd4 ct4 oc5 kV5 dc5 pm5 cd5 ct5 oc6 kV6 dc6 pm6 cd6 ct6 oc7 kV7 dc7 pm7 cd7 ct7 oc8 kV8 dc8 pm8 cd8 ct8 oc9 kV9 dc9 pm9 cd9 ct9 oc10 kV10 dc10 pm10 cd10 ct10 oc11 kV11 dc11 pm11 cd11 ct11 oc12 kV12 dc12 pm12 cd12 ct12 oc13 kV13 dc13 pm13 cd13 ct13 oc14 kV14 dc14 pm14 cd14 ct14 oc15 kV15 dc15 pm15 cd15 ct15 oc16 kV16 dc16 pm16 cd16 ct16 oc17 kV17 dc17 pm17 cd17 ct17 oc18 kV18 dc18 pm18 cd18 ct18 oc19 kV19 dc19 pm19 cd19 ct19 oc20 kV20 dc20 pm20 cd20 ct20 oc21 kV21 dc21 pm21 cd21 ct21 oc22 kV22 dc22 pm22 cd22 ct22 oc23 kV23 dc23 pm23 cd23 ct23 : Value}
    (a1 : PySem.W.nsIn K mainGlobals "tied_table" = some (some (.ref f1))) (l1 : K.lookup f1 = some ⟨oc1, od1, .func (PySem.W.fnOf "tied_table" "tied_table" (defArgs s_tied_table) (defBody s_tied_table) (defScope s_tied_table) .none kV1 dc1 pm1 an1 cd1 ct1), sl1⟩) (c1 : PySem.W.codeIn K cd1 "tied_table" = true) (k1 : PySem.W.keepIn K (.ref f1) = true)
    (a2 : PySem.W.nsIn K mainGlobals "table_product" = some (some (.ref f2))) (l2 : K.lookup f2 = some ⟨oc2, od2, .func (PySem.W.fnOf "table_product" "table_product" (defArgs s_table_product) (defBody s_table_product) (defScope s_table_product) .none kV2 dc2 pm2 an2 cd2 ct2), sl2⟩) (c2 : PySem.W.codeIn K cd2 "table_product" = true) (k2 : PySem.W.keepIn K (.ref f2) = true)
    (a3 : PySem.W.nsIn K mainGlobals "diagonal_sum" = some (some (.ref f3))) (l3 : K.lookup f3 = some ⟨oc3, od3, .func (PySem.W.fnOf "diagonal_sum" "diagonal_sum" (defArgs s_diagonal_sum) (defBody s_diagonal_sum) (defScope s_diagonal_sum) .none kV3 dc3 pm3 an3 cd3 ct3), sl3⟩) (c3 : PySem.W.codeIn K cd3 "diagonal_sum" = true) (k3 : PySem.W.keepIn K (.ref f3) = true)
    (a4 : PySem.W.nsIn K mainGlobals "web_polynomial" = some (some (.ref f4))) (l4 : K.lookup f4 = some ⟨oc4, od4, .func (PySem.W.fnOf "web_polynomial" "web_polynomial" (defArgs s_web_polynomial) (defBody s_web_polynomial) (defScope s_web_polynomial) .none kV4 dc4 pm4 an4 cd4 ct4), sl4⟩) (c4 : PySem.W.codeIn K cd4 "web_polynomial" = true) (k4 : PySem.W.keepIn K (.ref f4) = true)
    (a5 : PySem.W.nsIn K mainGlobals "shifted_poly" = some (some (.ref f5))) (l5 : K.lookup f5 = some ⟨oc5, od5, .func (PySem.W.fnOf "shifted_poly" "shifted_poly" (defArgs s_shifted_poly) (defBody s_shifted_poly) (defScope s_shifted_poly) .none kV5 dc5 pm5 an5 cd5 ct5), sl5⟩) (c5 : PySem.W.codeIn K cd5 "shifted_poly" = true) (k5 : PySem.W.keepIn K (.ref f5) = true)
    (a6 : PySem.W.nsIn K mainGlobals "sign_changes" = some (some (.ref f6))) (l6 : K.lookup f6 = some ⟨oc6, od6, .func (PySem.W.fnOf "sign_changes" "sign_changes" (defArgs s_sign_changes) (defBody s_sign_changes) (defScope s_sign_changes) .none kV6 dc6 pm6 an6 cd6 ct6), sl6⟩) (c6 : PySem.W.codeIn K cd6 "sign_changes" = true) (k6 : PySem.W.keepIn K (.ref f6) = true)
    (a7 : PySem.W.nsIn K mainGlobals "roots_above" = some (some (.ref f7))) (l7 : K.lookup f7 = some ⟨oc7, od7, .func (PySem.W.fnOf "roots_above" "roots_above" (defArgs s_roots_above) (defBody s_roots_above) (defScope s_roots_above) .none kV7 dc7 pm7 an7 cd7 ct7), sl7⟩) (c7 : PySem.W.codeIn K cd7 "roots_above" = true) (k7 : PySem.W.keepIn K (.ref f7) = true)
    (a8 : PySem.W.nsIn K mainGlobals "roots_at" = some (some (.ref f8))) (l8 : K.lookup f8 = some ⟨oc8, od8, .func (PySem.W.fnOf "roots_at" "roots_at" (defArgs s_roots_at) (defBody s_roots_at) (defScope s_roots_at) .none kV8 dc8 pm8 an8 cd8 ct8), sl8⟩) (c8 : PySem.W.codeIn K cd8 "roots_at" = true) (k8 : PySem.W.keepIn K (.ref f8) = true)
    (a9 : PySem.W.nsIn K mainGlobals "root_paper" = some (some (.ref f9))) (l9 : K.lookup f9 = some ⟨oc9, od9, .func (PySem.W.fnOf "root_paper" "root_paper" (defArgs s_root_paper) (defBody s_root_paper) (defScope s_root_paper) .none kV9 dc9 pm9 an9 cd9 ct9), sl9⟩) (c9 : PySem.W.codeIn K cd9 "root_paper" = true) (k9 : PySem.W.keepIn K (.ref f9) = true)
    (a10 : PySem.W.nsIn K mainGlobals "is_count_from" = some (some (.ref f10))) (l10 : K.lookup f10 = some ⟨oc10, od10, .func (PySem.W.fnOf "is_count_from" "is_count_from" (defArgs s_is_count_from) (defBody s_is_count_from) (defScope s_is_count_from) .none kV10 dc10 pm10 an10 cd10 ct10), sl10⟩) (c10 : PySem.W.codeIn K cd10 "is_count_from" = true) (k10 : PySem.W.keepIn K (.ref f10) = true)
    (a11 : PySem.W.nsIn K mainGlobals "judge_roots" = some (some (.ref f11))) (l11 : K.lookup f11 = some ⟨oc11, od11, .func (PySem.W.fnOf "judge_roots" "judge_roots" (defArgs s_judge_roots) (defBody s_judge_roots) (defScope s_judge_roots) .none kV11 dc11 pm11 an11 cd11 ct11), sl11⟩) (c11 : PySem.W.codeIn K cd11 "judge_roots" = true) (k11 : PySem.W.keepIn K (.ref f11) = true)
    (a12 : PySem.W.nsIn K mainGlobals "_law_open_cells" = some (some (.ref f12))) (l12 : K.lookup f12 = some ⟨oc12, od12, .func (PySem.W.fnOf "_law_open_cells" "_law_open_cells" (defArgs s__law_open_cells) (defBody s__law_open_cells) (defScope s__law_open_cells) .none kV12 dc12 pm12 an12 cd12 ct12), sl12⟩) (c12 : PySem.W.codeIn K cd12 "_law_open_cells" = true) (k12 : PySem.W.keepIn K (.ref f12) = true)
    (a13 : PySem.W.nsIn K mainGlobals "_law_pick" = some (some (.ref f13))) (l13 : K.lookup f13 = some ⟨oc13, od13, .func (PySem.W.fnOf "_law_pick" "_law_pick" (defArgs s__law_pick) (defBody s__law_pick) (defScope s__law_pick) .none kV13 dc13 pm13 an13 cd13 ct13), sl13⟩) (c13 : PySem.W.codeIn K cd13 "_law_pick" = true) (k13 : PySem.W.keepIn K (.ref f13) = true)
    (a14 : PySem.W.nsIn K mainGlobals "_law_draw_web" = some (some (.ref f14))) (l14 : K.lookup f14 = some ⟨oc14, od14, .func (PySem.W.fnOf "_law_draw_web" "_law_draw_web" (defArgs s__law_draw_web) (defBody s__law_draw_web) (defScope s__law_draw_web) .none kV14 dc14 pm14 an14 cd14 ct14), sl14⟩) (c14 : PySem.W.codeIn K cd14 "_law_draw_web" = true) (k14 : PySem.W.keepIn K (.ref f14) = true)
    (a15 : PySem.W.nsIn K mainGlobals "_law_tied" = some (some (.ref f15))) (l15 : K.lookup f15 = some ⟨oc15, od15, .func (PySem.W.fnOf "_law_tied" "_law_tied" (defArgs s__law_tied) (defBody s__law_tied) (defScope s__law_tied) .none kV15 dc15 pm15 an15 cd15 ct15), sl15⟩) (c15 : PySem.W.codeIn K cd15 "_law_tied" = true) (k15 : PySem.W.keepIn K (.ref f15) = true)
    (a16 : PySem.W.nsIn K mainGlobals "_law_table" = some (some (.ref f16))) (l16 : K.lookup f16 = some ⟨oc16, od16, .func (PySem.W.fnOf "_law_table" "_law_table" (defArgs s__law_table) (defBody s__law_table) (defScope s__law_table) .none kV16 dc16 pm16 an16 cd16 ct16), sl16⟩) (c16 : PySem.W.codeIn K cd16 "_law_table" = true) (k16 : PySem.W.keepIn K (.ref f16) = true)
    (a17 : PySem.W.nsIn K mainGlobals "_law_polynomial" = some (some (.ref f17))) (l17 : K.lookup f17 = some ⟨oc17, od17, .func (PySem.W.fnOf "_law_polynomial" "_law_polynomial" (defArgs s__law_polynomial) (defBody s__law_polynomial) (defScope s__law_polynomial) .none kV17 dc17 pm17 an17 cd17 ct17), sl17⟩) (c17 : PySem.W.codeIn K cd17 "_law_polynomial" = true) (k17 : PySem.W.keepIn K (.ref f17) = true)
    (a18 : PySem.W.nsIn K mainGlobals "_law_shifted" = some (some (.ref f18))) (l18 : K.lookup f18 = some ⟨oc18, od18, .func (PySem.W.fnOf "_law_shifted" "_law_shifted" (defArgs s__law_shifted) (defBody s__law_shifted) (defScope s__law_shifted) .none kV18 dc18 pm18 an18 cd18 ct18), sl18⟩) (c18 : PySem.W.codeIn K cd18 "_law_shifted" = true) (k18 : PySem.W.keepIn K (.ref f18) = true)
    (a19 : PySem.W.nsIn K mainGlobals "_law_above" = some (some (.ref f19))) (l19 : K.lookup f19 = some ⟨oc19, od19, .func (PySem.W.fnOf "_law_above" "_law_above" (defArgs s__law_above) (defBody s__law_above) (defScope s__law_above) .none kV19 dc19 pm19 an19 cd19 ct19), sl19⟩) (c19 : PySem.W.codeIn K cd19 "_law_above" = true) (k19 : PySem.W.keepIn K (.ref f19) = true)
    (a20 : PySem.W.nsIn K mainGlobals "_law_here" = some (some (.ref f20))) (l20 : K.lookup f20 = some ⟨oc20, od20, .func (PySem.W.fnOf "_law_here" "_law_here" (defArgs s__law_here) (defBody s__law_here) (defScope s__law_here) .none kV20 dc20 pm20 an20 cd20 ct20), sl20⟩) (c20 : PySem.W.codeIn K cd20 "_law_here" = true) (k20 : PySem.W.keepIn K (.ref f20) = true)
    (a21 : PySem.W.nsIn K mainGlobals "_law_is_from" = some (some (.ref f21))) (l21 : K.lookup f21 = some ⟨oc21, od21, .func (PySem.W.fnOf "_law_is_from" "_law_is_from" (defArgs s__law_is_from) (defBody s__law_is_from) (defScope s__law_is_from) .none kV21 dc21 pm21 an21 cd21 ct21), sl21⟩) (c21 : PySem.W.codeIn K cd21 "_law_is_from" = true) (k21 : PySem.W.keepIn K (.ref f21) = true)
    (a22 : PySem.W.nsIn K mainGlobals "_law_fault" = some (some (.ref f22))) (l22 : K.lookup f22 = some ⟨oc22, od22, .func (PySem.W.fnOf "_law_fault" "_law_fault" (defArgs s__law_fault) (defBody s__law_fault) (defScope s__law_fault) .none kV22 dc22 pm22 an22 cd22 ct22), sl22⟩) (c22 : PySem.W.codeIn K cd22 "_law_fault" = true) (k22 : PySem.W.keepIn K (.ref f22) = true)
    (a23 : PySem.W.nsIn K mainGlobals "law" = some (some (.ref f23))) (l23 : K.lookup f23 = some ⟨oc23, od23, .func (PySem.W.fnOf "law" "law" (defArgs s_law) (defBody s_law) (defScope s_law) .none kV23 dc23 pm23 an23 cd23 ct23), sl23⟩) (c23 : PySem.W.codeIn K cd23 "law" = true) (k23 : PySem.W.keepIn K (.ref f23) = true)
    (z_abs : PySem.W.nsIn K mainGlobals "abs" = some none)
    (z_bool : PySem.W.nsIn K mainGlobals "bool" = some none)
    (z_enumerate : PySem.W.nsIn K mainGlobals "enumerate" = some none)
    (z_int : PySem.W.nsIn K mainGlobals "int" = some none)
    (z_isinstance : PySem.W.nsIn K mainGlobals "isinstance" = some none)
    (z_len : PySem.W.nsIn K mainGlobals "len" = some none)
    (z_list : PySem.W.nsIn K mainGlobals "list" = some none)
    (z_max : PySem.W.nsIn K mainGlobals "max" = some none)
    (z_min : PySem.W.nsIn K mainGlobals "min" = some none)
    (z_range : PySem.W.nsIn K mainGlobals "range" = some none)
    (z_repr : PySem.W.nsIn K mainGlobals "repr" = some none)
    (z_sorted : PySem.W.nsIn K mainGlobals "sorted" = some none)
    (z_str : PySem.W.nsIn K mainGlobals "str" = some none)
    (z_sum : PySem.W.nsIn K mainGlobals "sum" = some none)
    (z_tuple : PySem.W.nsIn K mainGlobals "tuple" = some none)
    : ∃ fd : FuncData, (∀ (s : Shared) (v : Value), BindsTo s fd ⟨[v], []⟩ [("script", v)]) ∧ ∀ base : Heap, K.In base → base.Ns mainGlobals mg → FnS P w K mg base 5 fa fd ["script"] (spLaw K) := by
  have e := hfa.symm.trans (PySem.W.mg_of X G a23)
  cases e
  refine ⟨PySem.W.fnOf "law" "law" (defArgs s_law) (defBody s_law) (defScope s_law) .none kV23 dc23 pm23 an23 cd23 ct23, fun s v => .of_eq rfl, fun base _ _ => ?_⟩
  have T : BI mg := ⟨PySem.W.mg_none_of X G z_abs, PySem.W.mg_none_of X G z_bool, PySem.W.mg_none_of X G z_enumerate, PySem.W.mg_none_of X G z_int, PySem.W.mg_none_of X G z_isinstance, PySem.W.mg_none_of X G z_len, PySem.W.mg_none_of X G z_list, PySem.W.mg_none_of X G z_max, PySem.W.mg_none_of X G z_min, PySem.W.mg_none_of X G z_range, PySem.W.mg_none_of X G z_repr, PySem.W.mg_none_of X G z_sorted, PySem.W.mg_none_of X G z_str, PySem.W.mg_none_of X G z_sum, PySem.W.mg_none_of X G z_tuple⟩
  have G1 := fun_mk (st := s_tied_table) l1 c1 k1
  have b1 := G1.binds (ps := ["web"]) fun _ _ _ _ _ _ us hl => match us, hl with | [_], _ => rfl
  have F_tied_table : FnQ P w K mg base "tied_table" 1 S_tied_table := tied_fn (k := 0) G1 sc_tied_table rfl (PySem.W.mg_of X G a1) b1 fun cdv A outer s H hr => w_tied_table T cdv A outer s H hr
  have G2 := fun_mk (st := s_table_product) l2 c2 k2
  have b2 := G2.binds (ps := ["one", "other"]) fun _ _ _ _ _ _ us hl => match us, hl with | [_, _], _ => rfl
  have F_table_product : FnQ P w K mg base "table_product" 1 S_table_product := fn_q G2 sc_table_product (PySem.W.mg_of X G a2) b2 len_table_product (fun cdv A outer s H hr hgd => w_table_product T cdv A outer s H hr hgd) v_table_product
  have G3 := fun_mk (st := s_diagonal_sum) l3 c3 k3
  have b3 := G3.binds (ps := ["rows"]) fun _ _ _ _ _ _ us hl => match us, hl with | [_], _ => rfl
  have F_diagonal_sum : FnQ P w K mg base "diagonal_sum" 1 S_diagonal_sum := fn_q G3 sc_diagonal_sum (PySem.W.mg_of X G a3) b3 len_diagonal_sum (fun cdv A outer s H hr hgd => w_diagonal_sum T cdv A outer s H hr hgd) v_diagonal_sum
  have G4 := fun_mk (st := s_web_polynomial) l4 c4 k4
  have b4 := G4.binds (ps := ["web"]) fun _ _ _ _ _ _ us hl => match us, hl with | [_], _ => rfl
  have F_web_polynomial : FnQ P w K mg base "web_polynomial" 2 S_web_polynomial := fn_q G4 sc_web_polynomial (PySem.W.mg_of X G a4) b4 len_web_polynomial (fun cdv A outer s H hr hgd => w_web_polynomial T F_tied_table F_table_product F_diagonal_sum cdv A outer s H hr hgd) v_web_polynomial
  have G5 := fun_mk (st := s_shifted_poly) l5 c5 k5
  have b5 := G5.binds (ps := ["poly", "t"]) fun _ _ _ _ _ _ us hl => match us, hl with | [_, _], _ => rfl
  have F_shifted_poly : FnQ P w K mg base "shifted_poly" 1 S_shifted_poly := fn_q G5 sc_shifted_poly (PySem.W.mg_of X G a5) b5 len_shifted_poly (fun cdv A outer s H hr hgd => w_shifted_poly T cdv A outer s H hr hgd) v_shifted_poly
  have G6 := fun_mk (st := s_sign_changes) l6 c6 k6
  have b6 := G6.binds (ps := ["row"]) fun _ _ _ _ _ _ us hl => match us, hl with | [_], _ => rfl
  have F_sign_changes : FnQ P w K mg base "sign_changes" 1 S_sign_changes := fn_q G6 sc_sign_changes (PySem.W.mg_of X G a6) b6 len_sign_changes (fun cdv A outer s H hr hgd => w_sign_changes T cdv A outer s H hr hgd) v_sign_changes
  have G7 := fun_mk (st := s_roots_above) l7 c7 k7
  have b7 := G7.binds (ps := ["poly", "t"]) fun _ _ _ _ _ _ us hl => match us, hl with | [_, _], _ => rfl
  have F_roots_above : FnQ P w K mg base "roots_above" 2 S_roots_above := fn_q G7 sc_roots_above (PySem.W.mg_of X G a7) b7 len_roots_above (fun cdv A outer s H hr hgd => w_roots_above T F_shifted_poly F_sign_changes cdv A outer s H hr hgd) v_roots_above
  have G8 := fun_mk (st := s_roots_at) l8 c8 k8
  have b8 := G8.binds (ps := ["poly", "t"]) fun _ _ _ _ _ _ us hl => match us, hl with | [_, _], _ => rfl
  have F_roots_at : FnQ P w K mg base "roots_at" 2 S_roots_at := fn_q G8 sc_roots_at (PySem.W.mg_of X G a8) b8 len_roots_at (fun cdv A outer s H hr hgd => w_roots_at T F_shifted_poly cdv A outer s H hr hgd) v_roots_at
  have G9 := fun_mk (st := s_root_paper) l9 c9 k9
  have b9 := G9.binds (ps := ["web", "t"]) fun _ _ _ _ _ _ us hl => match us, hl with | [_, _], _ => rfl
  have F_root_paper : FnQ P w K mg base "root_paper" 3 S_root_paper := fn_q G9 sc_root_paper (PySem.W.mg_of X G a9) b9 len_root_paper (fun cdv A outer s H hr hgd => w_root_paper T F_web_polynomial F_roots_at F_roots_above cdv A outer s H hr hgd) v_root_paper
  have G10 := fun_mk (st := s_is_count_from) l10 c10 k10
  have b10 := G10.binds (ps := ["value", "least"]) fun _ _ _ _ _ _ us hl => match us, hl with | [_, _], _ => rfl
  have F_is_count_from : FnQ P w K mg base "is_count_from" 1 S_is_count_from := fn_q G10 sc_is_count_from (PySem.W.mg_of X G a10) b10 len_is_count_from (fun cdv A outer s H hr hgd => w_is_count_from T cdv A outer s H hr hgd) v_is_count_from
  have G11 := fun_mk (st := s_judge_roots) l11 c11 k11
  have b11 := G11.binds (ps := ["web", "t", "value"]) fun _ _ _ _ _ _ us hl => match us, hl with | [_, _, _], _ => rfl
  have F_judge_roots : FnQ P w K mg base "judge_roots" 4 S_judge_roots := fn_q G11 sc_judge_roots (PySem.W.mg_of X G a11) b11 len_judge_roots (fun cdv A outer s H hr hgd => w_judge_roots T F_is_count_from F_root_paper cdv A outer s H hr hgd) v_judge_roots
  have G12 := fun_mk (st := s__law_open_cells) l12 c12 k12
  have b12 := G12.binds (ps := ["script"]) fun _ _ _ _ _ _ us hl => match us, hl with | [_], _ => rfl
  have F__law_open_cells : FnAt P w K mg base "_law_open_cells" 1 (spOpen K) := open_fn (k := 0) G12 sc__law_open_cells rfl (PySem.W.mg_of X G a12) b12 fun cdv A outer s H hr => w__law_open_cells T cdv A outer s H hr
  have G13 := fun_mk (st := s__law_pick) l13 c13 k13
  have b13 := G13.binds (ps := ["source", "most"]) fun _ _ _ _ _ _ us hl => match us, hl with | [_, _], _ => rfl
  have F__law_pick : FnQ P w K mg base "_law_pick" 1 S_pick := pick_fn (k := 0) G13 sc__law_pick rfl (PySem.W.mg_of X G a13) b13 fun cdv A outer s H hr => w__law_pick T cdv A outer s H hr
  have G14 := fun_mk (st := s__law_draw_web) l14 c14 k14
  have b14 := G14.binds (ps := ["source", "most"]) fun _ _ _ _ _ _ us hl => match us, hl with | [_, _], _ => rfl
  have F__law_draw_web : FnQ P w K mg base "_law_draw_web" 2 S__law_draw_web := fn_q G14 sc__law_draw_web (PySem.W.mg_of X G a14) b14 len__law_draw_web (fun cdv A outer s H hr hgd => w__law_draw_web T F__law_pick cdv A outer s H hr hgd) v__law_draw_web
  have G15 := fun_mk (st := s__law_tied) l15 c15 k15
  have b15 := G15.binds (ps := ["web", "a", "b"]) fun _ _ _ _ _ _ us hl => match us, hl with | [_, _, _], _ => rfl
  have F__law_tied : FnQ P w K mg base "_law_tied" 1 S__law_tied := fn_q G15 sc__law_tied (PySem.W.mg_of X G a15) b15 len__law_tied (fun cdv A outer s H hr hgd => w__law_tied T cdv A outer s H hr hgd) v__law_tied
  have G16 := fun_mk (st := s__law_table) l16 c16 k16
  have b16 := G16.binds (ps := ["web"]) fun _ _ _ _ _ _ us hl => match us, hl with | [_], _ => rfl
  have F__law_table : FnQ P w K mg base "_law_table" 2 S__law_table := fn_q G16 sc__law_table (PySem.W.mg_of X G a16) b16 len__law_table (fun cdv A outer s H hr hgd => w__law_table T F__law_tied cdv A outer s H hr hgd) v__law_table
  have G17 := fun_mk (st := s__law_polynomial) l17 c17 k17
  have b17 := G17.binds (ps := ["web"]) fun _ _ _ _ _ _ us hl => match us, hl with | [_], _ => rfl
  have F__law_polynomial : FnQ P w K mg base "_law_polynomial" 3 S__law_polynomial := fn_q G17 sc__law_polynomial (PySem.W.mg_of X G a17) b17 len__law_polynomial (fun cdv A outer s H hr hgd => w__law_polynomial T F__law_table cdv A outer s H hr hgd) v__law_polynomial
  have G18 := fun_mk (st := s__law_shifted) l18 c18 k18
  have b18 := G18.binds (ps := ["poly", "t"]) fun _ _ _ _ _ _ us hl => match us, hl with | [_, _], _ => rfl
  have F__law_shifted : FnQ P w K mg base "_law_shifted" 1 S__law_shifted := fn_q G18 sc__law_shifted (PySem.W.mg_of X G a18) b18 len__law_shifted (fun cdv A outer s H hr hgd => w__law_shifted T cdv A outer s H hr hgd) v__law_shifted
  have G19 := fun_mk (st := s__law_above) l19 c19 k19
  have b19 := G19.binds (ps := ["poly", "t"]) fun _ _ _ _ _ _ us hl => match us, hl with | [_, _], _ => rfl
  have F__law_above : FnQ P w K mg base "_law_above" 2 S__law_above := fn_q G19 sc__law_above (PySem.W.mg_of X G a19) b19 len__law_above (fun cdv A outer s H hr hgd => w__law_above T F__law_shifted cdv A outer s H hr hgd) v__law_above
  have G20 := fun_mk (st := s__law_here) l20 c20 k20
  have b20 := G20.binds (ps := ["poly", "t"]) fun _ _ _ _ _ _ us hl => match us, hl with | [_, _], _ => rfl
  have F__law_here : FnQ P w K mg base "_law_here" 2 S__law_here := fn_q G20 sc__law_here (PySem.W.mg_of X G a20) b20 len__law_here (fun cdv A outer s H hr hgd => w__law_here T F__law_shifted cdv A outer s H hr hgd) v__law_here
  have G21 := fun_mk (st := s__law_is_from) l21 c21 k21
  have b21 := G21.binds (ps := ["value", "least"]) fun _ _ _ _ _ _ us hl => match us, hl with | [_, _], _ => rfl
  have F__law_is_from : FnQ P w K mg base "_law_is_from" 1 S__law_is_from := fn_q G21 sc__law_is_from (PySem.W.mg_of X G a21) b21 len__law_is_from (fun cdv A outer s H hr hgd => w__law_is_from T cdv A outer s H hr hgd) v__law_is_from
  have G22 := fun_mk (st := s__law_fault) l22 c22 k22
  have b22 := G22.binds (ps := ["told", "value"]) fun _ _ _ _ _ _ us hl => match us, hl with | [_, _], _ => rfl
  have F__law_fault : FnQ P w K mg base "_law_fault" 2 S__law_fault := fn_q G22 sc__law_fault (PySem.W.mg_of X G a22) b22 len__law_fault (fun cdv A outer s H hr hgd => w__law_fault T F__law_is_from cdv A outer s H hr hgd) v__law_fault
  have G23 := fun_mk (st := s_law) l23 c23 k23
  exact law_q G23 sc_law rfl (by decide) (fun cdv A outer s H hr hgd => w_law T F__law_draw_web F__law_polynomial F__law_pick F__law_above F__law_here F_root_paper F_judge_roots F__law_fault F__law_open_cells cdv A outer s H hr hgd) v_law
end K80
open PySem PySem.W PyProof.Rows
set_option maxHeartbeats 0 in
theorem PySem.Challenge.cw_evenlytied_k80_root_papers_judged_holds : PySem.Challenge.rw_evenlytied_k80_root_papers_judged.Holds := by
  w_on; o_law; k_head; (case hw => w_witness2)
  k_fill
  refine L3.walk_ofG (l := PySem.Challenge.rw_evenlytied_k80_root_papers_judged) (k := 5) (x := "script") rfl rfl ⟨rfl, by decide, by decide⟩ (fun w h Y => PySem.W.kIn_of Y) ?F
  case F =>
    intro w mg fa h KX G hmg
    refine' K80.all_mk KX G hmg ?a1 ?l1 ?c1 ?k1 ?a2 ?l2 ?c2 ?k2 ?a3 ?l3 ?c3 ?k3 ?a4 ?l4 ?c4 ?k4 ?a5 ?l5 ?c5 ?k5 ?a6 ?l6 ?c6 ?k6 ?a7 ?l7 ?c7 ?k7 ?a8 ?l8 ?c8 ?k8 ?a9 ?l9 ?c9 ?k9 ?a10 ?l10 ?c10 ?k10 ?a11 ?l11 ?c11 ?k11 ?a12 ?l12 ?c12 ?k12 ?a13 ?l13 ?c13 ?k13 ?a14 ?l14 ?c14 ?k14 ?a15 ?l15 ?c15 ?k15 ?a16 ?l16 ?c16 ?k16 ?a17 ?l17 ?c17 ?k17 ?a18 ?l18 ?c18 ?k18 ?a19 ?l19 ?c19 ?k19 ?a20 ?l20 ?c20 ?k20 ?a21 ?l21 ?c21 ?k21 ?a22 ?l22 ?c22 ?k22 ?a23 ?l23 ?c23 ?k23 ?z_abs ?z_bool ?z_enumerate ?z_int ?z_isinstance ?z_len ?z_list ?z_max ?z_min ?z_range ?z_repr ?z_sorted ?z_str ?z_sum ?z_tuple
    (case a1 => k_is)
    (case l1 => k_is)
    (case c1 => k_is)
    (case k1 => k_is)
    (case a2 => k_is)
    (case l2 => k_is)
    (case c2 => k_is)
    (case k2 => k_is)
    (case a3 => k_is)
    (case l3 => k_is)
    (case c3 => k_is)
    (case k3 => k_is)
    (case a4 => k_is)
    (case l4 => k_is)
    (case c4 => k_is)
    (case k4 => k_is)
    (case a5 => k_is)
    (case l5 => k_is)
    (case c5 => k_is)
    (case k5 => k_is)
    (case a6 => k_is)
    (case l6 => k_is)
    (case c6 => k_is)
    (case k6 => k_is)
    (case a7 => k_is)
    (case l7 => k_is)
    (case c7 => k_is)
    (case k7 => k_is)
    (case a8 => k_is)
    (case l8 => k_is)
    (case c8 => k_is)
    (case k8 => k_is)
    (case a9 => k_is)
    (case l9 => k_is)
    (case c9 => k_is)
    (case k9 => k_is)
    (case a10 => k_is)
    (case l10 => k_is)
    (case c10 => k_is)
    (case k10 => k_is)
    (case a11 => k_is)
    (case l11 => k_is)
    (case c11 => k_is)
    (case k11 => k_is)
    (case a12 => k_is)
    (case l12 => k_is)
    (case c12 => k_is)
    (case k12 => k_is)
    (case a13 => k_is)
    (case l13 => k_is)
    (case c13 => k_is)
    (case k13 => k_is)
    (case a14 => k_is)
    (case l14 => k_is)
    (case c14 => k_is)
    (case k14 => k_is)
    (case a15 => k_is)
    (case l15 => k_is)
    (case c15 => k_is)
    (case k15 => k_is)
    (case a16 => k_is)
    (case l16 => k_is)
    (case c16 => k_is)
    (case k16 => k_is)
    (case a17 => k_is)
    (case l17 => k_is)
    (case c17 => k_is)
    (case k17 => k_is)
    (case a18 => k_is)
    (case l18 => k_is)
    (case c18 => k_is)
    (case k18 => k_is)
    (case a19 => k_is)
    (case l19 => k_is)
    (case c19 => k_is)
    (case k19 => k_is)
    (case a20 => k_is)
    (case l20 => k_is)
    (case c20 => k_is)
    (case k20 => k_is)
    (case a21 => k_is)
    (case l21 => k_is)
    (case c21 => k_is)
    (case k21 => k_is)
    (case a22 => k_is)
    (case l22 => k_is)
    (case c22 => k_is)
    (case k22 => k_is)
    (case a23 => k_is)
    (case l23 => k_is)
    (case c23 => k_is)
    (case k23 => k_is)
    (case z_abs => k_is)
    (case z_bool => k_is)
    (case z_enumerate => k_is)
    (case z_int => k_is)
    (case z_isinstance => k_is)
    (case z_len => k_is)
    (case z_list => k_is)
    (case z_max => k_is)
    (case z_min => k_is)
    (case z_range => k_is)
    (case z_repr => k_is)
    (case z_sorted => k_is)
    (case z_str => k_is)
    (case z_sum => k_is)
    (case z_tuple => k_is)
