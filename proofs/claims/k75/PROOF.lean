import PyProof.Rows.All
import Wide.All
import OpenK.AllK
import Wide.FinOn
import HandS.Exc
import HandS.ExcOwn
import HandS.ExcValue
import HandS.WordsExc
import HandS.IsInst
import HandS.ExcIs
import HandS.ForMost
import HandS.Wide
import HandS.WideBits
import HandS.Lambda
import HandS.Zip
import HandS.Style
import HandS.TupAny
import HandS.List
import HandS.Text
import HandS.SetFor
import HandS.Dict
import HandS.SetKeys
import HandS.Small
import HandS.More
import KE.KLam
import KE.SortKeyHeap
import KE.SortData
import HandS.Iter
import KE.KNestM
import HandS.EndTab
import HandS.ListItems
import HandS.Deep
import KE.DatumOrd
import HandS.Strs
import KE.KDictPairs
import PyProof.FactsAll.dict_3
import HandS.Sort
import HandS.HeadHook2
import HandS.ExcInit
import KE.KExcIs
import HandS.ExcField
import HandS.RaiseMore
import PyProof.ReprRoads
import KE.KIntText
import PyProof.Rows.StrOr
import PyProof.StrOps2
import HandS.Codes
import HandS.Steps
import HandS.SetTxt0
import KE.KEqNest
import HandS.Zip0
import KE.GoesZip
import KE.GoesMore
import KE.KDictList
import KE.KDictSum
import PySem.Challenge.RW_royaltree_k75_statements_bent_in_both
set_option Elab.async false
set_option linter.all false
set_option maxRecDepth 100000
namespace L2
open PySem PySem.Spec PyProof.Rows
def ExcAt (a : Addr) (cls : Value) (dx : Option Addr) : HO := .ext fun h => ∃ o, h.get? a = some o ∧ Zc cls dx o ∧ ∃ vs, o.data = .fields vs
section
variable {X : Cx} {pins : List (Addr × Obj)} {σ σ' : St} {H H' : Hp} {s sI : Shared}
end
def wNote (K : PySem.W.Frag) (c : Value) (i : Nat) (ts : Addr → Value → Option Addr → TS) (Wout : WX) (D : Ends) : WX := fun cls d σ H =>
  ∃ b, PySem.W.exmOne K cls c = some b ∧ (b = true → ∀ a, H a = none → ts a cls d { nx := fun σ' H' => H' a = none → D.nx (σ'.set i none) (upd H' a (ExcAt a cls d)), rt := fun _ _ => False } (σ.set i (some (.ref a))) H) ∧ (b = false → Wout cls d σ H)
section
variable {X : Cx} {x n : Str} {c : Value} {i : Nat} {body suite : List Stmt} {b₀ : Stmt} {np pos pos' : Pos} {tb : WX → TS} {ts : Addr → Value → Option Addr → TS} {Wout : WX}
end
def rIsiE (K : PySem.W.Frag) : List V → Hp → VK → Prop := fun xs H Q => ∃ (a D : Addr) (c : V) (u : Value) (b : Bool), xs = [.ref a, c] ∧ ExcC K D ∧ H a = some (ExcAt a (.ref D) none) ∧ ClsV c u ∧ PySem.W.kitOne K (.ref D) u = some b ∧ Q (.bl b) H
def rIsiTE (K : PySem.W.Frag) : List V → Hp → VK → Prop := fun xs H Q => ∃ (a D tp : Addr) (cs : List V) (us : List Value) (b : Bool), xs = [.ref a, .ref tp] ∧ ExcC K D ∧ H a = some (ExcAt a (.ref D) none) ∧ SqT K H tp cs ∧ Paired ClsV cs us ∧ PySem.W.kitAny K (.ref D) us = some b ∧ Q (.bl b) H
section
variable {X : Cx} {pins : List (Addr × Obj)} {σ : St} {H : Hp} {s : Shared}
end
end L2

namespace DL
open PySem PySem.Spec PyProof.Rows L2

inductive D where
  | non | bl (b : Bool) | int (i : Int) | str (x : Str)
  | lst (xs : List D) | tup (xs : List D)
  | rf (i : Nat) | st | ob (v : V) | scr (ns : List Int)

inductive Cell where
  | dead | lst (xs : List D) | dk (kvs : List (Key × D)) | ins (C : Addr) (fs : List (Str × D))
  /-- a caught exception of the class at C, without fields -/
  | exc (C : Addr)
  /-- a caught exception of the class at C, with fields -/
  | exf (C : Addr) (fs : List (Str × D))
  /-- the table at P of code objects of the name q -/
  | tbl (P : Addr) (q : Str)
  /-- a dict that is walked -/
  | lk (o : Obj) (ks : List (Key × V)) (kvs : List (Key × D))

structure Wd where
  M : List Cell
  n : Option Nat

structure Gh where
  al : List Addr
  st : Option (Addr × Addr)
  fr : List (Addr × HO)

def isOb : V → Bool
  | .ty _ => true
  | .ref _ => true
  | _ => false

mutual
inductive Rep (K : PySem.W.Frag) (G : Gh) (S : Hp) : V → D → Prop
  | non : Rep K G S .non .non
  | bl (b : Bool) : Rep K G S (.bl b) (.bl b)
  | int (i : Int) : Rep K G S (.int i) (.int i)
  | str (x : Str) : Rep K G S (.str x) (.str x)
  | lst {a : Addr} {xs : List V} {ds : List D} : S a = some (.lst xs) → RepAll K G S xs ds → Rep K G S (.ref a) (.lst ds)
  | tup {a : Addr} {xs : List V} {ds : List D} : SqT K S a xs → RepAll K G S xs ds → Rep K G S (.ref a) (.tup ds)
  | rf {a : Addr} {i : Nat} : G.al[i]? = some a → Rep K G S (.ref a) (.rf i)
  | st {a c : Addr} : G.st = some (a, c) → Rep K G S (.ref a) .st
  | ob {v : V} : isOb v = true → Rep K G S v (.ob v)
  | scr {a : Addr} {ns : List Int} : SqL K S a (ns.map V.int) → Rep K G S (.ref a) (.scr ns)
inductive RepAll (K : PySem.W.Frag) (G : Gh) (S : Hp) : List V → List D → Prop
  | nil : RepAll K G S [] []
  | cons {v : V} {vs : List V} {d : D} {ds : List D} : Rep K G S v d → RepAll K G S vs ds → RepAll K G S (v :: vs) (d :: ds)
end

theorem sqT_up {K : PySem.W.Frag} {H H' : Hp} (e : ∀ b o, H b = some o → H' b = some o) {a : Addr} {xs : List V} (h : SqT K H a xs) : SqT K H' a xs := by
  unfold SqT at h ⊢
  rcases h with (h | ⟨o, h⟩) | h
  · exact .inl (.inl (e _ _ h))
  · exact .inl (.inr ⟨o, e _ _ h⟩)
  · exact .inr h
structure Ext (G : Gh) (S : Hp) (G' : Gh) (S' : Hp) : Prop where
  al : ∃ r, G'.al = G.al ++ r
  st : ∀ p, G.st = some p → G'.st = some p
  fr : ∀ p ∈ G.fr, p ∈ G'.fr
  same : Same S S'
theorem Ext.refl (G : Gh) (S : Hp) : Ext G S G S := ⟨⟨[], by simp⟩, fun _ h => h, fun _ h => h, Same.refl S⟩
theorem Ext.trans {G G1 G2 : Gh} {S S1 S2 : Hp} (a : Ext G S G1 S1) (b : Ext G1 S1 G2 S2) : Ext G S G2 S2 := by
  obtain ⟨r1, e1⟩ := a.al
  obtain ⟨r2, e2⟩ := b.al
  exact ⟨⟨r1 ++ r2, by rw [e2, e1, List.append_assoc]⟩, fun p h => b.st p (a.st p h), fun p h => b.fr p (a.fr p h), a.same.trans b.same⟩
theorem Ext.alGet {G G' : Gh} {S S' : Hp} (x : Ext G S G' S') {i : Nat} {a : Addr} (h : G.al[i]? = some a) : G'.al[i]? = some a := by
  obtain ⟨r, e⟩ := x.al
  rw [e, List.getElem?_append_left (List.getElem?_eq_some_iff.mp h).1]
  exact h

section
variable {K : PySem.W.Frag} {G G' : Gh} {S S' : Hp}
mutual
theorem Rep.mono (x : Ext G S G' S') : ∀ {v : V} {d : D}, Rep K G S v d → Rep K G' S' v d
  | _, _, .non => .non
  | _, _, .bl b => .bl b
  | _, _, .int i => .int i
  | _, _, .str i => .str i
  | _, _, .lst h r => .lst (x.same _ _ h) (RepAll.mono x r)
  | _, _, .tup h r => .tup (sqT_up x.same h) (RepAll.mono x r)
  | _, _, .rf h => .rf (x.alGet h)
  | _, _, .st h => .st (x.st _ h)
  | _, _, .ob h => .ob h
  | _, _, .scr h => .scr (x.same.seq h)
theorem RepAll.mono (x : Ext G S G' S') : ∀ {v : List V} {d : List D}, RepAll K G S v d → RepAll K G' S' v d
  | _, _, .nil => .nil
  | _, _, .cons h r => .cons (Rep.mono x h) (RepAll.mono x r)
end
theorem RepAll.length : ∀ {vs : List V} {ds : List D}, RepAll K G S vs ds → vs.length = ds.length
  | _, _, .nil => rfl
  | _, _, .cons _ r => congrArg (· + 1) (RepAll.length r)
theorem RepAll.get : ∀ {vs : List V} {ds : List D} {i : Nat} {d : D}, RepAll K G S vs ds → ds[i]? = some d → ∃ v, vs[i]? = some v ∧ Rep K G S v d
  | _, _, _, _, .nil, h => by simp at h
  | _, _, 0, _, .cons h _, e => by
    simp at e
    subst e
    exact ⟨_, rfl, h⟩
  | _, _, i + 1, d, .cons _ r, e => by
    obtain ⟨v, h1, h2⟩ := RepAll.get (i := i) (d := d) r (by simpa using e)
    exact ⟨v, by simpa using h1, h2⟩
theorem RepAll.append : ∀ {vs ws : List V} {ds es : List D}, RepAll K G S vs ds → RepAll K G S ws es → RepAll K G S (vs ++ ws) (ds ++ es)
  | _, _, _, _, .nil, h => h
  | _, _, _, _, .cons h r, q => .cons h (RepAll.append r q)
theorem RepAll.set {v : V} {d : D} (h : Rep K G S v d) : ∀ {vs : List V} {ds : List D} (i : Nat), RepAll K G S vs ds → RepAll K G S (vs.set i v) (ds.set i d)
  | _, _, _, .nil => .nil
  | _, _, 0, .cons _ r => .cons h r
  | _, _, i + 1, .cons q r => .cons q (RepAll.set h i r)
theorem RepAll.drop : ∀ {vs : List V} {ds : List D} (i : Nat), RepAll K G S vs ds → RepAll K G S (vs.drop i) (ds.drop i)
  | _, _, 0, h => h
  | _, _, _ + 1, .nil => .nil
  | _, _, i + 1, .cons _ r => RepAll.drop i r
theorem RepAll.take : ∀ {vs : List V} {ds : List D} (i : Nat), RepAll K G S vs ds → RepAll K G S (vs.take i) (ds.take i)
  | _, _, 0, _ => .nil
  | _, _, _ + 1, .nil => .nil
  | _, _, i + 1, .cons h r => .cons h (RepAll.take i r)
theorem RepAll.eraseIdx : ∀ {vs : List V} {ds : List D} (i : Nat), RepAll K G S vs ds → RepAll K G S (vs.eraseIdx i) (ds.eraseIdx i)
  | _, _, _, .nil => .nil
  | _, _, 0, .cons _ r => r
  | _, _, i + 1, .cons h r => .cons h (RepAll.eraseIdx i r)
theorem RepAll.reverse {vs : List V} {ds : List D} (h : RepAll K G S vs ds) : RepAll K G S vs.reverse ds.reverse := by
  induction h using RepAll.rec (motive_1 := fun _ _ _ => True) with
  | nil => exact .nil
  | cons h r _ ih =>
    rw [List.reverse_cons, List.reverse_cons]
    exact RepAll.append ih (.cons h .nil)
  | _ => trivial
end

section
variable {K : PySem.W.Frag} {S : Hp} {al : List Addr} {st : Option (Addr × Addr)} {f f' : List (Addr × HO)}
mutual
theorem Rep.refr : ∀ {v : V} {d : D}, Rep K ⟨al, st, f⟩ S v d → Rep K ⟨al, st, f'⟩ S v d
  | _, _, .non => .non
  | _, _, .bl b => .bl b
  | _, _, .int i => .int i
  | _, _, .str i => .str i
  | _, _, .lst h r => .lst h (RepAll.refr r)
  | _, _, .tup h r => .tup h (RepAll.refr r)
  | _, _, .rf h => .rf h
  | _, _, .st h => .st h
  | _, _, .ob h => .ob h
  | _, _, .scr h => .scr h
theorem RepAll.refr : ∀ {v : List V} {d : List D}, RepAll K ⟨al, st, f⟩ S v d → RepAll K ⟨al, st, f'⟩ S v d
  | _, _, .nil => .nil
  | _, _, .cons h r => .cons (Rep.refr h) (RepAll.refr r)
end
end

def FsRep (K : PySem.W.Frag) (G : Gh) (S : Hp) {κ : Type} : List (κ × V) → List (κ × D) → Prop := Paired fun p q => p.1 = q.1 ∧ Rep K G S p.2 q.2
def CellOk (K : PySem.W.Frag) (G : Gh) (S H : Hp) (a : Addr) : Cell → Prop
  | .dead => H a ≠ none
  | .lst ds => S a = none ∧ ∃ xs, H a = some (.lst xs) ∧ RepAll K G S xs ds
  | .dk kvs => S a = none ∧ ∃ ks, H a = some (.dK ks) ∧ FsRep K G S ks kvs
  | .ins C fs => S a = none ∧ ∃ dx gs, H a = some (.ins C dx gs) ∧ FsRep K G S gs fs
  | .exc C => S a = none ∧ H a = some (ExcAt a (.ref C) none)
  | .exf C fs => S a = none ∧ ∃ dx gs, H a = some (ExcAt a (.ref C) (some dx)) ∧ S dx = some (.xd gs) ∧ FsRep K G S gs fs
  | .tbl P q => a = P ∧ S a = none ∧ ∃ ps : Array Value, H a = some (.tbl ps) ∧ TriplesOk ps.toList ∧ ∀ (pos : Pos) (cv : Value), codeAmong pos ps.toList = some cv → ∃ c, cv = .ref c ∧ S c = some (LamX.CodeO c q)
  | .lk o ks kvs => S a = none ∧ H a = some (.frz o (.dK ks)) ∧ FsRep K G S ks kvs
theorem CellOk.some {K : PySem.W.Frag} {G : Gh} {S H : Hp} {a : Addr} {c : Cell} (h : CellOk K G S H a c) : H a ≠ none := by
  cases c with
  | dead => exact h
  | lst ds => obtain ⟨_, xs, e, _⟩ := h; rw [e]; exact fun z => nomatch z
  | dk ds => obtain ⟨_, xs, e, _⟩ := h; rw [e]; exact fun z => nomatch z
  | ins C ds => obtain ⟨_, xs, _, e, _⟩ := h; rw [e]; exact fun z => nomatch z
  | exc C => rw [h.2]; exact fun z => nomatch z
  | exf C fs => obtain ⟨_, dx, gs, e, _⟩ := h; rw [e]; exact fun z => nomatch z
  | tbl P q => obtain ⟨_, _, ps, e, _⟩ := h; rw [e]; exact fun z => nomatch z
  | lk o ks kvs => rw [h.2.1]; exact fun z => nomatch z

def StOk (G : Gh) (S : Hp) (n : Option Nat) (H : Hp) : Prop := (n = none → G.st = none) ∧ ∀ a c, G.st = some (a, c) → S a = none ∧ S c = none ∧ a ≠ c ∧ a ∉ G.al ∧ c ∉ G.al ∧ (∀ p ∈ G.fr, p.1 ≠ a ∧ p.1 ≠ c) ∧
  ∃ (cells : List Int) (turn : Int), H a = some (.dK [(.inr "cells", .ref c), (.inr "turn", .int turn)]) ∧ H c = some (.lst (cells.map V.int)) ∧ cells ≠ [] ∧ cells.length ≤ 63 ∧ 0 ≤ turn ∧ turn + (n.getD 0 : Nat) ≤ 1000000000

structure HR (K : PySem.W.Frag) (G : Gh) (S : Hp) (w : Wd) (H : Hp) : Prop where
  same : Same S H
  len : G.al.length = w.M.length
  nod : G.al.Nodup
  cell : ∀ (i : Nat) (a : Addr) (c : Cell), G.al[i]? = some a → w.M[i]? = some c → CellOk K G S H a c
  st : StOk G S w.n H
  fr : ∀ p ∈ G.fr, S p.1 = none ∧ p.1 ∉ G.al ∧ H p.1 = some p.2

end DL

namespace DL
open PySem PySem.Spec PyProof.Rows L2
section
variable {K : PySem.W.Frag} {G G' : Gh} {S S' H : Hp} {w : Wd}

theorem HR.alSome (h : HR K G S w H) {a : Addr} (ha : a ∈ G.al) : H a ≠ none := by
  obtain ⟨i, hi⟩ := List.getElem?_of_mem ha
  have l : i < w.M.length := by
    rw [← h.len]
    exact (List.getElem?_eq_some_iff.mp hi).1
  exact (h.cell i a _ hi (List.getElem?_eq_getElem l)).some
theorem HR.freshAl (h : HR K G S w H) {p : Addr} (hp : H p = none) : p ∉ G.al := fun z => h.alSome z hp
theorem HR.freshS (h : HR K G S w H) {p : Addr} (hp : H p = none) : S p = none := h.same.free hp
theorem HR.freshSt (h : HR K G S w H) {p : Addr} (hp : H p = none) {a c : Addr} (e : G.st = some (a, c)) : p ≠ a ∧ p ≠ c := by
  obtain ⟨_, _, _, _, _, _, cells, turn, h1, h2, _⟩ := h.st.2 a c e
  exact ⟨fun z => (by rw [← z, hp] at h1; cases h1), fun z => (by rw [← z, hp] at h2; cases h2)⟩
theorem HR.freshFr (h : HR K G S w H) {p : Addr} (hp : H p = none) : ∀ q ∈ G.fr, q.1 ≠ p := fun q hq z => by
  have e := (h.fr q hq).2.2
  rw [z, hp] at e
  cases e
theorem CellOk.mono {a : Addr} {c : Cell} {H H' : Hp} (x : Ext G S G' S') (h : CellOk K G S H a c) (e : H' a = H a) (n : S' a = none ∨ c = .dead) : CellOk K G' S' H' a c := by
  cases c with
  | dead =>
    show H' a ≠ none
    rw [e]
    exact h
  | exc C => exact ⟨n.elim id (fun z => nomatch z), by rw [e]; exact h.2⟩
  | exf C fs =>
    obtain ⟨_, dx, gs, h1, h2, r⟩ := h
    exact ⟨n.elim id (fun z => nomatch z), dx, gs, by rw [e]; exact h1, x.same _ _ h2, Paired.mapP r fun p q z => ⟨z.1, z.2.mono x⟩⟩
  | tbl P q =>
    obtain ⟨e0, _, ps, e1, e2, e3⟩ := h
    refine ⟨e0, n.elim id (fun z => nomatch z), ps, by rw [e]; exact e1, e2, fun pos cv hc => ?_⟩
    obtain ⟨c, r1, r2⟩ := e3 pos cv hc
    exact ⟨c, r1, x.same _ _ r2⟩
  | lk o ks kvs =>
    obtain ⟨_, e1, r⟩ := h
    exact ⟨n.elim id (fun z => nomatch z), by rw [e]; exact e1, Paired.mapP r fun p q z => ⟨z.1, z.2.mono x⟩⟩
  | lst ds =>
    obtain ⟨_, xs, e1, r⟩ := h
    exact ⟨n.elim id (fun z => nomatch z), xs, by rw [e]; exact e1, r.mono x⟩
  | dk ds =>
    obtain ⟨_, xs, e1, r⟩ := h
    exact ⟨n.elim id (fun z => nomatch z), xs, by rw [e]; exact e1, Paired.mapP r fun p q z => ⟨z.1, z.2.mono x⟩⟩
  | ins C ds =>
    obtain ⟨_, dx, xs, e1, r⟩ := h
    exact ⟨n.elim id (fun z => nomatch z), dx, xs, by rw [e]; exact e1, Paired.mapP r fun p q z => ⟨z.1, z.2.mono x⟩⟩
theorem CellOk.sNone {a : Addr} {c : Cell} {H : Hp} (h : CellOk K G S H a c) : S a = none ∨ c = .dead := by
  cases c with
  | dead => exact .inr rfl
  | exc C => exact .inl h.1
  | exf C fs => exact .inl h.1
  | tbl P q => exact .inl h.2.1
  | lk o ks kvs => exact .inl h.1
  | lst ds => exact .inl h.1
  | dk ds => exact .inl h.1
  | ins C ds => exact .inl h.1

theorem HR.newS (h : HR K G S w H) {p : Addr} (hp : H p = none) (o : HO) : HR K G (upd S p o) w (upd H p o) ∧ Ext G S G (upd S p o) := by
  have sp := h.freshS hp
  have x : Ext G S G (upd S p o) := ⟨⟨[], by simp⟩, fun _ z => z, fun _ z => z, fun b u e => by rw [upd_ne (ne_of_none e sp)]; exact e⟩
  refine ⟨⟨fun b u e => ?_, h.len, h.nod, fun i a c e1 e2 => ?_, ⟨h.st.1, fun a c e => ?_⟩, fun q hq => ?_⟩, x⟩
  · by_cases hb : b = p
    · subst hb
      rw [upd_same] at e ⊢
      exact e
    · rw [upd_ne hb] at e ⊢
      exact h.same _ _ e
  · have ne : a ≠ p := fun z => h.freshAl hp (z ▸ List.mem_of_getElem? e1)
    have q := h.cell i a c e1 e2
    exact q.mono x (upd_ne ne) (by rw [upd_ne ne]; exact q.sNone)
  · obtain ⟨n1, n2⟩ := h.freshSt hp e
    obtain ⟨z1, z2, z3, z4, z5, z6, cells, turn, z7, z8, z9⟩ := h.st.2 a c e
    exact ⟨by rw [upd_ne n1.symm]; exact z1, by rw [upd_ne n2.symm]; exact z2, z3, z4, z5, z6, cells, turn, by rw [upd_ne n1.symm]; exact z7, by rw [upd_ne n2.symm]; exact z8, z9⟩
  · obtain ⟨z1, z2, z3⟩ := h.fr q hq
    have ne := h.freshFr hp q hq
    exact ⟨by rw [upd_ne ne]; exact z1, z2, by rw [upd_ne ne]; exact z3⟩

theorem HR.newC (h : HR K G S w H) {p : Addr} (hp : H p = none) (o : HO) (c : Cell) (hc : CellOk K ⟨G.al ++ [p], G.st, G.fr⟩ S (upd H p o) p c) :
    HR K ⟨G.al ++ [p], G.st, G.fr⟩ S ⟨w.M ++ [c], w.n⟩ (upd H p o) ∧ Ext G S ⟨G.al ++ [p], G.st, G.fr⟩ S := by
  have sp := h.freshS hp
  have x : Ext G S ⟨G.al ++ [p], G.st, G.fr⟩ S := ⟨⟨[p], rfl⟩, fun _ z => z, fun _ z => z, Same.refl S⟩
  refine ⟨⟨fun b u e => ?_, by simp [h.len], ?_, fun i a c' e1 e2 => ?_, ⟨h.st.1, fun a c' e => ?_⟩, fun q hq => ?_⟩, x⟩
  · rw [upd_ne (ne_of_none e sp)]
    exact h.same _ _ e
  · show (G.al ++ [p]).Nodup
    rw [List.nodup_append]
    refine ⟨h.nod, by simp, fun a ha b hb z => ?_⟩
    rw [List.mem_singleton] at hb
    exact h.freshAl hp (by rw [← hb, ← z]; exact ha)
  · have e1 : (G.al ++ [p])[i]? = some a := e1
    have e2 : (w.M ++ [c])[i]? = some c' := e2
    by_cases hi : i < G.al.length
    · rw [List.getElem?_append_left hi] at e1
      rw [List.getElem?_append_left (by rw [← h.len]; exact hi)] at e2
      have ne : a ≠ p := fun z => h.freshAl hp (z ▸ List.mem_of_getElem? e1)
      have q := h.cell i a c' e1 e2
      exact q.mono x (upd_ne ne) q.sNone
    · have hi2 : G.al.length ≤ i := Nat.le_of_not_lt hi
      rw [List.getElem?_append_right hi2] at e1
      rw [List.getElem?_append_right (by rw [← h.len]; exact hi2), ← h.len] at e2
      have l := (List.getElem?_eq_some_iff.mp e1).1
      have l0 : i - G.al.length = 0 := by
        rw [List.length_singleton] at l
        omega
      rw [l0] at e1 e2
      have e1' : p = a := by simpa using e1
      have e2' : c = c' := by simpa using e2
      subst e1'
      subst e2'
      exact hc
  · obtain ⟨n1, n2⟩ := h.freshSt hp e
    obtain ⟨z1, z2, z3, z4, z5, z6, cells, turn, z7, z8, z9⟩ := h.st.2 a c' e
    refine ⟨z1, z2, z3, fun hm => ?_, fun hm => ?_, z6, cells, turn, by rw [upd_ne n1.symm]; exact z7, by rw [upd_ne n2.symm]; exact z8, z9⟩
    · rcases List.mem_append.mp hm with hm | hm
      · exact z4 hm
      · exact n1 (List.mem_singleton.mp hm).symm
    · rcases List.mem_append.mp hm with hm | hm
      · exact z5 hm
      · exact n2 (List.mem_singleton.mp hm).symm
  · obtain ⟨z1, z2, z3⟩ := h.fr q hq
    have ne := h.freshFr hp q hq
    refine ⟨z1, fun hm => ?_, by rw [upd_ne ne]; exact z3⟩
    rcases List.mem_append.mp hm with hm | hm
    · exact z2 hm
    · exact ne (List.mem_singleton.mp hm)

theorem HR.setC (h : HR K G S w H) {i : Nat} {a : Addr} {c0 c : Cell} {o : HO} (e1 : G.al[i]? = some a) (e2 : w.M[i]? = some c0) (hs : S a = none) (hc : CellOk K G S (upd H a o) a c) : HR K G S ⟨w.M.set i c, w.n⟩ (upd H a o) := by
  have il : i < w.M.length := (List.getElem?_eq_some_iff.mp e2).1
  refine ⟨fun b u e => ?_, by simp [h.len], h.nod, fun j b c' f1 f2 => ?_, ⟨h.st.1, fun b c' e => ?_⟩, fun q hq => ?_⟩
  · rw [upd_ne (ne_of_none e hs)]
    exact h.same _ _ e
  · have f2 : (w.M.set i c)[j]? = some c' := f2
    by_cases hj : j = i
    · subst hj
      rw [List.getElem?_set_self il] at f2
      cases f2
      rw [e1] at f1
      cases f1
      exact hc
    · rw [List.getElem?_set_ne (Ne.symm hj)] at f2
      have ne : b ≠ a := fun z => by
        subst z
        exact hj ((List.getElem?_inj (List.getElem?_eq_some_iff.mp f1).1 h.nod).mp (f1.trans e1.symm))
      have q := h.cell j b c' f1 f2
      exact q.mono (Ext.refl _ _) (upd_ne ne) q.sNone
  · obtain ⟨z1, z2, z3, z4, z5, z6, cells, turn, z7, z8, z9⟩ := h.st.2 b c' e
    have n1 : b ≠ a := fun z => z4 (z ▸ List.mem_of_getElem? e1)
    have n2 : c' ≠ a := fun z => z5 (z ▸ List.mem_of_getElem? e1)
    exact ⟨z1, z2, z3, z4, z5, z6, cells, turn, by rw [upd_ne n1]; exact z7, by rw [upd_ne n2]; exact z8, z9⟩
  · obtain ⟨z1, z2, z3⟩ := h.fr q hq
    have ne : q.1 ≠ a := fun z => z2 (z ▸ List.mem_of_getElem? e1)
    exact ⟨z1, z2, by rw [upd_ne ne]; exact z3⟩

theorem HR.freeze (h : HR K G S w H) {i : Nat} {a : Addr} {ds : List D} (e1 : G.al[i]? = some a) (e2 : w.M[i]? = some (.lst ds)) :
    ∃ S', HR K G S' ⟨w.M.set i .dead, w.n⟩ H ∧ Ext G S G S' ∧ Rep K G S' (.ref a) (.lst ds) := by
  obtain ⟨sa, xs, ha, r⟩ := h.cell i a _ e1 e2
  have il : i < w.M.length := (List.getElem?_eq_some_iff.mp e2).1
  have x : Ext G S G (upd S a (.lst xs)) := ⟨⟨[], by simp⟩, fun _ z => z, fun _ z => z, fun b u e => by rw [upd_ne (ne_of_none e sa)]; exact e⟩
  refine ⟨upd S a (.lst xs), ⟨fun b u e => ?_, by simp [h.len], h.nod, fun j b c' f1 f2 => ?_, ⟨h.st.1, fun b c' e => ?_⟩, fun q hq => ?_⟩, x, .lst upd_same (r.mono x)⟩
  · by_cases hb : b = a
    · subst hb
      rw [upd_same] at e
      cases e
      exact ha
    · rw [upd_ne hb] at e
      exact h.same _ _ e
  · have f2 : (w.M.set i .dead)[j]? = some c' := f2
    by_cases hj : j = i
    · subst hj
      rw [List.getElem?_set_self il] at f2
      cases f2
      rw [e1] at f1
      cases f1
      show H _ ≠ none
      rw [ha]
      exact fun z => nomatch z
    · rw [List.getElem?_set_ne (Ne.symm hj)] at f2
      have ne : b ≠ a := fun z => by
        subst z
        exact hj ((List.getElem?_inj (List.getElem?_eq_some_iff.mp f1).1 h.nod).mp (f1.trans e1.symm))
      have q := h.cell j b c' f1 f2
      exact q.mono x rfl (by rw [upd_ne ne]; exact q.sNone)
  · obtain ⟨z1, z2, z3, z4, z5, z6, z7⟩ := h.st.2 b c' e
    have n1 : b ≠ a := fun z => z4 (z ▸ List.mem_of_getElem? e1)
    have n2 : c' ≠ a := fun z => z5 (z ▸ List.mem_of_getElem? e1)
    exact ⟨by rw [upd_ne n1]; exact z1, by rw [upd_ne n2]; exact z2, z3, z4, z5, z6, z7⟩
  · obtain ⟨z1, z2, z3⟩ := h.fr q hq
    have ne : q.1 ≠ a := fun z => z2 (z ▸ List.mem_of_getElem? e1)
    exact ⟨by rw [upd_ne ne]; exact z1, z2, z3⟩

theorem HR.push (h : HR K G S w H) {p : Addr} {o : HO} (hp : H p = none) : HR K ⟨G.al, G.st, (p, o) :: G.fr⟩ S w (upd H p o) ∧ Ext G S ⟨G.al, G.st, (p, o) :: G.fr⟩ S := by
  have sp := h.freshS hp
  have x : Ext G S ⟨G.al, G.st, (p, o) :: G.fr⟩ S := ⟨⟨[], by simp⟩, fun _ z => z, fun _ z => List.mem_cons_of_mem _ z, Same.refl S⟩
  refine ⟨⟨fun b u e => ?_, h.len, h.nod, fun i a c e1 e2 => ?_, ⟨h.st.1, fun a c e => ?_⟩, fun q hq => ?_⟩, x⟩
  · rw [upd_ne (ne_of_none e sp)]
    exact h.same _ _ e
  · have ne : a ≠ p := fun z => h.freshAl hp (z ▸ List.mem_of_getElem? e1)
    have q := h.cell i a c e1 e2
    exact q.mono x (upd_ne ne) q.sNone
  · obtain ⟨n1, n2⟩ := h.freshSt hp e
    obtain ⟨z1, z2, z3, z4, z5, z6, cells, turn, z7, z8, z9⟩ := h.st.2 a c e
    refine ⟨z1, z2, z3, z4, z5, fun q hq => ?_, cells, turn, by rw [upd_ne n1.symm]; exact z7, by rw [upd_ne n2.symm]; exact z8, z9⟩
    rcases List.mem_cons.mp hq with rfl | hq
    · exact ⟨n1, n2⟩
    · exact z6 q hq
  · rcases List.mem_cons.mp hq with rfl | hq
    · exact ⟨sp, h.freshAl hp, upd_same⟩
    · obtain ⟨z1, z2, z3⟩ := h.fr q hq
      have ne := h.freshFr hp q hq
      exact ⟨z1, z2, by rw [upd_ne ne]; exact z3⟩
theorem HR.poke (h : HR K G S w H) {p : Addr} {o o' : HO} {fr : List (Addr × HO)} (hp : (p, o) ∈ G.fr) (hf : ∀ q ∈ fr, q ∈ G.fr ∧ q.1 ≠ p) : HR K ⟨G.al, G.st, (p, o') :: fr⟩ S w (upd H p o') := by
  obtain ⟨y1, y2, y3⟩ := h.fr _ hp
  refine ⟨fun b u e => ?_, h.len, h.nod, fun i a c e1 e2 => ?_, ⟨h.st.1, fun a c e => ?_⟩, fun q hq => ?_⟩
  · rw [upd_ne (ne_of_none e y1)]
    exact h.same _ _ e
  · have ne : a ≠ p := fun z => y2 (z ▸ List.mem_of_getElem? e1)
    have q := h.cell i a c e1 e2
    have x : Ext G S ⟨G.al, G.st, G.fr⟩ S := Ext.refl _ _
    have x2 : Ext G S G S := Ext.refl _ _
    have q2 := q.mono x2 (upd_ne (o := o') ne) q.sNone
    cases c with
    | dead => exact q2
    | exc C => exact q2
    | exf C fs =>
      obtain ⟨n0, dx, gs, e3, e4, r⟩ := q2
      exact ⟨n0, dx, gs, e3, e4, Paired.mapP r fun p q z => ⟨z.1, Rep.refr z.2⟩⟩
    | tbl P q => exact q2
    | lk o ks kvs =>
      obtain ⟨n0, e3, r⟩ := q2
      exact ⟨n0, e3, Paired.mapP r fun p q z => ⟨z.1, Rep.refr z.2⟩⟩
    | lst ds =>
      obtain ⟨n0, xs, e3, r⟩ := q2
      exact ⟨n0, xs, e3, RepAll.refr r⟩
    | dk ds =>
      obtain ⟨n0, xs, e3, r⟩ := q2
      exact ⟨n0, xs, e3, Paired.mapP r fun p q z => ⟨z.1, Rep.refr z.2⟩⟩
    | ins C ds =>
      obtain ⟨n0, dx, xs, e3, r⟩ := q2
      exact ⟨n0, dx, xs, e3, Paired.mapP r fun p q z => ⟨z.1, Rep.refr z.2⟩⟩
  · obtain ⟨z1, z2, z3, z4, z5, z6, cells, turn, z7, z8, z9⟩ := h.st.2 a c e
    obtain ⟨n1, n2⟩ := z6 _ hp
    refine ⟨z1, z2, z3, z4, z5, fun q hq => ?_, cells, turn, by rw [upd_ne (Ne.symm n1)]; exact z7, by rw [upd_ne (Ne.symm n2)]; exact z8, z9⟩
    rcases List.mem_cons.mp hq with rfl | hq
    · exact ⟨n1, n2⟩
    · exact z6 q (hf q hq).1
  · rcases List.mem_cons.mp hq with rfl | hq
    · exact ⟨y1, y2, upd_same⟩
    · obtain ⟨z1, z2, z3⟩ := h.fr q (hf q hq).1
      exact ⟨z1, z2, by rw [upd_ne (hf q hq).2]; exact z3⟩
end
end DL

namespace DL
open PySem PySem.Spec PyProof.Rows L2

inductive Exn where
  | own (C : Addr)
  | flds (C : Addr) (fs : List (Str × D))
def ExRep (K : PySem.W.Frag) (G : Gh) (S H : Hp) (cls : Value) (d : Option Addr) : Exn → Prop
  | .own C => cls = .ref C ∧ d = none
  | .flds C fs => cls = .ref C ∧ ∃ a gs, d = some a ∧ S a = some (.xd gs) ∧ FsRep K G S gs fs
abbrev KD := D → Wd → Prop
abbrev KX := Exn → Wd → Prop
abbrev KB := Bool → Wd → Prop
abbrev KA := List D → Wd → Prop
abbrev Rho := List (Option D)
abbrev GE := Rho → Wd → KX → KD → Prop
abbrev GT := Rho → Wd → KX → KB → Prop
abbrev GA := Rho → Wd → KX → KA → Prop
structure DEnds where
  nx : Rho → Wd → Prop
  rt : KD
  ex : KX
  bk : Rho → Wd → Prop := fun _ _ => False
  ct : Rho → Wd → Prop := fun _ _ => False
abbrev GS := DEnds → Rho → Wd → Prop

section
variable (K : PySem.W.Frag) (G : Gh) (S : Hp)
def SR (σ : L2.St) (ρ : Rho) : Prop := σ.length = ρ.length ∧ ∀ (i : Nat) (d : D), ρ[i]? = some (some d) → ∃ v, σ[i]? = some (some v) ∧ Rep K G S v d
def XL (kx : KX) (E : XK) : Prop := ∀ G' S' H' w' e cls d, Ext G S G' S' → HR K G' S' w' H' → ExRep K G' S' H' cls d e → kx e w' → E cls d H'
def KL (k : KD) (Q : VK) : Prop := ∀ G' S' H' w' d v, Ext G S G' S' → HR K G' S' w' H' → Rep K G' S' v d → k d w' → Q v H'
def BL (k : KB) (Q : Bool → Hp → Prop) : Prop := ∀ G' S' H' w' b, Ext G S G' S' → HR K G' S' w' H' → k b w' → Q b H'
def AL (k : KA) (Q : List V → Hp → Prop) : Prop := ∀ G' S' H' w' ds vs, Ext G S G' S' → HR K G' S' w' H' → RepAll K G' S' vs ds → k ds w' → Q vs H'
def NL (k : Rho → Wd → Prop) (Q : L2.St → Hp → Prop) : Prop := ∀ G' S' H' w' ρ' σ', Ext G S G' S' → HR K G' S' w' H' → SR K G' S' σ' ρ' → k ρ' w' → Q σ' H'
end
section
variable {K : PySem.W.Frag} {G G' : Gh} {S S' : Hp}
theorem SR.mono {σ : L2.St} {ρ : Rho} (x : Ext G S G' S') (h : SR K G S σ ρ) : SR K G' S' σ ρ := ⟨h.1, fun i d e => let ⟨v, h1, h2⟩ := h.2 i d e; ⟨v, h1, h2.mono x⟩⟩
theorem XL.mono {kx : KX} {E : XK} (x : Ext G S G' S') (h : XL K G S kx E) : XL K G' S' kx E := fun G1 S1 H1 w1 e c d x1 => h G1 S1 H1 w1 e c d (x.trans x1)
theorem KL.mono {k : KD} {Q : VK} (x : Ext G S G' S') (h : KL K G S k Q) : KL K G' S' k Q := fun G1 S1 H1 w1 d v x1 => h G1 S1 H1 w1 d v (x.trans x1)
theorem BL.mono {k : KB} {Q : Bool → Hp → Prop} (x : Ext G S G' S') (h : BL K G S k Q) : BL K G' S' k Q := fun G1 S1 H1 w1 d x1 => h G1 S1 H1 w1 d (x.trans x1)
theorem AL.mono {k : KA} {Q : List V → Hp → Prop} (x : Ext G S G' S') (h : AL K G S k Q) : AL K G' S' k Q := fun G1 S1 H1 w1 d v x1 => h G1 S1 H1 w1 d v (x.trans x1)
theorem NL.mono {k : Rho → Wd → Prop} {Q : L2.St → Hp → Prop} (x : Ext G S G' S') (h : NL K G S k Q) : NL K G' S' k Q := fun G1 S1 H1 w1 d v x1 => h G1 S1 H1 w1 d v (x.trans x1)
theorem SR.set {σ : L2.St} {ρ : Rho} {v : V} {d : D} (h : SR K G S σ ρ) (r : Rep K G S v d) (i : Nat) : SR K G S (σ.set i (some v)) (ρ.set i (some d)) := by
  refine ⟨by simp [h.1], fun j e hj => ?_⟩
  by_cases hi : j = i
  · subst hi
    have hl : j < ρ.length := by
      have := (List.getElem?_eq_some_iff.mp hj).1
      simpa using this
    rw [List.getElem?_set_self hl] at hj
    cases hj
    exact ⟨v, List.getElem?_set_self (by rw [h.1]; exact hl), r⟩
  · rw [List.getElem?_set_ne (Ne.symm hi)] at hj
    obtain ⟨u, h1, h2⟩ := h.2 j e hj
    exact ⟨u, by rw [List.getElem?_set_ne (Ne.symm hi)]; exact h1, h2⟩
end

def upE (K : PySem.W.Frag) (E : XK) (g : GE) : TE := fun σ H Q => ∃ G S ρ w kx k, HR K G S w H ∧ SR K G S σ ρ ∧ XL K G S kx E ∧ KL K G S k Q ∧ g ρ w kx k
def upT (K : PySem.W.Frag) (E : XK) (g : GT) : TT := fun σ H Q => ∃ G S ρ w kx k, HR K G S w H ∧ SR K G S σ ρ ∧ XL K G S kx E ∧ BL K G S k Q ∧ g ρ w kx k
def upA (K : PySem.W.Frag) (E : XK) (g : GA) : TA := fun σ H Q => ∃ G S ρ w kx k, HR K G S w H ∧ SR K G S σ ρ ∧ XL K G S kx E ∧ AL K G S k Q ∧ g ρ w kx k
structure EL (K : PySem.W.Frag) (G : Gh) (S : Hp) (E : XK) (F : DEnds) (D : Ends) : Prop where
  nx : NL K G S F.nx D.nx
  rt : KL K G S F.rt D.rt
  bk : NL K G S F.bk D.bk
  ct : NL K G S F.ct D.ct
  ex : XL K G S F.ex E
theorem EL.mono {K : PySem.W.Frag} {G G' : Gh} {S S' : Hp} {E : XK} {F : DEnds} {D : Ends} (x : Ext G S G' S') (h : EL K G S E F D) : EL K G' S' E F D := ⟨h.nx.mono x, h.rt.mono x, h.bk.mono x, h.ct.mono x, h.ex.mono x⟩
def upS (K : PySem.W.Frag) (E : XK) (g : GS) : TS := fun D σ H => ∃ G S ρ w F, HR K G S w H ∧ SR K G S σ ρ ∧ EL K G S E F D ∧ g F ρ w

def DE (X : Cx) (E : XK) (e : Expr) (g : GE) : Prop := PE X e (upE X.K E g)
def DT (X : Cx) (E : XK) (e : Expr) (g : GT) : Prop := PT X e (upT X.K E g)
def DW (X : Cx) (E : XK) (e : Expr) (g : GT) : Prop := PW X e (upT X.K E g)
def DA (X : Cx) (E : XK) (es : List Expr) (g : GA) : Prop := PA X es (upA X.K E g)
def DS (X : Cx) (E : XK) (st : Stmt) (g : GS) : Prop := PS X st (upS X.K E g)
def DSs (X : Cx) (E : XK) (st : List Stmt) (g : GS) : Prop := PSs X st (upS X.K E g)
section
variable {X : Cx}
theorem pe_imp {e : Expr} {t t' : TE} (h : PE X e t) (i : ∀ σ H Q, t' σ H Q → t σ H Q) : PE X e t' := ⟨fun pins s σ H Q I q => h.run pins s σ H Q I (i _ _ _ q)⟩
theorem pt_imp {e : Expr} {t t' : TT} (h : PT X e t) (i : ∀ σ H Q, t' σ H Q → t σ H Q) : PT X e t' := ⟨fun pins s σ H Q I q => h.run pins s σ H Q I (i _ _ _ q)⟩
theorem pw_imp {e : Expr} {t t' : TT} (h : PW X e t) (i : ∀ σ H Q, t' σ H Q → t σ H Q) : PW X e t' := ⟨fun wh pins s σ H Q I q => h.run wh pins s σ H Q I (i _ _ _ q)⟩
theorem pa_imp {e : List Expr} {t t' : TA} (h : PA X e t) (i : ∀ σ H Q, t' σ H Q → t σ H Q) : PA X e t' := ⟨fun pos pins s σ H Q I q => h.run pos pins s σ H Q I (i _ _ _ q)⟩
theorem ps_imp {e : Stmt} {t t' : TS} (h : PS X e t) (i : ∀ D σ H, t' D σ H → t D σ H) : PS X e t' := ⟨fun pins s σ H D I q => h.run pins s σ H D I (i _ _ _ q)⟩
theorem pss_imp {e : List Stmt} {t t' : TS} (h : PSs X e t) (i : ∀ D σ H, t' D σ H → t D σ H) : PSs X e t' := ⟨fun pins s σ H D I q => h.run pins s σ H D I (i _ _ _ q)⟩
end

def gVar (i : Nat) : GE := fun ρ w _ k => match ρ[i]? with
  | some (some d) => k d w
  | _ => False
def gC (d : D) : GE := fun _ w _ k => k d w
section
variable {X : Cx} {E : XK}
theorem de_var (i : Nat) {x : Str} {pos : Pos} (hN : X.N[i]? = some x := by rfl) (hv : Vis X.env.scope x := by first | exact Or.inl rfl | exact Or.inr (Or.inl rfl) | exact Or.inr (Or.inr rfl)) (hd : (x == ("__debug__" : Str)) = false := by decide)
    (hcd : (x == ("__classdict__" : Str)) = false := by decide) : DE X E (.Name x pos) (gVar i) := by
  refine pe_imp (pe_var hN hv hd hcd) ?_
  rintro σ H Q ⟨G, S, ρ, w, kx, k, hr, sr, xl, kl, h⟩
  unfold gVar at h
  split at h
  · rename_i d e
    obtain ⟨v, h1, h2⟩ := sr.2 i d e
    exact ⟨v, h1, kl _ _ _ _ _ _ (Ext.refl _ _) hr h2 h⟩
  · exact h.elim
theorem de_int {i : Int} {j pos} : DE X E (.Constant (.int i) j pos) (gC (.int i)) := pe_imp pe_int (by
  rintro σ H Q ⟨G, S, ρ, w, kx, k, hr, sr, xl, kl, h⟩
  exact kl _ _ _ _ _ _ (Ext.refl _ _) hr (.int i) h)
theorem de_bl {i : Bool} {j pos} : DE X E (.Constant (.bool i) j pos) (gC (.bl i)) := pe_imp pe_bl (by
  rintro σ H Q ⟨G, S, ρ, w, kx, k, hr, sr, xl, kl, h⟩
  exact kl _ _ _ _ _ _ (Ext.refl _ _) hr (.bl i) h)
theorem de_non {j pos} : DE X E (.Constant .none j pos) (gC .non) := pe_imp pe_non (by
  rintro σ H Q ⟨G, S, ρ, w, kx, k, hr, sr, xl, kl, h⟩
  exact kl _ _ _ _ _ _ (Ext.refl _ _) hr .non h)
theorem de_str {x : Str} {j pos} : DE X E (.Constant (.str x) j pos) (gC (.str x)) := pe_imp pe_str (by
  rintro σ H Q ⟨G, S, ρ, w, kx, k, hr, sr, xl, kl, h⟩
  exact kl _ _ _ _ _ _ (Ext.refl _ _) hr (.str x) h)
theorem de_gint {x : Str} {i : Int} {t : Tok} {pos : Pos} (hg : Gl X x) (hm : X.mg x = some (.int i t)) (hd : (x == ("__debug__" : Str)) = false := by decide) : DE X E (.Name x pos) (gC (.int i)) := pe_imp (pe_glob (v := .int i) hg hm ⟨_, rfl⟩ hd) (by
  rintro σ H Q ⟨G, S, ρ, w, kx, k, hr, sr, xl, kl, h⟩
  exact kl _ _ _ _ _ _ (Ext.refl _ _) hr (.int i) h)
theorem de_gstr {x : Str} {i : Str} {t : Tok} {pos : Pos} (hg : Gl X x) (hm : X.mg x = some (.str i t)) (hd : (x == ("__debug__" : Str)) = false := by decide) : DE X E (.Name x pos) (gC (.str i)) := pe_imp (pe_glob (v := .str i) hg hm ⟨_, rfl⟩ hd) (by
  rintro σ H Q ⟨G, S, ρ, w, kx, k, hr, sr, xl, kl, h⟩
  exact kl _ _ _ _ _ _ (Ext.refl _ _) hr (.str i) h)
theorem de_type {x : Str} {n : String} {pos : Pos} (hg : Gl X x) (hm : X.mg x = none) (hv : bootBuiltins x = some (.type n)) (hn : x ≠ "__name__" := by decide) (hd : (x == ("__debug__" : Str)) = false := by decide) : DE X E (.Name x pos) (gC (.ob (.ty n))) := pe_imp (pe_bltn (v := .ty n) hg hm hv rfl hn hd) (by
  rintro σ H Q ⟨G, S, ρ, w, kx, k, hr, sr, xl, kl, h⟩
  exact kl _ _ _ _ _ _ (Ext.refl _ _) hr (.ob rfl) h)
end

abbrev F2 := D → D → Wd → KD → Prop
def gBin (f : F2) (ga gb : GE) : GE := fun ρ w kx k => ga ρ w kx fun x w1 => gb ρ w1 kx fun y w2 => f x y w2 k
def BinOk (K : PySem.W.Frag) (r : R2) (f : F2) : Prop := ∀ {G S H w x y d e k Q}, HR K G S w H → Rep K G S x d → Rep K G S y e → KL K G S k Q → f d e w k → r x y H Q
section
variable {X : Cx} {E : XK} {a b c : Expr} {ga gb gc : GE} {pos : Pos}
theorem bin_up {K : PySem.W.Frag} {r : R2} {f : F2} (hf : BinOk K r f) : ∀ σ H Q, upE K E (gBin f ga gb) σ H Q → tOp r (upE K E ga) (upE K E gb) σ H Q := by
  rintro σ H Q ⟨G, S, ρ, w, kx, k, hr, sr, xl, kl, h⟩
  exact ⟨G, S, ρ, w, kx, _, hr, sr, xl, fun G1 S1 H1 w1 d x x1 hr1 rp h1 => ⟨G1, S1, ρ, w1, kx, _, hr1, sr.mono x1, xl.mono x1, fun G2 S2 H2 w2 e y x2 hr2 rp2 h2 => hf hr2 (rp.mono x2) rp2 (kl.mono (x1.trans x2)) h2, h1⟩, h⟩
theorem de_bin {op : Operator} {r : R2} {f : F2} (ho : OpR X (binaryOp op) r) (hf : BinOk X.K r f) (ha : DE X E a ga) (hb : DE X E b gb) : DE X E (.BinOp a op b pos) (gBin f ga gb) :=
  pe_imp (pe_op ho ha hb) (bin_up hf)
theorem de_cmp {op : CmpOp} {r : R2} {f : F2} (ho : OpR X (compareOp op) r) (hf : BinOk X.K r f) (ha : DE X E a ga) (hb : DE X E b gb) (hm : behindInMarks op b = false) : DE X E (.Compare a [op] [b] pos) (gBin f ga gb) :=
  pe_imp (pe_cmpR ho ha hb hm) (bin_up hf)
end

def addD : F2 := fun x y w k => match x, y with
  | .int i, .int j => k (.int (i + j)) w
  | .str i, .str j => i.length + j.length ≤ sizeLine ∧ k (.str (i ++ j)) w
  | .lst i, .lst j => i.length + j.length ≤ sizeLine ∧ k (.lst (i ++ j)) w
  | .tup i, .tup j => i ≠ [] ∧ i.length + j.length ≤ sizeLine ∧ k (.tup (i ++ j)) w
  | _, _ => False
def subD : F2 := fun x y w k => match x, y with
  | .int i, .int j => k (.int (i - j)) w
  | _, _ => False
def mulD : F2 := fun x y w k => match x, y with
  | .int i, .int j => CMulX i j ∧ k (.int (i * j)) w
  | .lst i, .int j => -(2 ^ 63) ≤ j ∧ j < 2 ^ 63 ∧ i.length * j.toNat ≤ sizeLine ∧ k (.lst (List.replicate j.toNat i).flatten) w
  | _, _ => False
def fdivD : F2 := fun x y w k => match x, y with
  | .int i, .int j => (j ≠ 0 ∧ j.natAbs.log2 < 9000) ∧ k (.int (i.fdiv j)) w
  | _, _ => False
def modD : F2 := fun x y w k => match x, y with
  | .int i, .int j => j ≠ 0 ∧ k (.int (i.fmod j)) w
  | _, _ => False
def powD : F2 := fun x y w k => match x, y with
  | .int i, .int j => CPow i j ∧ k (.int (i ^ j.toNat)) w
  | _, _ => False
def ltD : F2 := fun x y w k => match x, y with
  | .int i, .int j => k (.bl (decide (i < j))) w
  | .str i, .str j => k (.bl (decide (i.cps.toList < j.cps.toList))) w
  | _, _ => False
def leD : F2 := fun x y w k => match x, y with
  | .int i, .int j => k (.bl (decide (i ≤ j))) w
  | _, _ => False
def gtD : F2 := fun x y w k => match x, y with
  | .int i, .int j => k (.bl (decide (j < i))) w
  | _, _ => False
def geD : F2 := fun x y w k => match x, y with
  | .int i, .int j => k (.bl (decide (j ≤ i))) w
  | _, _ => False
mutual
def toPD : D → Option PyData
  | .non => some .none
  | .bl b => some (.bool b)
  | .int i => some (.int i)
  | .str x => some (.str x)
  | .lst xs => (toPDs xs).map .list
  | .tup xs => (toPDs xs).map .tuple
  | .rf _ => none
  | .st => none
  | .ob _ => none
  | .scr _ => none
def toPDs : List D → Option (List PyData)
  | [] => some []
  | x :: xs => match toPD x, toPDs xs with
    | some p, some ps => some (p :: ps)
    | _, _ => none
end
def eqD0 : F2 := fun x y w k => match toPD x, toPD y with
  | some p, some q => SeqAt.shaped p = true ∧ SeqAt.shaped q = true ∧ k (.bl (PyData.eqv p q)) w
  | _, _ => False
def neD0 : F2 := fun x y w k => match toPD x, toPD y with
  | some p, some q => SeqAt.shaped p = true ∧ SeqAt.shaped q = true ∧ k (.bl (!PyData.eqv p q)) w
  | _, _ => False
def eqD : F2 := fun x y w k => match x, y with
  | .str s, .str t => k (.bl (decide (s = t))) w
  | x, y => eqD0 x y w k
def neD : F2 := fun x y w k => match x, y with
  | .str s, .str t => k (.bl (!decide (s = t))) w
  | x, y => neD0 x y w k
def isNonD : D → Bool
  | .non => true
  | _ => false
def isD : F2 := fun x y w k => match y with
  | .non => k (.bl (isNonD x)) w
  | _ => False
def isnotD : F2 := fun x y w k => match y with
  | .non => k (.bl (!isNonD x)) w
  | _ => False
section
variable {K : PySem.W.Frag} {G : Gh} {S H : Hp}
mutual
theorem rep_dp (h : Same S H) : ∀ {v : V} {d : D} {p : PyData}, Rep K G S v d → toPD d = some p → Dp K H v p
  | _, _, _, .non, e => by cases e; exact .non
  | _, _, _, .bl b, e => by cases e; exact .bl b
  | _, _, _, .int i, e => by cases e; exact .int i
  | _, _, _, .str i, e => by cases e; exact .str i
  | _, _, _, .lst h1 r, e => by
    rw [toPD] at e
    obtain ⟨ps, e1, rfl⟩ := Option.map_eq_some_iff.mp e
    exact .lst (.inl (.inl (h _ _ h1))) (reps_dp h r e1)
  | _, _, _, .tup h1 r, e => by
    rw [toPD] at e
    obtain ⟨ps, e1, rfl⟩ := Option.map_eq_some_iff.mp e
    exact .tup (sqT_up h h1) (reps_dp h r e1)
  | _, _, _, .rf _, e => by cases e
  | _, _, _, .st _, e => by cases e
  | _, _, _, .ob _, e => by cases e
  | _, _, _, .scr _, e => by cases e
theorem reps_dp (h : Same S H) : ∀ {vs : List V} {ds : List D} {ps : List PyData}, RepAll K G S vs ds → toPDs ds = some ps → DpAll K H vs ps
  | _, _, _, .nil, e => by cases e; exact .nil
  | _, _, _, .cons h1 r, e => by
    rw [toPDs] at e
    split at e
    · rename_i p ps e1 e2
      cases e
      exact .cons (rep_dp h h1 e1) (reps_dp h r e2)
    · cases e
end
end
theorem KL.here {K : PySem.W.Frag} {G : Gh} {S H : Hp} {w : Wd} {k : KD} {Q : VK} {v : V} {d : D} (kl : KL K G S k Q) (hr : HR K G S w H) (r : Rep K G S v d) (h : k d w) : Q v H := kl _ _ _ _ _ _ (Ext.refl _ _) hr r h
theorem KL.newL {K : PySem.W.Frag} {G : Gh} {S H : Hp} {w : Wd} {k : KD} {Q : VK} {xs : List V} {ds : List D} (kl : KL K G S k Q) (hr : HR K G S w H) (r : RepAll K G S xs ds) (h : k (.lst ds) w) : ∀ p, H p = none → Q (.ref p) (upd H p (.lst xs)) := fun p hp => by
  obtain ⟨h1, x⟩ := hr.newS hp (.lst xs)
  exact kl _ _ _ _ _ _ x h1 (.lst upd_same (r.mono x)) h
theorem KL.newT {K : PySem.W.Frag} {G : Gh} {S H : Hp} {w : Wd} {k : KD} {Q : VK} {xs : List V} {ds : List D} (kl : KL K G S k Q) (hr : HR K G S w H) (r : RepAll K G S xs ds) (h : k (.tup ds) w) : ∀ p, H p = none → Q (.ref p) (upd H p (.tup xs)) := fun p hp => by
  obtain ⟨h1, x⟩ := hr.newS hp (.tup xs)
  exact kl _ _ _ _ _ _ x h1 (.tup (.inl (.inl upd_same)) (r.mono x)) h

def rAddD (K : PySem.W.Frag) : R2 := fun x y H Q => (rI0 (fun i j => .int (i + j))) x y H Q ∨ (fun x y H Q => ∃ i j, x = .str i ∧ y = .str j ∧ i.length + j.length ≤ sizeLine ∧ Q (.str (i ++ j)) H : R2) x y H Q ∨ rCat x y H Q ∨ rCatT K x y H Q
theorem op_addD {X : Cx} : OpR X (binaryOp .Add) (rAddD X.K) := op_add.or (op_add_str.or (op_cat.or op_catT))
theorem ok_addD {K : PySem.W.Frag} : BinOk K (rAddD K) addD := by
  intro G S H w x y d e k Q hr rx ry kl h
  unfold addD at h
  split at h
  · cases rx; cases ry
    exact .inl ⟨_, _, rfl, rfl, kl.here hr (.int _) h⟩
  · cases rx; cases ry
    exact .inr (.inl ⟨_, _, rfl, rfl, h.1, kl.here hr (.str _) h.2⟩)
  · cases rx with
    | lst h1 r1 => cases ry with
      | lst h2 r2 => exact .inr (.inr (.inl ⟨_, _, _, _, rfl, rfl, hr.same _ _ h1, hr.same _ _ h2, by rw [r1.length, r2.length]; exact h.1, kl.newL hr (r1.append r2) h.2⟩))
  · cases rx with
    | tup h1 r1 => cases ry with
      | tup h2 r2 =>
        obtain ⟨hne, hz, hk⟩ := h
        have l1 := r1.length
        have l2 := r2.length
        refine .inr (.inr (.inr ⟨_, _, _, _, rfl, rfl, sqT_up hr.same h1, sqT_up hr.same h2, fun z => hne ?_, by rw [l1, l2]; exact hz, fun z => ?_, fun _ => kl.newT hr (r1.append r2) hk⟩))
        · rw [z] at l1
          exact List.length_eq_zero_iff.mp l1.symm
        · rw [z] at l2
          have e := List.length_eq_zero_iff.mp l2.symm
          subst e
          rw [List.append_nil] at hk
          exact kl.here hr (.tup h1 r1) hk
  · exact h.elim
def rI2 (C : Int → Int → Prop) (g : Int → Int → V) : R2 := rI C g
theorem ok_subD {K : PySem.W.Frag} : BinOk K (rI0 fun i j => .int (i - j)) subD := by
  intro G S H w x y d e k Q hr rx ry kl h
  unfold subD at h
  split at h
  · cases rx; cases ry
    exact ⟨_, _, rfl, rfl, kl.here hr (.int _) h⟩
  · exact h.elim
def rMulD : R2 := fun x y H Q => (rI CMulX fun i j => .int (i * j)) x y H Q ∨ rRep x y H Q
theorem op_mulD {X : Cx} : OpR X (binaryOp .Mult) rMulD := op_mulX.or op_rep
theorem RepAll.rep {K : PySem.W.Frag} {G : Gh} {S : Hp} {xs : List V} {ds : List D} (h : RepAll K G S xs ds) : ∀ k : Nat, RepAll K G S (List.replicate k xs).flatten (List.replicate k ds).flatten
  | 0 => .nil
  | k + 1 => by
    rw [List.replicate_succ, List.replicate_succ, List.flatten_cons, List.flatten_cons]
    exact h.append (RepAll.rep h k)
theorem ok_mulD {K : PySem.W.Frag} : BinOk K rMulD mulD := by
  intro G S H w x y d e k Q hr rx ry kl h
  unfold mulD at h
  split at h
  · cases rx; cases ry
    exact .inl ⟨_, _, rfl, rfl, h.1, kl.here hr (.int _) h.2⟩
  · cases ry
    cases rx with
    | lst h1 r1 =>
      obtain ⟨z1, z2, z3, z4⟩ := h
      exact .inr ⟨_, _, _, rfl, rfl, hr.same _ _ h1, z1, z2, by rw [r1.length]; exact z3, kl.newL hr (r1.rep _) z4⟩
  · exact h.elim
theorem op_fdivX {X : Cx} : OpR X (binaryOp .FloorDiv) (rI (fun _ j => j ≠ 0 ∧ j.natAbs.log2 < 9000) fun i j => .int (i.fdiv j)) := opI fun i j _ _ _ _ _ hc q =>
  floordiv_int hc.1 q (.inl (PyProof.noPylong_of_log2 hc.2))
theorem ok_fdivD {K : PySem.W.Frag} : BinOk K (rI (fun _ j => j ≠ 0 ∧ j.natAbs.log2 < 9000) fun i j => .int (i.fdiv j)) fdivD := by
  intro G S H w x y d e k Q hr rx ry kl h
  unfold fdivD at h
  split at h
  · cases rx; cases ry
    exact ⟨_, _, rfl, rfl, h.1, kl.here hr (.int _) h.2⟩
  · exact h.elim
theorem ok_modD {K : PySem.W.Frag} : BinOk K (rI (fun _ j => j ≠ 0) fun i j => .int (i.fmod j)) modD := by
  intro G S H w x y d e k Q hr rx ry kl h
  unfold modD at h
  split at h
  · cases rx; cases ry
    exact ⟨_, _, rfl, rfl, h.1, kl.here hr (.int _) h.2⟩
  · exact h.elim
theorem ok_powD {K : PySem.W.Frag} : BinOk K (rI CPow fun i j => .int (i ^ j.toNat)) powD := by
  intro G S H w x y d e k Q hr rx ry kl h
  unfold powD at h
  split at h
  · cases rx; cases ry
    exact ⟨_, _, rfl, rfl, h.1, kl.here hr (.int _) h.2⟩
  · exact h.elim
def rLtD : R2 := fun x y H Q => (rI0 fun i j => .bl (decide (i < j))) x y H Q ∨ (fun x y H Q => ∃ i j, x = .str i ∧ y = .str j ∧ Q (.bl (decide (i.cps.toList < j.cps.toList))) H : R2) x y H Q
theorem op_ltD {X : Cx} : OpR X (compareOp .Lt) rLtD := op_lt.or op_lt_str
theorem ok_ltD {K : PySem.W.Frag} : BinOk K rLtD ltD := by
  intro G S H w x y d e k Q hr rx ry kl h
  unfold ltD at h
  split at h
  · cases rx; cases ry
    exact .inl ⟨_, _, rfl, rfl, kl.here hr (.bl _) h⟩
  · cases rx; cases ry
    exact .inr ⟨_, _, rfl, rfl, kl.here hr (.bl _) h⟩
  · exact h.elim
theorem ok_leD {K : PySem.W.Frag} : BinOk K (rI0 fun i j => .bl (decide (i ≤ j))) leD := by
  intro G S H w x y d e k Q hr rx ry kl h
  unfold leD at h
  split at h
  · cases rx; cases ry
    exact ⟨_, _, rfl, rfl, kl.here hr (.bl _) h⟩
  · exact h.elim
theorem ok_gtD {K : PySem.W.Frag} : BinOk K (rI0 fun i j => .bl (decide (j < i))) gtD := by
  intro G S H w x y d e k Q hr rx ry kl h
  unfold gtD at h
  split at h
  · cases rx; cases ry
    exact ⟨_, _, rfl, rfl, kl.here hr (.bl _) h⟩
  · exact h.elim
theorem ok_geD {K : PySem.W.Frag} : BinOk K (rI0 fun i j => .bl (decide (j ≤ i))) geD := by
  intro G S H w x y d e k Q hr rx ry kl h
  unfold geD at h
  split at h
  · cases rx; cases ry
    exact ⟨_, _, rfl, rfl, kl.here hr (.bl _) h⟩
  · exact h.elim
theorem ok_eqD0 {K : PySem.W.Frag} : BinOk K (rEqD K) eqD0 := by
  intro G S H w x y d e k Q hr rx ry kl h
  unfold eqD0 at h
  split at h
  · rename_i p q e1 e2
    exact ⟨p, q, rep_dp hr.same rx e1, rep_dp hr.same ry e2, h.1, h.2.1, kl.here hr (.bl _) h.2.2⟩
  · exact h.elim
theorem ok_neD0 {K : PySem.W.Frag} : BinOk K (rNeD K) neD0 := by
  intro G S H w x y d e k Q hr rx ry kl h
  unfold neD0 at h
  split at h
  · rename_i p q e1 e2
    exact ⟨p, q, rep_dp hr.same rx e1, rep_dp hr.same ry e2, h.1, h.2.1, kl.here hr (.bl _) h.2.2⟩
  · exact h.elim
def rEqS (K : PySem.W.Frag) : R2 := fun x y H Q => rEq x y H Q ∨ rEqD K x y H Q
def rNeS (K : PySem.W.Frag) : R2 := fun x y H Q => rNe x y H Q ∨ rNeD K x y H Q
theorem dec_strV {s t : Str} : decide (V.str s = V.str t) = decide (s = t) := by
  rw [Bool.eq_iff_iff]
  simp
theorem ok_eqD {K : PySem.W.Frag} : BinOk K (rEqS K) eqD := by
  intro G S H w x y d e k Q hr rx ry kl h
  unfold eqD at h
  split at h
  · cases rx; cases ry
    refine .inl ⟨rfl, ?_⟩
    rw [dec_strV]
    exact kl.here hr (.bl _) h
  · exact .inr (ok_eqD0 hr rx ry kl h)
theorem ok_neD {K : PySem.W.Frag} : BinOk K (rNeS K) neD := by
  intro G S H w x y d e k Q hr rx ry kl h
  unfold neD at h
  split at h
  · cases rx; cases ry
    refine .inl ⟨rfl, ?_⟩
    rw [dec_strV]
    exact kl.here hr (.bl _) h
  · exact .inr (ok_neD0 hr rx ry kl h)
section
variable {X : Cx} {E : XK} {a b c : Expr} {ga gb gc : GE} {pos : Pos}
theorem de_add (ha : DE X E a ga) (hb : DE X E b gb) : DE X E (.BinOp a .Add b pos) (gBin addD ga gb) := de_bin op_addD ok_addD ha hb
theorem de_sub (ha : DE X E a ga) (hb : DE X E b gb) : DE X E (.BinOp a .Sub b pos) (gBin subD ga gb) := de_bin op_sub ok_subD ha hb
theorem de_mul (ha : DE X E a ga) (hb : DE X E b gb) : DE X E (.BinOp a .Mult b pos) (gBin mulD ga gb) := de_bin op_mulD ok_mulD ha hb
theorem de_fdiv (ha : DE X E a ga) (hb : DE X E b gb) : DE X E (.BinOp a .FloorDiv b pos) (gBin fdivD ga gb) := de_bin op_fdivX ok_fdivD ha hb
theorem de_mod (ha : DE X E a ga) (hb : DE X E b gb) : DE X E (.BinOp a .Mod b pos) (gBin modD ga gb) := de_bin op_modN ok_modD ha hb
theorem de_pow (ha : DE X E a ga) (hb : DE X E b gb) : DE X E (.BinOp a .Pow b pos) (gBin powD ga gb) := de_bin op_pow ok_powD ha hb
theorem de_lt (ha : DE X E a ga) (hb : DE X E b gb) : DE X E (.Compare a [.Lt] [b] pos) (gBin ltD ga gb) := de_cmp op_ltD ok_ltD ha hb (nomark _)
theorem de_gt (ha : DE X E a ga) (hb : DE X E b gb) : DE X E (.Compare a [.Gt] [b] pos) (gBin gtD ga gb) := de_cmp op_gt ok_gtD ha hb (nomark _)
theorem de_ge (ha : DE X E a ga) (hb : DE X E b gb) : DE X E (.Compare a [.GtE] [b] pos) (gBin geD ga gb) := de_cmp op_ge ok_geD ha hb (nomark _)
theorem de_eq {k : Nat} (hr : Room k X.A) (ha : DE X E a ga) (hb : DE X E b gb) : DE X E (.Compare a [.Eq] [b] pos) (gBin eqD ga gb) := de_cmp (op_eq.or (op_eqD hr.units)) ok_eqD ha hb (nomark _)
theorem de_ne {k : Nat} (hr : Room k X.A) (ha : DE X E a ga) (hb : DE X E b gb) : DE X E (.Compare a [.NotEq] [b] pos) (gBin neD ga gb) := de_cmp (op_ne.or (op_neD hr.units)) ok_neD ha hb (nomark _)
def gChain (f f' : F2) (ga gb gc : GE) : GE := fun ρ w kx k => ga ρ w kx fun x w1 => gb ρ w1 kx fun y w2 => f x y w2 fun z w3 => match z with
  | .bl true => gc ρ w3 kx fun u w4 => f' y u w4 k
  | .bl false => k (.bl false) w3
  | _ => False
theorem de_chain {op op' : CmpOp} {r r' : R2} {f f' : F2} (ho : OpR X (compareOp op) r) (hf : BinOk X.K r f) (ho' : OpR X (compareOp op') r') (hf' : BinOk X.K r' f') (ha : DE X E a ga) (hb : DE X E b gb) (hc : DE X E c gc)
    (hm : lastMarks [op, op'] [b, c] = false := by with_unfolding_all rfl) : DE X E (.Compare a [op, op'] [b, c] pos) (gChain f f' ga gb gc) := by
  refine pe_imp (pe_chain ho ho' ha hb hc hm) ?_
  rintro σ H Q ⟨G, S, ρ, w, kx, k, hr, sr, xl, kl, h⟩
  refine ⟨G, S, ρ, w, kx, _, hr, sr, xl, fun G1 S1 H1 w1 d x x1 hr1 rp h1 => ⟨G1, S1, ρ, w1, kx, _, hr1, sr.mono x1, xl.mono x1, fun G2 S2 H2 w2 e y x2 hr2 rp2 h2 => hf hr2 (rp.mono x2) rp2 (k := fun z w3 => match z with
    | .bl true => gc ρ w3 kx fun u w4 => f' e u w4 k
    | .bl false => k (.bl false) w3
    | _ => False) ?_ h2, h1⟩, h⟩
  intro G3 S3 H3 w3 z v x3 hr3 rp3 h3
  cases z with
  | bl q =>
    cases rp3
    cases q with
    | false => exact ⟨false, rfl, (kl.mono ((x1.trans x2).trans x3)).here hr3 (.bl _) h3⟩
    | true => exact ⟨true, rfl, G3, S3, ρ, w3, kx, _, hr3, sr.mono ((x1.trans x2).trans x3), xl.mono ((x1.trans x2).trans x3), fun G4 S4 H4 w4 u v' x4 hr4 rp4 h4 => hf' hr4 ((rp2.mono x3).mono x4) rp4 (kl.mono (((x1.trans x2).trans x3).trans x4)) h4, h3⟩
  | _ => exact h3.elim
def negD : D → Wd → KD → Prop := fun x w k => match x with
  | .int i => k (.int (-i)) w
  | _ => False
def gUn (f : D → Wd → KD → Prop) (ga : GE) : GE := fun ρ w kx k => ga ρ w kx fun x w1 => f x w1 k
theorem de_neg (ha : DE X E a ga) : DE X E (.UnaryOp .USub a pos) (gUn negD ga) := by
  refine pe_imp (pe_un un_neg ha) ?_
  rintro σ H Q ⟨G, S, ρ, w, kx, k, hr, sr, xl, kl, h⟩
  refine ⟨G, S, ρ, w, kx, _, hr, sr, xl, fun G1 S1 H1 w1 d x x1 hr1 rp h1 => ?_, h⟩
  unfold negD at h1
  split at h1
  · cases rp
    exact ⟨_, rfl, (kl.mono x1).here hr1 (.int _) h1⟩
  · exact h1.elim
end

def gB (g : GE) : GT := fun ρ w kx k => g ρ w kx fun x w1 => match x with
  | .bl b => k b w1
  | _ => False
section
variable {X : Cx} {E : XK} {a b c : Expr} {ga gb gc : GE} {ta tb tc : GT} {pos : Pos} {rest : List Expr}
theorem dt_cmp {op : CmpOp} {r : R2} {f : F2} (ho : OpR X (compareOp op) r) (hf : BinOk X.K r f) (ha : DE X E a ga) (hb : DE X E b gb) (hm : behindInMarks op b = false) : DT X E (.Compare a [op] [b] pos) (gB (gBin f ga gb)) := by
  refine pt_imp (pt_cmpR ho ha hb hm) ?_
  rintro σ H Q ⟨G, S, ρ, w, kx, k, hr, sr, xl, kl, h⟩
  refine ⟨G, S, ρ, w, kx, _, hr, sr, xl, fun G1 S1 H1 w1 d x x1 hr1 rp h1 => ⟨G1, S1, ρ, w1, kx, _, hr1, sr.mono x1, xl.mono x1, fun G2 S2 H2 w2 e y x2 hr2 rp2 h2 => hf hr2 (rp.mono x2) rp2 (k := fun x w1 => match x with
    | .bl b => k b w1
    | _ => False) ?_ h2, h1⟩, h⟩
  intro G3 S3 H3 w3 z v x3 hr3 rp3 h3
  cases z with
  | bl q =>
    cases rp3
    exact ⟨q, rfl, kl _ _ _ _ _ ((x1.trans x2).trans x3) hr3 h3⟩
  | _ => exact h3.elim
theorem dt_lt (ha : DE X E a ga) (hb : DE X E b gb) : DT X E (.Compare a [.Lt] [b] pos) (gB (gBin ltD ga gb)) := dt_cmp op_ltD ok_ltD ha hb (nomark _)
theorem dt_gt (ha : DE X E a ga) (hb : DE X E b gb) : DT X E (.Compare a [.Gt] [b] pos) (gB (gBin gtD ga gb)) := dt_cmp op_gt ok_gtD ha hb (nomark _)
theorem dt_eq {k : Nat} (hr : Room k X.A) (ha : DE X E a ga) (hb : DE X E b gb) : DT X E (.Compare a [.Eq] [b] pos) (gB (gBin eqD ga gb)) := dt_cmp (op_eq.or (op_eqD hr.units)) ok_eqD ha hb (nomark _)
theorem dt_ne {k : Nat} (hr : Room k X.A) (ha : DE X E a ga) (hb : DE X E b gb) : DT X E (.Compare a [.NotEq] [b] pos) (gB (gBin neD ga gb)) := dt_cmp (op_ne.or (op_neD hr.units)) ok_neD ha hb (nomark _)
theorem dt_chain {op op' : CmpOp} {r r' : R2} {f f' : F2} (ho : OpR X (compareOp op) r) (hf : BinOk X.K r f) (ho' : OpR X (compareOp op') r') (hf' : BinOk X.K r' f') (ha : DE X E a ga) (hb : DE X E b gb) (hc : DE X E c gc)
    (hm : lastMarks [op, op'] [b, c] = false := by with_unfolding_all rfl) : DT X E (.Compare a [op, op'] [b, c] pos) (gB (gChain f f' ga gb gc)) := by
  refine pt_imp (pt_chain ho ho' ha hb hc hm) ?_
  rintro σ H Q ⟨G, S, ρ, w, kx, k, hr, sr, xl, kl, h⟩
  refine ⟨G, S, ρ, w, kx, _, hr, sr, xl, fun G1 S1 H1 w1 d x x1 hr1 rp h1 => ⟨G1, S1, ρ, w1, kx, _, hr1, sr.mono x1, xl.mono x1, fun G2 S2 H2 w2 e y x2 hr2 rp2 h2 => hf hr2 (rp.mono x2) rp2 (k := fun z w3 => match z with
    | .bl true => gc ρ w3 kx fun u w4 => f' e u w4 fun x w1 => match x with
      | .bl b => k b w1
      | _ => False
    | .bl false => k false w3
    | _ => False) ?_ h2, h1⟩, h⟩
  intro G3 S3 H3 w3 z v x3 hr3 rp3 h3
  have x03 := (x1.trans x2).trans x3
  cases z with
  | bl q =>
    cases rp3
    cases q with
    | false => exact ⟨false, rfl, false, rfl, kl _ _ _ _ _ x03 hr3 h3⟩
    | true => exact ⟨true, rfl, G3, S3, ρ, w3, kx, _, hr3, sr.mono x03, xl.mono x03, fun G4 S4 H4 w4 u v' x4 hr4 rp4 h4 => hf' hr4 ((rp2.mono x3).mono x4) rp4 (k := fun x w1 => match x with
      | .bl b => k b w1
      | _ => False) (fun G5 S5 H5 w5 z5 v5 x5 hr5 rp5 h5 => by
        cases z5 with
        | bl q5 =>
          cases rp5
          exact ⟨q5, rfl, kl _ _ _ _ _ ((x03.trans x4).trans x5) hr5 h5⟩
        | _ => exact h5.elim) h4, h3⟩
  | _ => exact h3.elim
def truD : D → Wd → KB → Prop := fun x w k => match x with
  | .non => k false w
  | .bl b => k b w
  | .int i => k (i != 0) w
  | .str y => y.length ≤ sizeLine ∧ k ((y.length : Int) != 0) w
  | .lst xs => k (!xs.isEmpty) w
  | .tup xs => k (!xs.isEmpty) w
  | _ => False
def gTru (g : GE) : GT := fun ρ w kx k => g ρ w kx fun x w1 => truD x w1 k
theorem rep_isEmpty {K : PySem.W.Frag} {G : Gh} {S : Hp} {xs : List V} {ds : List D} (r : RepAll K G S xs ds) : ds.isEmpty = xs.isEmpty := by
  cases r <;> rfl
theorem dt_truth (ha : DE X E a ga) (he : ∀ whole, isTrue a X.env whole = (do let v ← whole; standAt a.pos; holding [v] (truthy v)) := by intro _; rfl) : DT X E a (gTru ga) := by
  refine pt_imp (pt_truth ha he) ?_
  rintro σ H Q ⟨G, S, ρ, w, kx, k, hr, sr, xl, kl, h⟩
  refine ⟨G, S, ρ, w, kx, _, hr, sr, xl, fun G1 S1 H1 w1 d x x1 hr1 rp h1 => ?_, h⟩
  cases rp with
  | non => exact ⟨_, rfl, kl _ _ _ _ _ x1 hr1 h1⟩
  | bl b => exact ⟨_, rfl, kl _ _ _ _ _ x1 hr1 h1⟩
  | int i => exact ⟨_, rfl, kl _ _ _ _ _ x1 hr1 h1⟩
  | str y => exact ⟨_, ⟨h1.1, rfl⟩, kl _ _ _ _ _ x1 hr1 h1.2⟩
  | lst e r => exact ⟨_, .inl ⟨_, .inl (.inl (hr1.same _ _ e)), rfl⟩, by rw [← rep_isEmpty r]; exact kl _ _ _ _ _ x1 hr1 h1⟩
  | tup e r => exact ⟨_, .inr (.inl ⟨_, sqT_up hr1.same e, rfl⟩), by rw [← rep_isEmpty r]; exact kl _ _ _ _ _ x1 hr1 h1⟩
  | rf _ => exact h1.elim
  | st _ => exact h1.elim
  | ob _ => exact h1.elim
  | scr _ => exact h1.elim
def gAnd (t u : GT) : GT := fun ρ w kx k => t ρ w kx fun c w1 => if c = true then u ρ w1 kx k else k false w1
def gOr (t u : GT) : GT := fun ρ w kx k => t ρ w kx fun c w1 => if c = true then k true w1 else u ρ w1 kx k
def gNot (t : GT) : GT := fun ρ w kx k => t ρ w kx fun c w1 => k (!c) w1
theorem dw_or1 (ha : DT X E a ta) : DW X E (.BoolOp .Or [a] pos) ta := pw_or1 ha
theorem dw_or (ha : DT X E a ta) (hb : DW X E (.BoolOp .Or (b :: rest) pos) tb) : DW X E (.BoolOp .Or (a :: b :: rest) pos) (gOr ta tb) := by
  refine pw_imp (pw_or ha hb) ?_
  rintro σ H Q ⟨G, S, ρ, w, kx, k, hr, sr, xl, kl, h⟩
  refine ⟨G, S, ρ, w, kx, _, hr, sr, xl, fun G1 S1 H1 w1 c x1 hr1 h1 => ?_, h⟩
  cases c with
  | false => exact iteF ⟨G1, S1, ρ, w1, kx, k, hr1, sr.mono x1, xl.mono x1, kl.mono x1, by simpa using h1⟩
  | true => exact iteT (kl _ _ _ _ _ x1 hr1 (by simpa using h1))
theorem dt_w (h : DW X E a ta) : DT X E a ta := PW.pt h
theorem dt_not (ha : DT X E a ta) : DT X E (.UnaryOp .Not a pos) (gNot ta) := by
  refine pt_imp (pt_not ha) ?_
  rintro σ H Q ⟨G, S, ρ, w, kx, k, hr, sr, xl, kl, h⟩
  exact ⟨G, S, ρ, w, kx, _, hr, sr, xl, fun G1 S1 H1 w1 c x1 hr1 h1 => kl _ _ _ _ _ x1 hr1 h1, h⟩
def gAndV (ga gb : GE) : GE := fun ρ w kx k => ga ρ w kx fun x w1 => match x with
  | .bl true => gb ρ w1 kx k
  | .bl false => k (.bl false) w1
  | _ => False
def gOrV (ga gb : GE) : GE := fun ρ w kx k => ga ρ w kx fun x w1 => match x with
  | .bl true => k (.bl true) w1
  | .bl false => gb ρ w1 kx k
  | _ => False
def gNotV (ga : GE) : GE := fun ρ w kx k => ga ρ w kx fun x w1 => match x with
  | .bl b => k (.bl (!b)) w1
  | _ => False
theorem de_one {op} (h : DE X E a ga) : DE X E (.BoolOp op [a] pos) ga := pe_one h
theorem de_and (ha : DE X E a ga) (hb : DE X E (.BoolOp .And (b :: rest) pos) gb) : DE X E (.BoolOp .And (a :: b :: rest) pos) (gAndV ga gb) := by
  refine pe_imp (pe_and ha hb) ?_
  rintro σ H Q ⟨G, S, ρ, w, kx, k, hr, sr, xl, kl, h⟩
  refine ⟨G, S, ρ, w, kx, _, hr, sr, xl, fun G1 S1 H1 w1 d x x1 hr1 rp h1 => ?_, h⟩
  cases rp with
  | bl q =>
    cases q with
    | true => exact ⟨true, rfl, iteT ⟨G1, S1, ρ, w1, kx, k, hr1, sr.mono x1, xl.mono x1, kl.mono x1, h1⟩⟩
    | false => exact ⟨false, rfl, iteF ((kl.mono x1).here hr1 (.bl _) h1)⟩
  | _ => exact h1.elim
theorem de_or (ha : DE X E a ga) (hb : DE X E (.BoolOp .Or (b :: rest) pos) gb) : DE X E (.BoolOp .Or (a :: b :: rest) pos) (gOrV ga gb) := by
  refine pe_imp (pe_or ha hb) ?_
  rintro σ H Q ⟨G, S, ρ, w, kx, k, hr, sr, xl, kl, h⟩
  refine ⟨G, S, ρ, w, kx, _, hr, sr, xl, fun G1 S1 H1 w1 d x x1 hr1 rp h1 => ?_, h⟩
  cases rp with
  | bl q =>
    cases q with
    | false => exact ⟨false, rfl, iteF ⟨G1, S1, ρ, w1, kx, k, hr1, sr.mono x1, xl.mono x1, kl.mono x1, h1⟩⟩
    | true => exact ⟨true, rfl, iteT ((kl.mono x1).here hr1 (.bl _) h1)⟩
  | _ => exact h1.elim
theorem de_not (ha : DE X E a ga) : DE X E (.UnaryOp .Not a pos) (gNotV ga) := by
  refine pe_imp (pe_not ha) ?_
  rintro σ H Q ⟨G, S, ρ, w, kx, k, hr, sr, xl, kl, h⟩
  refine ⟨G, S, ρ, w, kx, _, hr, sr, xl, fun G1 S1 H1 w1 d x x1 hr1 rp h1 => ?_, h⟩
  cases rp with
  | bl q => exact ⟨q, rfl, (kl.mono x1).here hr1 (.bl _) h1⟩
  | _ => exact h1.elim
def gIf (t : GT) (ga gb : GE) : GE := fun ρ w kx k => t ρ w kx fun c w1 => if c = true then ga ρ w1 kx k else gb ρ w1 kx k
theorem de_ifExp {t : GT} (hc : DT X E c t) (ha : DE X E a ga) (hb : DE X E b gb) : DE X E (.IfExp c a b pos) (gIf t ga gb) := by
  refine pe_imp (pe_ifExp hc ha hb) ?_
  rintro σ H Q ⟨G, S, ρ, w, kx, k, hr, sr, xl, kl, h⟩
  refine ⟨G, S, ρ, w, kx, _, hr, sr, xl, fun G1 S1 H1 w1 c x1 hr1 h1 => ?_, h⟩
  cases c with
  | true => exact iteT ⟨G1, S1, ρ, w1, kx, k, hr1, sr.mono x1, xl.mono x1, kl.mono x1, by simpa using h1⟩
  | false => exact iteF ⟨G1, S1, ρ, w1, kx, k, hr1, sr.mono x1, xl.mono x1, kl.mono x1, by simpa using h1⟩
end
end DL

namespace DL
open PySem PySem.Spec PyProof.Rows L2

def gaNil : GA := fun _ w _ k => k [] w
def gaCons (g : GE) (r : GA) : GA := fun ρ w kx k => g ρ w kx fun x w1 => r ρ w1 kx fun xs w2 => k (x :: xs) w2
def gTup (t : GA) : GE := fun ρ w kx k => t ρ w kx fun xs w1 => xs.length ≤ sizeLine ∧ k (.tup xs) w1
def gLst (t : GA) : GE := fun ρ w kx k => t ρ w kx fun xs w1 => xs.length ≤ sizeLine ∧ k (.lst xs) w1
def gLstC (t : GA) : GE := fun ρ w kx k => t ρ w kx fun xs w1 => xs.length ≤ sizeLine ∧ k (.rf w1.M.length) ⟨w1.M ++ [.lst xs], w1.n⟩
section
variable {X : Cx} {E : XK} {e : Expr} {es : List Expr} {g : GE} {t : GA} {pos : Pos}
theorem da_nil : DA X E [] gaNil := pa_imp pa_nil (by
  rintro σ H Q ⟨G, S, ρ, w, kx, k, hr, sr, xl, kl, h⟩
  exact kl _ _ _ _ _ _ (Ext.refl _ _) hr .nil h)
theorem da_cons (ha : DE X E e g) (hr : DA X E es t) (hs : starEach (e :: es) X.env = (false, eval e X.env) :: starEach es X.env := by rfl) : DA X E (e :: es) (gaCons g t) := by
  refine pa_imp (pa_cons ha hr hs) ?_
  rintro σ H Q ⟨G, S, ρ, w, kx, k, hr, sr, xl, kl, h⟩
  exact ⟨G, S, ρ, w, kx, _, hr, sr, xl, fun G1 S1 H1 w1 d x x1 hr1 rp h1 => ⟨G1, S1, ρ, w1, kx, _, hr1, sr.mono x1, xl.mono x1, fun G2 S2 H2 w2 ds xs x2 hr2 rp2 h2 => kl _ _ _ _ _ _ (x1.trans x2) hr2 (.cons (rp.mono x2) rp2) h2, h1⟩, h⟩
theorem de_tup {x1} (h : DA X E es t) : DE X E (.Tuple es x1 pos) (gTup t) := by
  refine pe_imp (pe_tup h) ?_
  rintro σ H Q ⟨G, S, ρ, w, kx, k, hr, sr, xl, kl, h⟩
  exact ⟨G, S, ρ, w, kx, _, hr, sr, xl, fun G1 S1 H1 w1 ds xs x1 hr1 rp h1 => ⟨by rw [rp.length]; exact h1.1, (kl.mono x1).newT hr1 rp h1.2⟩, h⟩
theorem de_lst (h : DA X E es t) : DE X E (.List es pos) (gLst t) := by
  refine pe_imp (pe_lst h) ?_
  rintro σ H Q ⟨G, S, ρ, w, kx, k, hr, sr, xl, kl, h⟩
  exact ⟨G, S, ρ, w, kx, _, hr, sr, xl, fun G1 S1 H1 w1 ds xs x1 hr1 rp h1 => ⟨by rw [rp.length]; exact h1.1, (kl.mono x1).newL hr1 rp h1.2⟩, h⟩
theorem KL.newCL {K : PySem.W.Frag} {G : Gh} {S H : Hp} {w : Wd} {k : KD} {Q : VK} {xs : List V} {ds : List D} (kl : KL K G S k Q) (hr : HR K G S w H) (r : RepAll K G S xs ds) (h : k (.rf w.M.length) ⟨w.M ++ [.lst ds], w.n⟩) : ∀ p, H p = none → Q (.ref p) (upd H p (.lst xs)) := fun p hp => by
  have x : Ext G S ⟨G.al ++ [p], G.st, G.fr⟩ S := ⟨⟨[p], rfl⟩, fun _ z => z, fun _ z => z, Same.refl S⟩
  obtain ⟨h1, _⟩ := hr.newC hp (.lst xs) (.lst ds) ⟨hr.freshS hp, xs, upd_same, r.mono x⟩
  refine kl _ _ _ _ _ _ x h1 (.rf ?_) h
  show (G.al ++ [p])[w.M.length]? = some p
  rw [List.getElem?_append_right (by rw [hr.len]; exact Nat.le_refl _), hr.len, Nat.sub_self]
  rfl
theorem de_lstC (h : DA X E es t) : DE X E (.List es pos) (gLstC t) := by
  refine pe_imp (pe_lst h) ?_
  rintro σ H Q ⟨G, S, ρ, w, kx, k, hr, sr, xl, kl, h⟩
  exact ⟨G, S, ρ, w, kx, _, hr, sr, xl, fun G1 S1 H1 w1 ds xs x1 hr1 rp h1 => ⟨by rw [rp.length]; exact h1.1, (kl.mono x1).newCL hr1 rp h1.2⟩, h⟩
def gFrz (g : GE) : GE := fun ρ w kx k => g ρ w kx fun x w1 => match x with
  | .rf i => match w1.M[i]? with
    | some (.lst ds) => k (.lst ds) ⟨w1.M.set i .dead, w1.n⟩
    | _ => False
  | _ => False
theorem de_frz (h : DE X E e g) : DE X E e (gFrz g) := by
  refine pe_imp h ?_
  rintro σ H Q ⟨G, S, ρ, w, kx, k, hr, sr, xl, kl, h⟩
  refine ⟨G, S, ρ, w, kx, _, hr, sr, xl, fun G1 S1 H1 w1 d x x1 hr1 rp h1 => ?_, h⟩
  cases rp with
  | rf ha =>
    rename_i a i
    simp only at h1
    split at h1
    · rename_i ds e2
      obtain ⟨S2, hr2, x2, rp2⟩ := hr1.freeze ha e2
      exact kl _ _ _ _ _ _ (x1.trans x2) hr2 rp2 h1
    · exact h1.elim
  | _ => exact h1.elim
end

def seqD (d : D) (w : Wd) : Option (List D) := match d with
  | .lst xs => some xs
  | .tup xs => some xs
  | .rf c => match w.M[c]? with
    | some (.lst xs) => some xs
    | _ => none
  | _ => none
theorem rep_seq {K : PySem.W.Frag} {G : Gh} {S H : Hp} {w : Wd} {v : V} {d : D} {ds : List D} (hr : HR K G S w H) (r : Rep K G S v d) (h : seqD d w = some ds) :
    ∃ a xs, v = .ref a ∧ (SqL K H a xs ∨ SqT K H a xs) ∧ RepAll K G S xs ds := by
  cases r with
  | lst e r => cases h; exact ⟨_, _, rfl, .inl (.inl (.inl (hr.same _ _ e))), r⟩
  | tup e r => cases h; exact ⟨_, _, rfl, .inr (sqT_up hr.same e), r⟩
  | rf e =>
    rename_i a i
    unfold seqD at h
    simp only at h
    split at h
    · rename_i xs e2
      cases h
      obtain ⟨_, ys, h1, h2⟩ := hr.cell i a _ e e2
      exact ⟨_, _, rfl, .inl (.inl (.inl h1)), h2⟩
    · cases h
  | _ => cases h
theorem rep_at {K : PySem.W.Frag} {G : Gh} {S : Hp} {xs : List V} {ds : List D} {i : Int} {d : D} (r : RepAll K G S xs ds) (h : atI ds i = some d) : ∃ v, atI xs i = some v ∧ Rep K G S v d := by
  unfold atI at h ⊢
  rw [r.length]
  cases e : ixN ds.length i with
  | none => rw [e] at h; cases h
  | some j =>
    rw [e] at h
    exact r.get h
def ixD : F2 := fun x y w k => match y with
  | .int i => match x with
    | .str z => z.length ≤ sizeLine ∧ match atI z.cps.toList i with
      | some c => k (.str ⟨#[c]⟩) w
      | none => False
    | _ => match seqD x w with
      | some ds => match atI ds i with
        | some d => k d w
        | none => False
      | none => False
  | _ => False
theorem ok_ixD {K : PySem.W.Frag} : BinOk K (rIx K) ixD := by
  intro G S H w x y d e k Q hr rx ry kl h
  cases ry with
  | int i =>
    have seq : (match seqD d w with
      | some ds => match atI ds i with
        | some d => k d w
        | none => False
      | none => False) → rIx K x (.int i) H Q := fun h => by
      split at h
      · rename_i ds e1
        split at h
        · rename_i d2 e2
          obtain ⟨a, xs, rfl, hs, r⟩ := rep_seq hr rx e1
          obtain ⟨v, h1, h2⟩ := rep_at r e2
          rcases hs with hs | hs
          · exact .inl ⟨_, _, _, _, rfl, rfl, hs, h1, kl.here hr h2 h⟩
          · exact .inr (.inl ⟨_, _, _, _, rfl, rfl, hs, h1, kl.here hr h2 h⟩)
        · exact h.elim
      · exact h.elim
    cases rx with
    | str z =>
      obtain ⟨h1, h⟩ := h
      split at h
      · rename_i c e2
        exact .inr (.inr ⟨_, _, _, rfl, rfl, h1, e2, kl.here hr (.str _) h⟩)
      · exact h.elim
    | lst e1 r => exact seq h
    | tup e1 r => exact seq h
    | rf e1 => exact seq h
    | _ => exact h.elim
  | _ => exact h.elim
section
variable {X : Cx} {E : XK} {a b : Expr} {ga gb : GE} {pos : Pos}
theorem de_ix (ha : DE X E a ga) (hb : DE X E b gb) (hs : PlainIx b := by exact fun _ _ => rfl) : DE X E (.Subscript a b pos) (gBin ixD ga gb) := pe_imp (pe_ix ix_seq ha hb hs) (bin_up ok_ixD)
end
abbrev GO := Rho → Wd → KX → (Option Int → Wd → Prop) → Prop
def upO (K : PySem.W.Frag) (E : XK) (g : GO) : TO := fun σ H Q => ∃ G S ρ w kx k, HR K G S w H ∧ SR K G S σ ρ ∧ XL K G S kx E ∧ (∀ G' S' H' w' o, Ext G S G' S' → HR K G' S' w' H' → k o w' → Q o H') ∧ g ρ w kx k
def DO (X : Cx) (E : XK) (e : Option Expr) (g : GO) : Prop := PO X e (upO X.K E g)
def goNone : GO := fun _ w _ k => k none w
def goSome (g : GE) : GO := fun ρ w kx k => g ρ w kx fun x w1 => match x with
  | .int i => k (some i) w1
  | _ => False
def cutD {α : Type} (xs : List α) (lo hi : Option Int) : List α := (xs.drop (HT.sIx xs.length 0 lo)).take (HT.sIx xs.length xs.length hi - HT.sIx xs.length 0 lo)
def slD : D → Option Int → Option Int → Wd → KD → Prop := fun x lo hi w k => match x with
  | .lst ds => k (.lst (cutD ds lo hi)) w
  | .tup ds => ¬ (HT.sIx ds.length 0 lo = 0 ∧ HT.sIx ds.length ds.length hi = ds.length) ∧ k (.tup (cutD ds lo hi)) w
  | .rf i => match w.M[i]? with
    | some (.lst ds) => k (.lst (cutD ds lo hi)) w
    | _ => False
  | _ => False
def gSl (f : D → Option Int → Option Int → Wd → KD → Prop) (g : GE) (l h : GO) : GE := fun ρ w kx k => g ρ w kx fun x w1 => l ρ w1 kx fun lo w2 => h ρ w2 kx fun hi w3 => f x lo hi w3 k
def SlOk (K : PySem.W.Frag) (r : V → Option Int → Option Int → Hp → VK → Prop) (f : D → Option Int → Option Int → Wd → KD → Prop) : Prop := ∀ {G S H w x d lo hi k Q}, HR K G S w H → Rep K G S x d → KL K G S k Q → f d lo hi w k → r x lo hi H Q
theorem rep_cut {K : PySem.W.Frag} {G : Gh} {S : Hp} {xs : List V} {ds : List D} {lo hi : Option Int} (r : RepAll K G S xs ds) : RepAll K G S (cutV xs lo hi) (cutD ds lo hi) := by
  unfold cutV cutD
  rw [r.length]
  exact (r.drop _).take _
section
variable {X : Cx} {E : XK} {a b : Expr} {ga gb : GE} {gl gh : GO} {pos p2 : Pos} {lo hi : Option Expr}
theorem do_none : DO X E none goNone := by
  have h := po_none (X := X)
  refine ⟨fun pins s σ H Q I q => h.run pins s σ H Q I ?_⟩
  obtain ⟨G, S, ρ, w, kx, k, hr, sr, xl, kl, h⟩ := q
  exact kl _ _ _ _ _ (Ext.refl _ _) hr h
theorem do_some (ha : DE X E a ga) : DO X E (some a) (goSome ga) := by
  have h := po_some (X := X) ha
  refine ⟨fun pins s σ H Q I q => h.run pins s σ H Q I ?_⟩
  obtain ⟨G, S, ρ, w, kx, k, hr, sr, xl, kl, h⟩ := q
  refine ⟨G, S, ρ, w, kx, _, hr, sr, xl, fun G1 S1 H1 w1 d x x1 hr1 rp h1 => ?_, h⟩
  cases rp with
  | int i => exact ⟨i, rfl, kl _ _ _ _ _ x1 hr1 h1⟩
  | _ => exact h1.elim
theorem de_slice {r : V → Option Int → Option Int → Hp → VK → Prop} {f : D → Option Int → Option Int → Wd → KD → Prop} (hs : SlR X r) (hf : SlOk X.K r f) (he : DE X E a ga) (hl : DO X E lo gl) (hu : DO X E hi gh) : DE X E (.Subscript a (.Slice lo hi none p2) pos) (gSl f ga gl gh) := by
  refine pe_imp (pe_slice hs he hl hu) ?_
  rintro σ H Q ⟨G, S, ρ, w, kx, k, hr, sr, xl, kl, h⟩
  exact ⟨G, S, ρ, w, kx, _, hr, sr, xl, fun G1 S1 H1 w1 d x x1 hr1 rp h1 => ⟨G1, S1, ρ, w1, kx, _, hr1, sr.mono x1, xl.mono x1, fun G2 S2 H2 w2 l x2 hr2 h2 =>
    ⟨G2, S2, ρ, w2, kx, _, hr2, sr.mono (x1.trans x2), xl.mono (x1.trans x2), fun G3 S3 H3 w3 u x3 hr3 h3 => hf hr3 (rp.mono (x2.trans x3)) (kl.mono ((x1.trans x2).trans x3)) h3, h2⟩, h1⟩, h⟩
def rSlLT (K : PySem.W.Frag) : V → Option Int → Option Int → Hp → VK → Prop := fun x lo hi H Q => rSlL K x lo hi H Q ∨ rSlT K x lo hi H Q
end
end DL

namespace DL
open PySem PySem.Spec PyProof.Rows L2

abbrev GF := List D → Wd → KX → KD → Prop
abbrev noX : KX := fun _ _ => False
def upF (n : Nat) (K : PySem.W.Frag) (g : GF) : Sp := fun vs H Q E => ∃ G S ds w kx k, ds.length = n ∧ HR K G S w H ∧ RepAll K G S vs ds ∧ XL K G S kx E ∧ KL K G S k Q ∧ g ds w kx k
theorem up_imp {n : Nat} {K : PySem.W.Frag} {g g' : GF} (h : ∀ ds w kx k, g' ds w kx k → g ds w kx k) : ∀ vs H Q E, upF n K g' vs H Q E → upF n K g vs H Q E := by
  rintro vs H Q E ⟨G, S, ds, w, kx, k, h1, h2, h3, h4, h5, h6⟩
  exact ⟨G, S, ds, w, kx, k, h1, h2, h3, h4, h5, h _ _ _ _ h6⟩
theorem xl_no {K : PySem.W.Frag} {G : Gh} {S : Hp} {E : XK} : XL K G S noX E := fun _ _ _ _ _ _ _ _ _ _ h => h.elim
def rho (n : Nat) (ds : List D) : Rho := ds.map some ++ List.replicate (n - ds.length) none
def sem0 (n : Nat) (g : GS) : GF := fun ds w _ k => g { nx := fun _ w' => k .non w', rt := k, ex := noX } (rho n ds) w
def semX (n : Nat) (g : GS) : GF := fun ds w kx k => g { nx := fun _ w' => k .non w', rt := k, ex := kx } (rho n ds) w
theorem sr_start {K : PySem.W.Frag} {G : Gh} {S : Hp} {N : List Str} : ∀ {vs : List V} {ds : List D}, RepAll K G S vs ds → SR K G S (L2.start N vs) (rho N.length ds) := by
  intro vs ds r
  have l := r.length
  refine ⟨by simp [L2.start, rho, l], fun i d e => ?_⟩
  unfold rho at e
  by_cases hi : i < ds.length
  · rw [List.getElem?_append_left (by simpa using hi)] at e
    have e' : ds[i]? = some d := by
      rw [List.getElem?_map] at e
      cases q : ds[i]? with
      | none => rw [q] at e; cases e
      | some z => rw [q] at e; simpa using e
    obtain ⟨v, h1, h2⟩ := r.get e'
    refine ⟨v, ?_, h2⟩
    unfold L2.start
    rw [List.getElem?_append_left (by simpa [l] using hi), List.getElem?_map, h1]
    rfl
  · rw [List.getElem?_append_right (by simpa using Nat.le_of_not_lt hi)] at e
    have := List.mem_of_getElem? e
    rw [List.mem_replicate] at this
    cases this.2
structure DefAt (K : PySem.W.Frag) (mg : Str → Option Value) (x : Str) (st : Stmt) (ps : List Str) : Prop where
  ex : ∃ f fd, Fun K x x st f fd ∧ mg x = some (.ref f) ∧ Binds K fd ps []
structure FnAt (P : Program) (w : World) (K : PySem.W.Frag) (mg : Str → Option Value) (base : Heap) (CX : CXT) (k : Nat) (x : Str) (n : Nat) (g : GF) : Prop where
  ex : ∃ f fd ps, FnOk P w K mg base CX k f fd ps (upF n K g) ∧ mg x = some (.ref f) ∧ PySem.W.keepIn K (.ref f) = true ∧ Binds K fd ps []
section
variable {P : Program} {w : World} {K : PySem.W.Frag} {mg : Str → Option Value} {base : Heap}
theorem FnAt.imp {CX : CXT} {k : Nat} {x : Str} {n : Nat} {g g' : GF} (h : FnAt P w K mg base CX k x n g) (i : ∀ ds w kx k, g' ds w kx k → g ds w kx k) : FnAt P w K mg base CX k x n g' := by
  obtain ⟨f, fd, ps, h1, h2⟩ := h.ex
  exact ⟨f, fd, ps, h1.imp (up_imp i), h2⟩
theorem FnAt.mono {CX : CXT} {j k : Nat} {x : Str} {n : Nat} {g : GF} (h : FnAt P w K mg base CX j x n g) (i : j ≤ k) : FnAt P w K mg base CX k x n g := by
  obtain ⟨f, fd, ps, h1, h2⟩ := h.ex
  exact ⟨f, fd, ps, h1.mono i, h2⟩
theorem fun_fn0 {x : Str} {st : Stmt} {f : Addr} {fd : FuncData} {N ps : List Str} {k : Nat} {g : GS} (F : Fun K x x st f fd) (S : FnScope N ps (defScope st))
    (hbody : ∀ (f : Addr) (cdv : Value) (A : Around) (outer : List Env) (s : Shared) (H : Hp) (E : XK), Room k (A.deeper (envOfC x (defScope st) s.heap.objs.size f cdv)) →
      DSs (cxOf CX0 P w K mg base N x (defScope st) f cdv A outer s H E).nox E0 (defBody st) g) : FnOk P w K mg base CX0 (k + 1) f fd ps (upF ps.length K (sem0 N.length g)) := by
  refine F.ok S (fun vs H Q E h => ?_) (fun cdv A outer s H vs Q E hr h => ?_)
  · obtain ⟨G, S, ds, w, kx, k, h1, h2, h3, _⟩ := h
    rw [h3.length, h1]
  · obtain ⟨G, S1, ds, w1, kx, k1, h1, h2, h3, h4, h5, h6⟩ := h
    refine ⟨_, hbody f cdv A outer s H E hr, G, S1, rho N.length ds, w1, { nx := fun _ w' => k1 .non w', rt := k1, ex := noX }, h2, sr_start h3, ⟨fun G' S' H' w' ρ' σ' x1 hr1 _ hk => h5 _ _ _ _ _ _ x1 hr1 .non hk, h5, ?_, ?_, xl_no⟩, h6⟩
    · intro _ _ _ _ _ _ _ _ _ z
      exact z.elim
    · intro _ _ _ _ _ _ _ _ _ z
      exact z.elim
theorem DefAt.fn0 {x : Str} {st : Stmt} {N ps : List Str} {k : Nat} {g : GS} (T : DefAt K mg x st ps) (S : FnScope N ps (defScope st))
    (hbody : ∀ (f : Addr) (cdv : Value) (A : Around) (outer : List Env) (s : Shared) (H : Hp) (E : XK), Room k (A.deeper (envOfC x (defScope st) s.heap.objs.size f cdv)) →
      DSs (cxOf CX0 P w K mg base N x (defScope st) f cdv A outer s H E).nox E0 (defBody st) g) : FnAt P w K mg base CX0 (k + 1) x ps.length (sem0 N.length g) := by
  obtain ⟨f, fd, F, hm, hb⟩ := T.ex
  exact ⟨f, fd, ps, fun_fn0 F S hbody, hm, F.kp, hb⟩
theorem DefAt.mk0 {x : Str} {st : Stmt} {ps : List Str} {k n : Nat} {g : GF} (T : DefAt K mg x st ps) (h : ∀ f fd, Fun K x x st f fd → FnOk P w K mg base CX0 k f fd ps (upF n K g)) : FnAt P w K mg base CX0 k x n g := by
  obtain ⟨f, fd, F, hm, hb⟩ := T.ex
  exact ⟨f, fd, ps, h f fd F, hm, F.kp, hb⟩
end
section
variable {X : Cx} {E : XK} {k n : Nat} {g : GF} {x : Str} {e : Expr} {es : List Expr} {ga : GA} {p pos : Pos}
def gCall0 (n : Nat) (g : GF) (ga : GA) : GE := fun ρ w kx k => ga ρ w kx fun ds w1 => ds.length = n ∧ g ds w1 noX k
theorem de_call0 {j : Nat} (F : FnAt X.prog X.w X.K X.mg X.base CX0 j x n g) (hr : Room k X.A) (hg : Gl X x) (ha : DA X E (e :: es) ga) (hjk : j ≤ k := by decide) (hdb : (x == ("__debug__" : Str)) = false := by decide) (he : starEach (e :: es) X.env = (false, eval e X.env) :: starEach es X.env := by rfl) (hpl : (backTo pos (starEach es X.env)).any (·.1) = false := by rfl) :
    DE X E (.Call (.Name x p) (e :: es) [] pos) (gCall0 n g ga) := by
  obtain ⟨f, fd, ps, h1, h2, h3, h4⟩ := F.ex
  refine pe_imp (pe_call h1 (hr.mono hjk) hg h2 h3 h4 .nil pass0 ha hdb he hpl) ?_
  rintro σ H Q ⟨G, S, ρ, w, kx, k, hr, sr, xl, kl, h⟩
  refine ⟨G, S, ρ, w, kx, _, hr, sr, xl, fun G1 S1 H1 w1 ds vs x1 hr1 rp hq => ?_, h⟩
  show upF n X.K g (vs ++ []) H1 Q E0
  rw [List.append_nil]
  exact ⟨G1, S1, ds, w1, noX, k, hq.1, hr1, rp, xl_no, kl.mono x1, hq.2⟩
end

abbrev FB := List D → Wd → KD → Prop
def CallOk (K : PySem.W.Frag) (r : List V → Hp → VK → Prop) (f : FB) : Prop := ∀ {G S H w xs ds k Q}, HR K G S w H → RepAll K G S xs ds → KL K G S k Q → f ds w k → r xs H Q
def gCB (f : FB) (ga : GA) : GE := fun ρ w kx k => ga ρ w kx fun ds w1 => f ds w1 k
section
variable {X : Cx} {E : XK} {r : List V → Hp → VK → Prop} {f : FB} {id T : String} {x : Str} {e : Expr} {es : List Expr} {ga : GA} {p pos : Pos}
theorem cb_up {K : PySem.W.Frag} (hf : CallOk K r f) : ∀ σ H Q, upE K E (gCB f ga) σ H Q → tCB r (upA K E ga) σ H Q := by
  rintro σ H Q ⟨G, S, ρ, w, kx, k, hr, sr, xl, kl, h⟩
  exact ⟨G, S, ρ, w, kx, _, hr, sr, xl, fun G1 S1 H1 w1 ds vs x1 hr1 rp hq => hf hr1 rp (kl.mono x1) hq, h⟩
theorem de_cb (hc : CallR X (.builtin id) r) (hf : CallOk X.K r f) (hg : Gl X x) (hm : X.mg x = none) (hv : bootBuiltins x = some (.builtin id)) (ha : DA X E (e :: es) ga) (hn : x ≠ "__name__" := by decide) (hdb : (x == ("__debug__" : Str)) = false := by decide)
    (he : starEach (e :: es) X.env = (false, eval e X.env) :: starEach es X.env := by rfl) (hpl : (backTo pos (starEach es X.env)).any (·.1) = false := by rfl) : DE X E (.Call (.Name x p) (e :: es) [] pos) (gCB f ga) :=
  pe_imp (pe_callB hc hg hm hv ha hn hdb he hpl) (cb_up hf)
theorem de_ct (hc : CallR X (.type T) r) (hf : CallOk X.K r f) (hg : Gl X x) (hm : X.mg x = none) (hv : bootBuiltins x = some (.type T)) (ha : DA X E (e :: es) ga) (hn : x ≠ "__name__" := by decide) (hdb : (x == ("__debug__" : Str)) = false := by decide)
    (he : starEach (e :: es) X.env = (false, eval e X.env) :: starEach es X.env := by rfl) (hpl : (backTo pos (starEach es X.env)).any (·.1) = false := by rfl) : DE X E (.Call (.Name x p) (e :: es) [] pos) (gCB f ga) :=
  pe_imp (pe_callTy hc hg hm hv ha hn hdb he hpl) (cb_up hf)
end
theorem one_rep {K : PySem.W.Frag} {G : Gh} {S : Hp} {xs : List V} {d : D} (r : RepAll K G S xs [d]) : ∃ v, xs = [v] ∧ Rep K G S v d := by
  cases r with
  | cons h t => cases t; exact ⟨_, rfl, h⟩
theorem two_rep {K : PySem.W.Frag} {G : Gh} {S : Hp} {xs : List V} {d e : D} (r : RepAll K G S xs [d, e]) : ∃ v u, xs = [v, u] ∧ Rep K G S v d ∧ Rep K G S u e := by
  cases r with
  | cons h t =>
    obtain ⟨u, rfl, h2⟩ := one_rep t
    exact ⟨_, _, rfl, h, h2⟩
def fAbs : FB := fun ds w k => match ds with
  | [.int i] => k (.int i.natAbs) w
  | _ => False
theorem ok_abs {K : PySem.W.Frag} : CallOk K (fun xs H Q => ∃ i, xs = [.int i] ∧ Q (.int (if i < 0 then -i else i)) H) fAbs := by
  intro G S H w xs ds k Q hr rx kl h
  unfold fAbs at h
  split at h
  · rename_i i
    obtain ⟨v, rfl, r⟩ := one_rep rx
    cases r
    refine ⟨_, rfl, ?_⟩
    have e : (if i < 0 then -i else i) = (i.natAbs : Int) := by split <;> omega
    rw [e]
    exact kl.here hr (.int _) h
  · exact h.elim
def fLen : FB := fun ds w k => match ds with
  | [.str z] => z.length ≤ sizeLine ∧ k (.int z.length) w
  | [d] => match seqD d w with
    | some xs => k (.int xs.length) w
    | none => match d with
      | .rf c => match w.M[c]? with
        | some (.dk kvs) => k (.int kvs.length) w
        | _ => False
      | _ => False
  | _ => False
def rLen (K : PySem.W.Frag) : List V → Hp → VK → Prop := fun xs H Q => (∃ x n, xs = [x] ∧ LenV K x H n ∧ Q (.int n) H) ∨ (∃ (a : Addr) (kvs : List (Key × V)), xs = [V.ref a] ∧ Rd H a (.dK kvs) ∧ Q (.int kvs.length) H)
theorem call_lenR {X : Cx} : CallR X (.builtin "len") (rLen X.K) := by
  intro pins s σ H xs us Q I r h
  rcases h with h | ⟨a, kvs, rfl, hd, q⟩
  · exact call_len pins s σ H xs us Q I r h
  · obtain ⟨u, rfl, r1⟩ := vals1 r
    cases r1
    exact d_len I hd fun t s' I' => ⟨.int kvs.length, H, I', ⟨_, rfl⟩, q⟩
theorem fs_len {K : PySem.W.Frag} {G : Gh} {S : Hp} {κ : Type} {xs : List (κ × V)} {ds : List (κ × D)} (r : FsRep K G S xs ds) : xs.length = ds.length := Paired.length r
theorem ok_len {K : PySem.W.Frag} : CallOk K (rLen K) fLen := by
  intro G S H w xs ds k Q hr rx kl h
  unfold fLen at h
  split at h
  · obtain ⟨v, rfl, r⟩ := one_rep rx
    cases r
    exact .inl ⟨_, _, rfl, ⟨h.1, rfl⟩, kl.here hr (.int _) h.2⟩
  · rename_i d hd
    obtain ⟨v, rfl, r⟩ := one_rep rx
    split at h
    · rename_i xs e1
      obtain ⟨a, ys, rfl, hs, r2⟩ := rep_seq hr r e1
      refine .inl ⟨_, _, rfl, ?_, kl.here hr (.int _) h⟩
      rcases hs with hs | hs
      · exact .inl ⟨ys, hs, r2.length.symm⟩
      · exact .inr ⟨ys, hs, r2.length.symm⟩
    · split at h
      · rename_i c
        split at h
        · rename_i kvs e2
          cases r with
          | rf ha =>
            obtain ⟨_, ks, h1, h2⟩ := hr.cell _ _ _ ha e2
            refine .inr ⟨_, ks, rfl, .inl h1, ?_⟩
            rw [fs_len h2]
            exact kl.here hr (.int _) h
        · exact h.elim
      · exact h.elim
  · exact h.elim
def tyD (d : D) (w : Wd) : Option String := match d with
  | .non => some "NoneType"
  | .bl _ => some "bool"
  | .int _ => some "int"
  | .str _ => some "str"
  | .lst _ => some "list"
  | .tup _ => some "tuple"
  | .rf c => match w.M[c]? with
    | some (.lst _) => some "list"
    | some (.dk _) => some "dict"
    | _ => none
  | _ => none
theorem tyX_tup {K : PySem.W.Frag} {H : Hp} {a : Addr} {xs : List V} (h : SqT K H a xs) : TyX K H (.ref a) (.type "tuple") := by
  rcases h with (h | ⟨o, h⟩) | ⟨o, its, n, h1, h2, _⟩
  · exact .base (.tup h)
  · exact .fTuple h
  · exact .kTuple h1 h2
theorem rep_ty {K : PySem.W.Frag} {G : Gh} {S H : Hp} {w : Wd} {v : V} {d : D} {t : String} (hr : HR K G S w H) (r : Rep K G S v d) (h : tyD d w = some t) : TyX K H v (.type t) := by
  cases r with
  | non => cases h; exact .base .non
  | bl b => cases h; exact .base (.bl b)
  | int b => cases h; exact .base (.int b)
  | str b => cases h; exact .base (.str b)
  | lst e r => cases h; exact .base (.lst (hr.same _ _ e))
  | tup e r => cases h; exact tyX_tup (sqT_up hr.same e)
  | rf e =>
    unfold tyD at h
    simp only at h
    split at h
    · rename_i xs e2
      cases h
      obtain ⟨_, ys, h1, h2⟩ := hr.cell _ _ _ e e2
      exact .base (.lst h1)
    · rename_i xs e2
      cases h
      obtain ⟨_, ys, h1, h2⟩ := hr.cell _ _ _ e e2
      exact .base (.dK h1)
    · cases h
  | _ => cases h
def fIsi : FB := fun ds w k => match ds with
  | [x, .ob (.ty n)] => match tyD x w with
    | some t => match kitB t n with
      | some b => k (.bl b) w
      | none => False
    | none => False
  | _ => False
theorem ok_isi {K : PySem.W.Frag} : CallOk K (rIsi K) fIsi := by
  intro G S H w xs ds k Q hr rx kl h
  unfold fIsi at h
  split at h
  · rename_i x n
    split at h
    · rename_i t e1
      split at h
      · rename_i b e2
        obtain ⟨v, u, rfl, r1, r2⟩ := two_rep rx
        cases r2
        exact ⟨_, _, _, _, b, rfl, .ty n, rep_ty hr r1 e1, kit_ty e2, kl.here hr (.bl _) h⟩
      · exact h.elim
    · exact h.elim
  · exact h.elim
theorem kit_int_int : kitB "int" "int" = some true := by decide +kernel
theorem kit_bool_int : kitB "bool" "int" = some true := by decide +kernel
theorem kit_str_int : kitB "str" "int" = some false := by decide +kernel
theorem kit_non_int : kitB "NoneType" "int" = some false := by decide +kernel
theorem kit_list_int : kitB "list" "int" = some false := by decide +kernel
theorem kit_tuple_int : kitB "tuple" "int" = some false := by decide +kernel
theorem kit_dict_int : kitB "dict" "int" = some false := by decide +kernel
theorem kit_int_bool : kitB "int" "bool" = some false := by decide +kernel
theorem kit_bool_bool : kitB "bool" "bool" = some true := by decide +kernel
theorem kit_str_bool : kitB "str" "bool" = some false := by decide +kernel
theorem kit_non_bool : kitB "NoneType" "bool" = some false := by decide +kernel
theorem kit_list_bool : kitB "list" "bool" = some false := by decide +kernel
theorem kit_tuple_bool : kitB "tuple" "bool" = some false := by decide +kernel
theorem kit_dict_bool : kitB "dict" "bool" = some false := by decide +kernel
theorem kit_int_str : kitB "int" "str" = some false := by decide +kernel
theorem kit_bool_str : kitB "bool" "str" = some false := by decide +kernel
theorem kit_str_str : kitB "str" "str" = some true := by decide +kernel
theorem kit_non_str : kitB "NoneType" "str" = some false := by decide +kernel
theorem kit_list_str : kitB "list" "str" = some false := by decide +kernel
theorem kit_tuple_str : kitB "tuple" "str" = some false := by decide +kernel
theorem kit_int_list : kitB "int" "list" = some false := by decide +kernel
theorem kit_bool_list : kitB "bool" "list" = some false := by decide +kernel
theorem kit_str_list : kitB "str" "list" = some false := by decide +kernel
theorem kit_non_list : kitB "NoneType" "list" = some false := by decide +kernel
theorem kit_list_list : kitB "list" "list" = some true := by decide +kernel
theorem kit_tuple_list : kitB "tuple" "list" = some false := by decide +kernel
theorem kit_int_tuple : kitB "int" "tuple" = some false := by decide +kernel
theorem kit_bool_tuple : kitB "bool" "tuple" = some false := by decide +kernel
theorem kit_str_tuple : kitB "str" "tuple" = some false := by decide +kernel
theorem kit_non_tuple : kitB "NoneType" "tuple" = some false := by decide +kernel
theorem kit_list_tuple : kitB "list" "tuple" = some false := by decide +kernel
theorem kit_tuple_tuple : kitB "tuple" "tuple" = some true := by decide +kernel
def allBl : List D → Option (List Bool)
  | [] => some []
  | .bl b :: r => match allBl r with
    | some bs => some (b :: bs)
    | none => none
  | _ => none
def allInt : List D → Option (List Int)
  | [] => some []
  | .int b :: r => match allInt r with
    | some bs => some (b :: bs)
    | none => none
  | _ => none
theorem rep_bls {K : PySem.W.Frag} {G : Gh} {S : Hp} : ∀ {ds : List D} {vs : List V} {bs : List Bool}, RepAll K G S vs ds → allBl ds = some bs → vs = bs.map V.bl
  | [], _, _, r, e => by
    cases r
    cases e
    rfl
  | d :: ds, _, _, r, e => by
    cases r with
    | cons h r =>
      cases d with
      | bl b =>
        cases h
        unfold allBl at e
        cases q : allBl ds with
        | none =>
          rw [q] at e
          cases e
        | some bs =>
          rw [q] at e
          cases e
          rw [rep_bls r q]
          rfl
      | _ => simp [allBl] at e
theorem rep_ints {K : PySem.W.Frag} {G : Gh} {S : Hp} : ∀ {ds : List D} {vs : List V} {bs : List Int}, RepAll K G S vs ds → allInt ds = some bs → vs = bs.map V.int
  | [], _, _, r, e => by
    cases r
    cases e
    rfl
  | d :: ds, _, _, r, e => by
    cases r with
    | cons h r =>
      cases d with
      | int b =>
        cases h
        unfold allInt at e
        cases q : allInt ds with
        | none =>
          rw [q] at e
          cases e
        | some bs =>
          rw [q] at e
          cases e
          rw [rep_ints r q]
          rfl
      | _ => simp [allInt] at e
def fAll : FB := fun ds w k => match ds with
  | [.lst xs] => match allBl xs with
    | some bs => k (.bl (bs.all id)) w
    | none => False
  | _ => False
def fAny : FB := fun ds w k => match ds with
  | [.lst xs] => match allBl xs with
    | some bs => k (.bl (bs.any id)) w
    | none => False
  | _ => False
theorem ok_all {K : PySem.W.Frag} : CallOk K (rAll K) fAll := by
  intro G S H w xs ds k Q hr rx kl h
  unfold fAll at h
  split at h
  · split at h
    · rename_i bs e
      obtain ⟨v, rfl, r⟩ := one_rep rx
      cases r with
      | lst h1 r1 =>
        have e2 := rep_bls r1 e
        subst e2
        exact ⟨_, bs, rfl, .inl (.inl (hr.same _ _ h1)), kl.here hr (.bl _) h⟩
    · exact h.elim
  · exact h.elim
def fSum : FB := fun ds w k => match ds with
  | [.lst xs] => match allInt xs with
    | some bs => k (.int bs.sum) w
    | none => False
  | _ => False
def fList : FB := fun ds w k => match ds with
  | [d] => match seqD d w with
    | some xs => k (.lst xs) w
    | none => False
  | _ => False
def fTuple : FB := fun ds w k => match ds with
  | [d] => match seqD d w with
    | some xs => k (.tup xs) w
    | none => False
  | _ => False
theorem ok_list {K : PySem.W.Frag} : CallOk K (fun xs H Q => ∃ p ys, xs = [.ref p] ∧ (SqL K H p ys ∨ SqT K H p ys) ∧ ∀ l, H l = none → Q (.ref l) (upd H l (.lst ys))) fList := by
  intro G S H w xs ds k Q hr rx kl h
  unfold fList at h
  split at h
  · split at h
    · rename_i bs e
      obtain ⟨v, rfl, r⟩ := one_rep rx
      obtain ⟨a, ys, rfl, hs, r2⟩ := rep_seq hr r e
      exact ⟨_, ys, rfl, hs, kl.newL hr r2 h⟩
    · exact h.elim
  · exact h.elim
theorem ok_tuple {K : PySem.W.Frag} : CallOk K (fun xs H Q => ∃ p ys, xs = [.ref p] ∧ ((SqL K H p ys ∧ ∀ l, H l = none → Q (.ref l) (upd H l (.tup ys))) ∨ (SqT K H p ys ∧ Q (.ref p) H))) fTuple := by
  intro G S H w xs ds k Q hr rx kl h
  unfold fTuple at h
  split at h
  · rename_i d
    split at h
    · rename_i bs e
      obtain ⟨v, rfl, r⟩ := one_rep rx
      cases r with
      | lst e1 r =>
        cases e
        exact ⟨_, _, rfl, .inl ⟨.inl (.inl (hr.same _ _ e1)), kl.newT hr r h⟩⟩
      | tup e1 r =>
        cases e
        exact ⟨_, _, rfl, .inr ⟨sqT_up hr.same e1, kl.here hr (.tup e1 r) h⟩⟩
      | rf e1 =>
        unfold seqD at e
        simp only at e
        split at e
        · rename_i xs e2
          cases e
          obtain ⟨_, ys, h1, h2⟩ := hr.cell _ _ _ e1 e2
          exact ⟨_, _, rfl, .inl ⟨.inl (.inl h1), kl.newT hr h2 h⟩⟩
        · cases e
      | _ => cases e
    · exact h.elim
  · exact h.elim
def fInt : FB := fun ds w k => match ds with
  | [.int i] => k (.int i) w
  | [.bl b] => k (.int (if b then 1 else 0)) w
  | _ => False
theorem ok_int {K : PySem.W.Frag} : CallOk K (fun xs H Q => (∃ i, xs = [.int i] ∧ Q (.int i) H) ∨ ∃ k, xs = [.bl k] ∧ Q (.int (if k then 1 else 0)) H) fInt := by
  intro G S H w xs ds k Q hr rx kl h
  unfold fInt at h
  split at h
  · obtain ⟨v, rfl, r⟩ := one_rep rx
    cases r
    exact .inl ⟨_, rfl, kl.here hr (.int _) h⟩
  · obtain ⟨v, rfl, r⟩ := one_rep rx
    cases r
    exact .inr ⟨_, rfl, kl.here hr (.int _) h⟩
  · exact h.elim
def fMin2 : FB := fun ds w k => match ds with
  | [.int i, .int j] => k (.int (if j < i then j else i)) w
  | _ => False
structure Blt (mg : Str → Option Value) : Prop where
  abs_ : mg "abs" = none
  len_ : mg "len" = none
  isi_ : mg "isinstance" = none
  all_ : mg "all" = none
  any_ : mg "any" = none
  sum_ : mg "sum" = none
  list_ : mg "list" = none
  tuple_ : mg "tuple" = none
  int_ : mg "int" = none
  bool_ : mg "bool" = none
  str_ : mg "str" = none
  min_ : mg "min" = none
  max_ : mg "max" = none
  range_ : mg "range" = none
  zip_ : mg "zip" = none
  sorted_ : mg "sorted" = none
  enum_ : mg "enumerate" = none
  divmod_ : mg "divmod" = none
section
variable {X : Cx} {E : XK} {e : Expr} {es : List Expr} {ga : GA} {p pos : Pos} (B : Blt X.mg)
include B
theorem de_abs (hg : Gl X "abs") (ha : DA X E (e :: es) ga) (he : starEach (e :: es) X.env = (false, eval e X.env) :: starEach es X.env := by rfl) (hpl : (backTo pos (starEach es X.env)).any (·.1) = false := by rfl) : DE X E (.Call (.Name "abs" p) (e :: es) [] pos) (gCB fAbs ga) := de_cb call_abs ok_abs hg B.abs_ (by decide +kernel) ha (he := he) (hpl := hpl)
theorem de_len (hg : Gl X "len") (ha : DA X E (e :: es) ga) (he : starEach (e :: es) X.env = (false, eval e X.env) :: starEach es X.env := by rfl) (hpl : (backTo pos (starEach es X.env)).any (·.1) = false := by rfl) : DE X E (.Call (.Name "len" p) (e :: es) [] pos) (gCB fLen ga) := de_cb call_lenR ok_len hg B.len_ (by decide +kernel) ha (he := he) (hpl := hpl)
theorem de_isi (hg : Gl X "isinstance") (ha : DA X E (e :: es) ga) (he : starEach (e :: es) X.env = (false, eval e X.env) :: starEach es X.env := by rfl) (hpl : (backTo pos (starEach es X.env)).any (·.1) = false := by rfl) : DE X E (.Call (.Name "isinstance" p) (e :: es) [] pos) (gCB fIsi ga) := de_cb call_isi ok_isi hg B.isi_ (by decide +kernel) ha (he := he) (hpl := hpl)
theorem de_all (hc : X.calm = true) (hg : Gl X "all") (ha : DA X E (e :: es) ga) (he : starEach (e :: es) X.env = (false, eval e X.env) :: starEach es X.env := by rfl) (hpl : (backTo pos (starEach es X.env)).any (·.1) = false := by rfl) : DE X E (.Call (.Name "all" p) (e :: es) [] pos) (gCB fAll ga) := de_cb (cr_all hc) ok_all hg B.all_ (by decide +kernel) ha (he := he) (hpl := hpl)
theorem de_list (hg : Gl X "list") (ha : DA X E (e :: es) ga) (he : starEach (e :: es) X.env = (false, eval e X.env) :: starEach es X.env := by rfl) (hpl : (backTo pos (starEach es X.env)).any (·.1) = false := by rfl) : DE X E (.Call (.Name "list" p) (e :: es) [] pos) (gCB fList ga) := de_ct call_list_of ok_list hg B.list_ (by decide +kernel) ha (he := he) (hpl := hpl)
theorem de_tuple (hg : Gl X "tuple") (ha : DA X E (e :: es) ga) (he : starEach (e :: es) X.env = (false, eval e X.env) :: starEach es X.env := by rfl) (hpl : (backTo pos (starEach es X.env)).any (·.1) = false := by rfl) : DE X E (.Call (.Name "tuple" p) (e :: es) [] pos) (gCB fTuple ga) := de_ct call_tuple_of ok_tuple hg B.tuple_ (by decide +kernel) ha (he := he) (hpl := hpl)
theorem de_toint (hg : Gl X "int") (ha : DA X E (e :: es) ga) (he : starEach (e :: es) X.env = (false, eval e X.env) :: starEach es X.env := by rfl) (hpl : (backTo pos (starEach es X.env)).any (·.1) = false := by rfl) : DE X E (.Call (.Name "int" p) (e :: es) [] pos) (gCB fInt ga) := de_ct call_int1 ok_int hg B.int_ (by decide +kernel) ha (he := he) (hpl := hpl)
end
end DL

namespace DL
open PySem PySem.Spec PyProof.Rows L2

def gNext : GS := fun F ρ w => F.nx ρ w
def gSeq (t u : GS) : GS := fun F ρ w => t { F with nx := u F } ρ w
def gCut (t u : GS) : GS := fun F ρ w => ∃ M : Rho → Wd → Prop, t { F with nx := M } ρ w ∧ ∀ ρ w, M ρ w → u F ρ w
def gBreak : GS := fun F ρ w => F.bk ρ w
def gCont : GS := fun F ρ w => F.ct ρ w
def gDrop (g : GE) : GS := fun F ρ w => g ρ w F.ex fun _ w1 => F.nx ρ w1
def gRet (g : GE) : GS := fun F ρ w => g ρ w F.ex F.rt
def gRetN : GS := fun F _ w => F.rt .non w
def gIfS (c : GT) (t u : GS) : GS := fun F ρ w => c ρ w F.ex fun b w1 => if b = true then t F ρ w1 else u F ρ w1
def gNever : GS := fun _ _ _ => False
section
variable {X : Cx} {E : XK} {st : Stmt} {rest : List Stmt} {t u : GS} {e : Expr} {g : GE} {pos : Pos}
theorem el_seq {K : PySem.W.Frag} {G : Gh} {S : Hp} {F : DEnds} {D : Ends} (el : EL K G S E F D) (u : GS) : EL K G S E { F with nx := u F } { D with nx := upS K E u D } :=
  ⟨fun G1 S1 H1 w1 ρ1 σ1 x1 hr1 sr1 h1 => ⟨G1, S1, ρ1, w1, F, hr1, sr1, el.mono x1, h1⟩, el.rt, el.bk, el.ct, el.ex⟩
theorem dss_nil : DSs X E [] gNext := pss_imp pss_nil (by
  rintro D σ H ⟨G, S, ρ, w, F, hr, sr, el, h⟩
  exact el.nx _ _ _ _ _ _ (Ext.refl _ _) hr sr h)
theorem dss_cons (h1 : DS X E st t) (h2 : DSs X E rest u) : DSs X E (st :: rest) (gSeq t u) := pss_imp (pss_cons h1 h2) (by
  rintro D σ H ⟨G, S, ρ, w, F, hr, sr, el, h⟩
  exact ⟨G, S, ρ, w, { F with nx := u F }, hr, sr, el_seq el u, h⟩)
theorem dss_cut (h1 : DS X E st t) (h2 : DSs X E rest u) : DSs X E (st :: rest) (gCut t u) := pss_imp (pss_cons h1 h2) (by
  rintro D σ H ⟨G, S, ρ, w, F, hr, sr, el, M, h, hM⟩
  exact ⟨G, S, ρ, w, { F with nx := M }, hr, sr, ⟨fun G1 S1 H1 w1 ρ1 σ1 x1 hr1 sr1 h1 => ⟨G1, S1, ρ1, w1, F, hr1, sr1, el.mono x1, hM _ _ h1⟩, el.rt, el.bk, el.ct, el.ex⟩, h⟩)
theorem dss_one (h1 : DS X E st t) : DSs X E [st] t := pss_one h1
theorem ds_expr (he : DE X E e g) (hs : swapsWith e none pos.line X.env = pure false := by rfl) : DS X E (.Expr e pos) (gDrop g) := ps_imp (ps_expr he hs) (by
  rintro D σ H ⟨G, S, ρ, w, F, hr, sr, el, h⟩
  exact ⟨G, S, ρ, w, F.ex, _, hr, sr, el.ex, fun G1 S1 H1 w1 d v x1 hr1 _ h1 => el.nx _ _ _ _ _ _ x1 hr1 (sr.mono x1) h1, h⟩)
theorem ds_ret (he : DE X E e g) : DS X E (.Return (some e) pos) (gRet g) := ps_imp (ps_ret he) (by
  rintro D σ H ⟨G, S, ρ, w, F, hr, sr, el, h⟩
  exact ⟨G, S, ρ, w, F.ex, F.rt, hr, sr, el.ex, el.rt, h⟩)
theorem ds_if {c : Expr} {a b : List Stmt} {tc : GT} (hc : DT X E c tc) (ha : DSs X E a t) (hb : DSs X E b u) : DS X E (.If c a b pos) (gIfS tc t u) := ps_imp (ps_if hc ha hb) (by
  rintro D σ H ⟨G, S, ρ, w, F, hr, sr, el, h⟩
  refine ⟨G, S, ρ, w, F.ex, _, hr, sr, el.ex, fun G1 S1 H1 w1 c x1 hr1 h1 => ?_, h⟩
  cases c with
  | true => exact iteT ⟨G1, S1, ρ, w1, F, hr1, sr.mono x1, el.mono x1, by simpa using h1⟩
  | false => exact iteF ⟨G1, S1, ρ, w1, F, hr1, sr.mono x1, el.mono x1, by simpa using h1⟩)
end

abbrev GG := D → Rho → Wd → (Rho → Wd → Prop) → Prop
abbrev GGs := List D → Rho → Wd → (Rho → Wd → Prop) → Prop
def OffOk (vs : List Nat) (σ σ' : L2.St) : Prop := σ'.length = σ.length ∧ ∀ i, i ∉ vs → σ'[i]? = σ[i]?
def NLv (K : PySem.W.Frag) (G : Gh) (S : Hp) (vs : List Nat) (σ : L2.St) (k : Rho → Wd → Prop) (Q : L2.St → Hp → Prop) : Prop := ∀ G' S' H' w' ρ' σ', Ext G S G' S' → HR K G' S' w' H' → SR K G' S' σ' ρ' → OffOk vs σ σ' → k ρ' w' → Q σ' H'
def upG (K : PySem.W.Frag) (vs : List Nat) (g : GG) : TG := fun v σ H Q => ∃ G S ρ w d k, HR K G S w H ∧ SR K G S σ ρ ∧ Rep K G S v d ∧ NLv K G S vs σ k Q ∧ g d ρ w k
def upGs (K : PySem.W.Frag) (vs : List Nat) (g : GGs) : TGs := fun v σ H Q => ∃ G S ρ w d k, HR K G S w H ∧ SR K G S σ ρ ∧ RepAll K G S v d ∧ NLv K G S vs σ k Q ∧ g d ρ w k
def DG (X : Cx) (vs : List Nat) (e : Expr) (g : GG) : Prop := PG X e (upG X.K vs g)
def DGs (X : Cx) (vs : List Nat) (e : List Expr) (g : GGs) : Prop := PGs X e (upGs X.K vs g)
def ggName (i : Nat) : GG := fun d ρ w k => k (ρ.set i (some d)) w
def ggNil : GGs := fun ds ρ w k => ds = [] ∧ k ρ w
def ggCons (t : GG) (u : GGs) : GGs := fun ds ρ w k => match ds with
  | d :: r => t d ρ w fun ρ1 w1 => u r ρ1 w1 k
  | [] => False
def ggTup (n : Nat) (t : GGs) : GG := fun d ρ w k => match d with
  | .tup ds => ds.length = n ∧ t ds ρ w k
  | _ => False
section
variable {X : Cx} {E : XK} {pos : Pos}
theorem pg_imp {e : Expr} {t t' : TG} (h : PG X e t) (i : ∀ v σ H Q, t' v σ H Q → t v σ H Q) : PG X e t' := ⟨fun pins s σ H v u Q I r q => h.run pins s σ H v u Q I r (i _ _ _ _ q)⟩
theorem pgs_imp {e : List Expr} {t t' : TGs} (h : PGs X e t) (i : ∀ v σ H Q, t' v σ H Q → t v σ H Q) : PGs X e t' := ⟨fun pins s σ H v u Q I r q => h.run pins s σ H v u Q I r (i _ _ _ _ q)⟩
theorem dg_name {i : Nat} {x : Str} (hN : X.N.Nodup) (hi : X.N[i]? = some x) (hx : Loc X.env.scope x) (hf : X.fn x = true ∨ X.env.scope.names.lookup x = some .local := by first | exact .inl rfl | exact .inr rfl | assumption) : DG X [i] (.Name x pos) (ggName i) := pg_imp (pg_name hN hi hx hf) (by
  rintro v σ H Q ⟨G, S, ρ, w, d, k, hr, sr, rp, nl, h⟩
  refine nl _ _ _ _ _ _ (Ext.refl _ _) hr (sr.set rp i) ⟨by simp, fun j hj => ?_⟩ h
  rw [List.getElem?_set_ne]
  simpa using fun z => hj (by simp [z]))
theorem dgs_nil : DGs X [] [] ggNil := pgs_imp pgs_nil (by
  rintro v σ H Q ⟨G, S, ρ, w, d, k, hr, sr, rp, nl, h⟩
  obtain ⟨e, h⟩ := h
  subst e
  cases rp
  exact ⟨rfl, nl _ _ _ _ _ _ (Ext.refl _ _) hr sr ⟨rfl, fun _ _ => rfl⟩ h⟩)
theorem dgs_cons {e : Expr} {es : List Expr} {vs us : List Nat} {t : GG} {u : GGs} (h1 : DG X vs e t) (h2 : DGs X us es u)
    (hs : (assignEach (e :: es) X.env).map (·.2) = assign e X.env :: (assignEach es X.env).map (·.2) := by rfl) : DGs X (vs ++ us) (e :: es) (ggCons t u) := pgs_imp (pgs_cons h1 h2 hs) (by
  rintro v σ H Q ⟨G, S, ρ, w, d, k, hr, sr, rp, nl, h⟩
  cases rp with
  | nil => exact h.elim
  | cons r0 rr =>
    refine ⟨_, _, rfl, G, S, ρ, w, _, _, hr, sr, r0, fun G1 S1 H1 w1 ρ1 σ1 x1 hr1 sr1 off1 h1 => ⟨G1, S1, ρ1, w1, _, k, hr1, sr1, rr.mono x1, fun G2 S2 H2 w2 ρ2 σ2 x2 hr2 sr2 off2 h2 => nl _ _ _ _ _ _ (x1.trans x2) hr2 sr2 ⟨off2.1.trans off1.1, fun i hi => ?_⟩ h2, h1⟩, h⟩
    rw [List.mem_append, not_or] at hi
    exact (off2.2 i hi.2).trans (off1.2 i hi.1))
theorem dg_tup {es : List Expr} {j : Nat} {t : GGs} {vs : List Nat} {n : Nat} (hc : X.calm = true) (h : DGs X vs es t)
    (hn : (assignEach es X.env).length = n := by rfl) (hst : (assignEach es X.env).findIdx? (·.1) = none := by rfl) : DG X vs (.Tuple es j pos) (ggTup n t) := pg_imp (pg_tup hc h hn hst) (by
  rintro v σ H Q ⟨G, S, ρ, w, d, k, hr, sr, rp, nl, h⟩
  cases rp with
  | tup e r => exact ⟨_, _, rfl, (sqT_up hr.same e), by rw [r.length]; exact h.1, G, S, ρ, w, _, k, hr, sr, r, nl, h.2⟩
  | _ => exact h.elim)
def gAsg (ge : GE) (g : GG) : GS := fun F ρ w => ge ρ w F.ex fun d w1 => g d ρ w1 F.nx
theorem asg_up {K : PySem.W.Frag} {vs : List Nat} {ge : GE} {g : GG} : ∀ D σ H, upS K E (gAsg ge g) D σ H → tAsg (upE K E ge) (upG K vs g) D σ H := by
  rintro D σ H ⟨G, S, ρ, w, F, hr, sr, el, h⟩
  exact ⟨G, S, ρ, w, F.ex, _, hr, sr, el.ex, fun G1 S1 H1 w1 d v x1 hr1 rp h1 => ⟨G1, S1, ρ, w1, d, F.nx, hr1, sr.mono x1, rp, fun G2 S2 H2 w2 ρ2 σ2 x2 hr2 sr2 _ h2 => el.nx _ _ _ _ _ _ (x1.trans x2) hr2 sr2 h2, h1⟩, h⟩
theorem ds_asg {tg e : Expr} {vs : List Nat} {ge : GE} {g : GG} (he : DE X E e ge) (hg : DG X vs tg g) (hs : swapsWithSole [tg] e pos.line X.env = pure false := by rfl) (hw : swappedStores [tg] e X.env = pure none := by rfl)
    (h1 : (assignEach [tg] X.env).map (·.2) = [assign tg X.env] := by rfl) : DS X E (.Assign [tg] e pos) (gAsg ge g) := ps_imp (ps_asg he hg hs hw h1) asg_up
def gSet (i : Nat) (ge : GE) : GS := fun F ρ w => ge ρ w F.ex fun d w1 => F.nx (ρ.set i (some d)) w1
theorem set_up {K : PySem.W.Frag} {i : Nat} {ge : GE} : ∀ D σ H, upS K E (gSet i ge) D σ H → tAsg (upE K E ge) (gName i) D σ H := by
  rintro D σ H ⟨G, S, ρ, w, F, hr, sr, el, h⟩
  exact ⟨G, S, ρ, w, F.ex, _, hr, sr, el.ex, fun G1 S1 H1 w1 d v x1 hr1 rp h1 => el.nx _ _ _ _ _ _ x1 hr1 ((sr.mono x1).set rp i) h1, h⟩
theorem ds_set {i : Nat} {x : Str} {e : Expr} {ge : GE} {pos' : Pos} (hN : X.N.Nodup) (hi : X.N[i]? = some x) (hx : Loc X.env.scope x) (he : DE X E e ge) (hs : swapsWith e (some (.Name x pos')) pos.line X.env = pure false := by rfl) (hf : X.fn x = true ∨ X.env.scope.names.lookup x = some .local := by first | exact .inl rfl | exact .inr rfl | assumption) :
    DS X E (.Assign [.Name x pos'] e pos) (gSet i ge) := ps_imp (ps_set hN hi hx he hs hf) set_up
def gPar (i j : Nat) (ga : GA) : GS := fun F ρ w => ga ρ w F.ex fun ds w1 => match ds with
  | [d, e] => F.nx ((ρ.set i (some d)).set j (some e)) w1
  | _ => False
theorem ds_par {i j : Nat} {x y : Str} {a b : Expr} {ga : GA} {px py pt : Pos} {kt k2 pt2} (hc : X.calm = true) (hN : X.N.Nodup) (hi : X.N[i]? = some x) (hj : X.N[j]? = some y) (hij : i ≠ j)
    (hx : X.env.scope.names.lookup x = some .local) (hy : X.env.scope.names.lookup y = some .local) (ha : DA X E [a, b] ga)
    (hw : swappedStores [.Tuple [.Name x px, .Name y py] kt pt] (.Tuple [a, b] k2 pt2) X.env = pure (some [x, y]))
    (hs : swapsWithSole [.Tuple [.Name x px, .Name y py] kt pt] (.Tuple [a, b] k2 pt2) pos.line X.env = pure false := by rfl) :
    DS X E (.Assign [.Tuple [.Name x px, .Name y py] kt pt] (.Tuple [a, b] k2 pt2) pos) (gPar i j ga) := ps_imp (ps_par hc hN hi hj hij hx hy ha hw hs) (by
  rintro D σ H ⟨G, S, ρ, w, F, hr, sr, el, h⟩
  refine ⟨G, S, ρ, w, F.ex, _, hr, sr, el.ex, fun G1 S1 H1 w1 ds vs x1 hr1 rp h1 => ?_, h⟩
  split at h1
  · obtain ⟨v, u, rfl, r1, r2⟩ := two_rep rp
    exact ⟨v, u, rfl, el.nx _ _ _ _ _ _ x1 hr1 (((sr.mono x1).set r1 i).set r2 j) h1⟩
  · exact h1.elim)
def gAug (i : Nat) (ge : GE) (f : F2) : GS := fun F ρ w => match ρ[i]? with
  | some (some d) => ge ρ w F.ex fun e w1 => f d e w1 fun z w2 => F.nx (ρ.set i (some z)) w2
  | _ => False
def iaddD : F2 := fun x y w k => match x, y with
  | .int i, .int j => k (.int (i + j)) w
  | _, _ => False
end

def whileS (t : GT) (b : GS) (F : DEnds) (P : Nat → Rho → Wd → Prop) : Prop := ∀ m ρ w, P m ρ w → t ρ w F.ex fun c w1 => if c = true then b { F with nx := fun ρ' w' => ∃ m', m' < m ∧ P m' ρ' w', ct := fun ρ' w' => ∃ m', m' < m ∧ P m' ρ' w', bk := F.nx } ρ w1 else F.nx ρ w1
def gWhile (t : GT) (b : GS) : GS := fun F ρ w => ∃ P : Nat → Rho → Wd → Prop, (∃ m, P m ρ w) ∧ whileS t b F P
section
variable {X : Cx} {E : XK} {pos : Pos}
theorem ds_while {c : Expr} {body : List Stmt} {tc : GT} {tb : GS} (hp : PassesOwn (model X.prog X.w) X.A X.env X.xe) (hc : DT X E c tc) (hb : DSs X E body tb) : DS X E (.While c body [] pos) (gWhile tc tb) := ps_imp (ps_while hp hc hb) (by
  rintro D σ H ⟨G, S, ρ, w, F, hr, sr, el, P, ⟨n, h0⟩, hs⟩
  refine ⟨fun m σ' H' => ∃ G' S' ρ' w', HR X.K G' S' w' H' ∧ SR X.K G' S' σ' ρ' ∧ EL X.K G' S' E F D ∧ P m ρ' w', ⟨n, G, S, ρ, w, hr, sr, el, h0⟩, ?_⟩
  rintro m σ' H' ⟨G1, S1, ρ1, w1, hr1, sr1, el1, h1⟩
  refine ⟨G1, S1, ρ1, w1, F.ex, _, hr1, sr1, el1.ex, fun G2 S2 H2 w2 c x2 hr2 h2 => ?_, hs m ρ1 w1 h1⟩
  cases c with
  | false => exact iteF (el1.nx _ _ _ _ _ _ x2 hr2 (sr1.mono x2) (by simpa using h2))
  | true =>
    refine iteT ⟨fun σ' H' => ∃ m', m' < m ∧ ∃ G' S' ρ' w', HR X.K G' S' w' H' ∧ SR X.K G' S' σ' ρ' ∧ EL X.K G' S' E F D ∧ P m' ρ' w', fun σ3 H3 h3 => h3, ?_⟩
    refine ⟨G2, S2, ρ1, w2, { F with nx := fun ρ' w' => ∃ m', m' < m ∧ P m' ρ' w', ct := fun ρ' w' => ∃ m', m' < m ∧ P m' ρ' w', bk := F.nx }, hr2, sr1.mono x2, ⟨?_, (el1.mono x2).rt, (el1.mono x2).nx, ?_, (el1.mono x2).ex⟩, by simpa using h2⟩
    · rintro G3 S3 H3 w3 ρ3 σ3 x3 hr3 sr3 ⟨m', hm, h3⟩
      exact ⟨m', hm, G3, S3, ρ3, w3, hr3, sr3, (el1.mono x2).mono x3, h3⟩
    · rintro G3 S3 H3 w3 ρ3 σ3 x3 hr3 sr3 ⟨m', hm, h3⟩
      exact ⟨m', hm, G3, S3, ρ3, w3, hr3, sr3, (el1.mono x2).mono x3, h3⟩)
end

abbrev GI := Rho → Wd → KX → (List D → (Wd → Prop) → Wd → Prop) → Prop
def IterOk (K : PySem.W.Frag) (J : It) (items : List D) (Ok : Wd → Prop) (G : Gh) (S : Hp) : Prop := ∀ (i : Nat) G' S' w' H', Ext G S G' S' → HR K G' S' w' H' → Ok w' →
  (∀ d, items[i]? = some d → J.go i H' ∧ ∀ x H2, J.yld i H' x H2 → ∃ G2 S2, Ext G' S' G2 S2 ∧ HR K G2 S2 w' H2 ∧ Rep K G2 S2 x d) ∧ (items.length = i → J.stop i H')
theorem IterOk.mono {K : PySem.W.Frag} {J : It} {items : List D} {Ok : Wd → Prop} {G G' : Gh} {S S' : Hp} (x : Ext G S G' S') (h : IterOk K J items Ok G S) : IterOk K J items Ok G' S' := fun i G1 S1 w1 H1 x1 => h i G1 S1 w1 H1 (x.trans x1)
def upI (K : PySem.W.Frag) (E : XK) (g : GI) : TI := fun σ H R => ∃ G S ρ w kx k, HR K G S w H ∧ SR K G S σ ρ ∧ XL K G S kx E ∧
  (∀ G' S' H' w' items Ok J, Ext G S G' S' → HR K G' S' w' H' → IterOk K J items Ok G' S' → k items Ok w' → R J H') ∧ g ρ w kx k
def DI (X : Cx) (E : XK) (tg iter : Expr) (g : GI) : Prop := PI X tg iter (upI X.K E g)
def giSeq (ge : GE) : GI := fun ρ w kx k => ge ρ w kx fun d w1 => match d with
  | .lst xs => k xs (fun _ => True) w1
  | .tup xs => k xs (fun _ => True) w1
  | .rf c => match w1.M[c]? with
    | some (.lst xs) => k xs (fun w => w.M[c]? = some (.lst xs)) w1
    | _ => False
  | _ => False
def giRange1 (ga : GA) : GI := fun ρ w kx k => ga ρ w kx fun ds w1 => match ds with
  | [.int j] => (-(2 ^ 62) ≤ j ∧ j < 2 ^ 62) ∧ k ((List.range j.toNat).map fun (i : Nat) => .int (i : Int)) (fun _ => True) w1
  | _ => False
section
variable {X : Cx} {E : XK} {tg : Expr}
theorem pi_imp {e : Expr} {t t' : TI} (h : PI X tg e t) (i : ∀ σ H R, t' σ H R → t σ H R) : PI X tg e t' := ⟨fun pins s σ H R I q => h.run pins s σ H R I (i _ _ _ q)⟩
def iSq (K : PySem.W.Frag) (tl : TE) : TI := fun σ H R => tl σ H fun x H1 => ∃ a, x = .ref a ∧ (((∃ xs, SqL K H1 a xs) ∧ R (Itl K a) H1) ∨ ((∃ xs, SqT K H1 a xs) ∧ R (Itt K a) H1))
theorem pi_sq {l : Expr} {tl : TE} (hl : PE X l tl) : PI X tg l (iSq X.K tl) := by
  refine ⟨fun pins s σ H R I h => ?_⟩
  refine thn (hl.run pins s σ H _ I h) fun v s1 ⟨x, H1, I1, r1, q1⟩ => ?_
  obtain ⟨a, e, q1⟩ := q1
  subst e
  cases r1
  rcases q1 with ⟨⟨xs, hq⟩, q⟩ | ⟨⟨xs, hq⟩, q⟩
  · obtain ⟨its, rv, p, hz⟩ := I1.list hq
    refine wpAny_pyIter_list p.isList ?_
    refine ⟨s1.heap.objs.size, [s1.heap.objs.size], _, _, H1, rfl, I1.kept (t' := s1.toks) fun b o e => Heap.get?_push_of_some _ e, turn_list a _, ⟨_, Heap.get?_push_size _ rfl, rfl, rfl⟩, fun b hb => ?_, q⟩
    have e : b = s1.heap.objs.size := by simpa using hb
    subst e
    exact I1.fpOk (Nat.le_refl _) (I1.hok.fresh (Nat.le_refl _))
  · obtain ⟨its, rv, p, hz⟩ := I1.tuple hq
    refine wpAny_pyIter_tuple (show s1.heap.IsTuple a its.toArray from p) ?_
    refine ⟨s1.heap.objs.size, [s1.heap.objs.size], _, _, H1, rfl, I1.kept (t' := s1.toks) fun b o e => Heap.get?_push_of_some _ e, turn_tuple a _, ⟨_, Heap.get?_push_size _ rfl, rfl, rfl⟩, fun b hb => ?_, q⟩
    have e : b = s1.heap.objs.size := by simpa using hb
    subst e
    exact I1.fpOk (Nat.le_refl _) (I1.hok.fresh (Nat.le_refl _))
theorem iter_lst {K : PySem.W.Frag} {G : Gh} {S : Hp} {a : Addr} {xs : List V} {ds : List D} (e : S a = some (.lst xs)) (r : RepAll K G S xs ds) : IterOk K (Itl K a) ds (fun _ => True) G S := by
  intro i G1 S1 w1 H1 x1 hr1 _
  have q : SqL K H1 a xs := .inl (.inl (hr1.same _ _ (x1.same _ _ e)))
  refine ⟨fun d hd => ?_, fun hl => ⟨xs, q, by rw [r.length, hl]; exact Nat.le_refl _⟩⟩
  obtain ⟨v, h1, h2⟩ := r.get hd
  refine ⟨⟨xs, v, q, h1⟩, fun x H2 y => ?_⟩
  obtain ⟨rfl, y⟩ := y
  have := y xs q
  rw [h1] at this
  cases this
  exact ⟨G1, S1, Ext.refl _ _, hr1, h2.mono x1⟩
theorem iter_tup {K : PySem.W.Frag} {G : Gh} {S : Hp} {a : Addr} {xs : List V} {ds : List D} (e : SqT K S a xs) (r : RepAll K G S xs ds) : IterOk K (Itt K a) ds (fun _ => True) G S := by
  intro i G1 S1 w1 H1 x1 hr1 _
  have q : SqT K H1 a xs := sqT_up hr1.same (sqT_up x1.same e)
  refine ⟨fun d hd => ?_, fun hl => ⟨xs, q, by rw [r.length, hl]; exact Nat.le_refl _⟩⟩
  obtain ⟨v, h1, h2⟩ := r.get hd
  refine ⟨⟨xs, v, q, h1⟩, fun x H2 y => ?_⟩
  obtain ⟨rfl, y⟩ := y
  have := y xs q
  rw [h1] at this
  cases this
  exact ⟨G1, S1, Ext.refl _ _, hr1, h2.mono x1⟩
theorem iter_rf {K : PySem.W.Frag} {G : Gh} {S : Hp} {a : Addr} {c : Nat} {ds : List D} (e : G.al[c]? = some a) : IterOk K (Itl K a) ds (fun w => w.M[c]? = some (.lst ds)) G S := by
  intro i G1 S1 w1 H1 x1 hr1 hw
  obtain ⟨_, xs, h1, r⟩ := hr1.cell c a _ (x1.alGet e) hw
  have q : SqL K H1 a xs := .inl (.inl h1)
  refine ⟨fun d hd => ?_, fun hl => ⟨xs, q, by rw [r.length, hl]; exact Nat.le_refl _⟩⟩
  obtain ⟨v, h3, h2⟩ := r.get hd
  refine ⟨⟨xs, v, q, h3⟩, fun x H2 y => ?_⟩
  obtain ⟨rfl, y⟩ := y
  have := y xs q
  rw [h3] at this
  cases this
  exact ⟨G1, S1, Ext.refl _ _, hr1, h2⟩
theorem di_seq {l : Expr} {ge : GE} (hl : DE X E l ge) : DI X E tg l (giSeq ge) := pi_imp (pi_sq hl) (by
  rintro σ H R ⟨G, S, ρ, w, kx, k, hr, sr, xl, kl, h⟩
  refine ⟨G, S, ρ, w, kx, _, hr, sr, xl, fun G1 S1 H1 w1 d v x1 hr1 rp h1 => ?_, h⟩
  cases rp with
  | lst e r => exact ⟨_, rfl, .inl ⟨⟨_, .inl (.inl (hr1.same _ _ e))⟩, kl _ _ _ _ _ _ _ x1 hr1 (iter_lst e r) h1⟩⟩
  | tup e r => exact ⟨_, rfl, .inr ⟨⟨_, (sqT_up hr1.same e)⟩, kl _ _ _ _ _ _ _ x1 hr1 (iter_tup e r) h1⟩⟩
  | rf e =>
    simp only at h1
    split at h1
    · rename_i xs e2
      obtain ⟨_, ys, h3, h4⟩ := hr1.cell _ _ _ e e2
      exact ⟨_, rfl, .inl ⟨⟨_, .inl (.inl h3)⟩, kl _ _ _ _ _ _ _ x1 hr1 (iter_rf e) h1⟩⟩
    · exact h1.elim
  | _ => exact h1.elim)
theorem iter_rng {K : PySem.W.Frag} {G : Gh} {S : Hp} {n : Nat} : IterOk K (Itr 0 n) ((List.range n).map fun (i : Nat) => .int (i : Int)) (fun _ => True) G S := by
  intro i G1 S1 w1 H1 x1 hr1 _
  refine ⟨fun d hd => ?_, fun hl => ?_⟩
  · rw [List.getElem?_map] at hd
    cases q : (List.range n)[i]? with
    | none => rw [q] at hd; cases hd
    | some z =>
      rw [q] at hd
      have hd : D.int (z : Int) = d := by simpa using hd
      subst hd
      have hi := (List.getElem?_eq_some_iff.mp q).1
      have hz := (List.getElem?_eq_some_iff.mp q).2
      rw [List.length_range] at hi
      rw [List.getElem_range] at hz
      subst hz
      refine ⟨hi, fun x H2 y => ?_⟩
      obtain ⟨rfl, rfl⟩ := y
      rw [Int.zero_add]
      exact ⟨G1, S1, Ext.refl _ _, hr1, .int _⟩
  · rw [List.length_map, List.length_range] at hl
    exact Nat.le_of_eq hl
theorem di_range1 {a : Expr} {ga : GA} {p pos : Pos} (B : Blt X.mg) (hg : Gl X "range") (ha : DA X E [a] ga) (hs : starEach [a] X.env = [(false, eval a X.env)] := by rfl) : DI X E tg (.Call (.Name "range" p) [a] [] pos) (giRange1 ga) := pi_imp (pi_range1 hg B.range_ ha hs) (by
  rintro σ H R ⟨G, S, ρ, w, kx, k, hr, sr, xl, kl, h⟩
  refine ⟨G, S, ρ, w, kx, _, hr, sr, xl, fun G1 S1 H1 w1 ds vs x1 hr1 rp h1 => ?_, h⟩
  split at h1
  · rename_i j
    obtain ⟨v, rfl, r1⟩ := one_rep rp
    cases r1
    exact ⟨j, rfl, h1.1.1, h1.1.2, kl _ _ _ _ _ _ _ x1 hr1 iter_rng h1.2⟩
  · exact h1.elim)
end
end DL

namespace DL
open PySem PySem.Spec PyProof.Rows L2

structure ForS (gt : GG) (b : GS) (F : DEnds) (Ok : Wd → Prop) (P : List D → Rho → Wd → Prop) : Prop where
  done : ∀ ρ w, P [] ρ w → Ok w ∧ F.nx ρ w
  turn : ∀ x xs ρ w, P (x :: xs) ρ w → Ok w ∧ gt x ρ w fun ρ1 w1 => b { F with nx := P xs, ct := P xs, bk := F.nx } ρ1 w1
def gFor (gi : GI) (gt : GG) (b : GS) : GS := fun F ρ w => gi ρ w F.ex fun items Ok w1 => ∃ P : List D → Rho → Wd → Prop, P items ρ w1 ∧ ForS gt b F Ok P
def forD (gt : GG) (b : GS) (F : DEnds) (Ok : Wd → Prop) : List D → Rho → Wd → Prop
  | [], ρ, w => Ok w ∧ F.nx ρ w
  | x :: xs, ρ, w => Ok w ∧ gt x ρ w fun ρ1 w1 => b { F with nx := forD gt b F Ok xs, ct := forD gt b F Ok xs, bk := F.nx } ρ1 w1
section
variable {X : Cx} {E : XK} {pos : Pos}
theorem ds_for {tg iter : Expr} {body : List Stmt} {vs : List Nat} {gi : GI} {gt : GG} {gb : GS} (hp : PassesOwn (model X.prog X.w) X.A X.env X.xe) (hc : X.calm = true) (hi : DI X E tg iter gi) (hg : DG X vs tg gt) (hb : DSs X E body gb)
    (hs : ∀ x, foldedSetIterable iter X.env x = pure x := by intro _; rfl) : DS X E (.For tg iter body [] pos) (gFor gi gt gb) := ps_imp (ps_for hp hc hi hg hb hs) (by
  rintro D σ H ⟨G, S, ρ, w, F, hr, sr, el, h⟩
  refine ⟨G, S, ρ, w, F.ex, _, hr, sr, el.ex, fun G1 S1 H1 w1 items Ok J x1 hr1 it h1 => ?_, h⟩
  obtain ⟨P, h1, hP⟩ := h1
  refine ⟨fun i m σ' H' => m = items.length - i ∧ i ≤ items.length ∧ ∃ G' S' ρ' w', Ext G1 S1 G' S' ∧ HR X.K G' S' w' H' ∧ SR X.K G' S' σ' ρ' ∧ P (items.drop i) ρ' w', ⟨items.length, by simp, Nat.zero_le _, G1, S1, ρ, w1, Ext.refl _ _, hr1, sr.mono x1, h1⟩, ?_⟩
  rintro i m σ' H' ⟨rfl, hi, G2, S2, ρ2, w2, x2, hr2, sr2, h2⟩
  by_cases hlt : i < items.length
  · have e : items.drop i = items[i] :: items.drop (i + 1) := List.drop_eq_getElem_cons hlt
    rw [e] at h2
    obtain ⟨ok, h2⟩ := hP.turn _ _ _ _ h2
    obtain ⟨i1, _⟩ := it i G2 S2 w2 H' x2 hr2 ok
    obtain ⟨go, yld⟩ := i1 items[i] (List.getElem?_eq_getElem hlt)
    refine .inr ⟨go, fun σ3 H3 => ∃ G' S' ρ' w', Ext G1 S1 G' S' ∧ HR X.K G' S' w' H3 ∧ SR X.K G' S' σ3 ρ' ∧ P (items.drop (i + 1)) ρ' w', fun σ3 H3 h3 => ⟨items.length - (i + 1), by omega, rfl, hlt, h3⟩, fun x H3 y => ?_⟩
    obtain ⟨G3, S3, x3, hr3, rp⟩ := yld x H3 y
    refine ⟨G3, S3, ρ2, w2, items[i], _, hr3, sr2.mono x3, rp, fun G4 S4 H4 w4 ρ4 σ4 x4 hr4 sr4 _ h4 => ?_, h2⟩
    have x04 : Ext G S G4 S4 := x1.trans (x2.trans (x3.trans x4))
    refine ⟨G4, S4, ρ4, w4, { F with nx := P (items.drop (i + 1)), ct := P (items.drop (i + 1)), bk := F.nx }, hr4, sr4, ⟨?_, (el.mono x04).rt, (el.mono x04).nx, ?_, (el.mono x04).ex⟩, h4⟩
    · intro G5 S5 H5 w5 ρ5 σ5 x5 hr5 sr5 h5
      exact ⟨G5, S5, ρ5, w5, x2.trans (x3.trans (x4.trans x5)), hr5, sr5, h5⟩
    · intro G5 S5 H5 w5 ρ5 σ5 x5 hr5 sr5 h5
      exact ⟨G5, S5, ρ5, w5, x2.trans (x3.trans (x4.trans x5)), hr5, sr5, h5⟩
  · have e : i = items.length := by omega
    subst e
    rw [List.drop_length] at h2
    obtain ⟨ok, h2⟩ := hP.done _ _ h2
    obtain ⟨_, i2⟩ := it items.length G2 S2 w2 H' x2 hr2 ok
    exact .inl ⟨i2 rfl, el.nx _ _ _ _ _ _ (x1.trans x2) hr2 sr2 h2⟩)
end

def wipeR (ρ : Rho) : List Nat → Rho
  | [] => ρ
  | v :: vs => (wipeR ρ vs).set v none
def gYes : GT := fun _ w _ k => k true w
def DTs (X : Cx) (E : XK) (ifs : List Expr) (g : GT) : Prop := PTs X ifs (upT X.K E g)
structure LcS (gt : GG) (tt : GT) (ge : GE) (Ok : Wd → Prop) (ρ : Rho) (k : KD) (P : List D → List D → Wd → Prop) : Prop where
  done : ∀ acc w, P [] acc w → Ok w ∧ k (.lst acc) w
  turn : ∀ x xs acc w, P (x :: xs) acc w → Ok w ∧ gt x ρ w fun ρ1 w1 => tt ρ1 w1 noX fun b w2 => if b = true then ge ρ1 w2 noX fun y w3 => acc.length < sizeLine ∧ P xs (acc ++ [y]) w3 else P xs acc w2
def gLc (gi : GI) (gt : GG) (tt : GT) (ge : GE) (vs : List Nat) : GE := fun ρ w kx k => gi ρ w kx fun items Ok w1 => ∃ P : List D → List D → Wd → Prop, P items [] w1 ∧ LcS gt tt ge Ok (wipeR ρ vs) k P
def lcD (gt : GG) (tt : GT) (ge : GE) (Ok : Wd → Prop) (ρ : Rho) (k : KD) : List D → List D → Wd → Prop
  | [], acc, w => Ok w ∧ k (.lst acc) w
  | x :: xs, acc, w => Ok w ∧ gt x ρ w fun ρ1 w1 => tt ρ1 w1 noX fun b w2 => if b = true then ge ρ1 w2 noX fun y w3 => acc.length < sizeLine ∧ lcD gt tt ge Ok ρ k xs (acc ++ [y]) w3 else lcD gt tt ge Ok ρ k xs acc w2
section
variable {X : Cx} {E : XK} {pos : Pos}
theorem dts_nil : DTs X E [] gYes := by
  have h := pts_nil (X := X)
  refine ⟨fun pins s σ H Q I q => h.run pins s σ H Q I ?_⟩
  obtain ⟨G, S, ρ, w, kx, k, hr, sr, xl, kl, h⟩ := q
  exact kl _ _ _ _ _ (Ext.refl _ _) hr h
theorem wipe_set {σ : L2.St} {ρ : Rho} {K : PySem.W.Frag} {G : Gh} {S : Hp} (sr : SR K G S σ ρ) (v : Nat) : SR K G S (σ.set v none) (ρ.set v none) := by
  refine ⟨by simp [sr.1], fun j e hj => ?_⟩
  by_cases hi : j = v
  · subst hi
    by_cases hl : j < ρ.length
    · rw [List.getElem?_set_self hl] at hj
      cases hj
    · rw [List.getElem?_eq_none (by simpa using hl)] at hj
      cases hj
  · rw [List.getElem?_set_ne (Ne.symm hi)] at hj
    obtain ⟨u, h1, h2⟩ := sr.2 j e hj
    exact ⟨u, by rw [List.getElem?_set_ne (Ne.symm hi)]; exact h1, h2⟩
theorem wipe_sr {σ : L2.St} {ρ : Rho} {K : PySem.W.Frag} {G : Gh} {S : Hp} (sr : SR K G S σ ρ) : ∀ vs : List Nat, SR K G S (wipe σ vs) (wipeR ρ vs)
  | [] => sr
  | v :: vs => wipe_set (wipe_sr sr vs) v
theorem wipe_get {σ : L2.St} : ∀ {vs : List Nat} {i : Nat}, (wipe σ vs)[i]? = if i ∈ vs then (if i < σ.length then some none else none) else σ[i]?
  | [], i => by simp [wipe]
  | v :: vs, i => by
    unfold wipe
    rw [List.getElem?_set]
    by_cases h : v = i
    · subst h
      simp [wipe_length]
    · rw [if_neg h, wipe_get]
      have : (i ∈ v :: vs) ↔ i ∈ vs := by
        simp only [List.mem_cons]
        exact ⟨fun z => z.elim (fun z => absurd z.symm h) id, .inr⟩
      simp only [this]
theorem wipe_off {σ σ2 : L2.St} {vs us : List Nat} (hu : ∀ i ∈ us, i ∈ vs) (h : OffOk us (wipe σ vs) σ2) : wipe σ2 vs = wipe σ vs := by
  refine List.ext_getElem? fun i => ?_
  rw [wipe_get, wipe_get]
  have hl : σ2.length = σ.length := by rw [h.1, wipe_length]
  by_cases hi : i ∈ vs
  · rw [if_pos hi, if_pos hi, hl]
  · rw [if_neg hi, if_neg hi, h.2 i (fun z => hi (hu i z)), wipe_get, if_neg hi]
theorem fr_ne {K : PySem.W.Frag} {G : Gh} {S H : Hp} {w : Wd} (hr : HR K G S w H) {Dl : Addr} (hD : H Dl = none) : ∀ q ∈ G.fr, q.1 ≠ Dl := hr.freshFr hD
theorem lc_go {K : PySem.W.Frag} {gi : GI} {gt : GG} {tt : GT} {ge : GE} {vs us : List Nat} (hu : ∀ i ∈ us, i ∈ vs) : ∀ σ H Q, upE K E (gLc gi gt tt ge vs) σ H Q → tLc (upI K E gi) (upG K us gt) (upT K E0 tt) (upE K E0 ge) vs σ H Q := by
  rintro σ H Q ⟨G, S, ρ, w, kx, k, hr, sr, xl, kl, h⟩
  refine ⟨G, S, ρ, w, kx, _, hr, sr, xl, fun G1 S1 H1 w1 items Ok J x1 hr1 it h1 Dl hD => ?_, h⟩
  obtain ⟨P, h1, hP⟩ := h1
  have hfr := fr_ne hr1 hD
  have sD := hr1.freshS hD
  -- the state between turns: the list so far stands apart
  refine ⟨fun i m H' => m = items.length - i ∧ i ≤ items.length ∧ ∃ (G' : Gh) (S' : Hp) (w' : Wd) (xs : List V) (acc : List D), Ext G1 S1 ⟨G'.al, G'.st, G1.fr⟩ S' ∧ (∀ q ∈ G1.fr, q ∈ G'.fr) ∧ (Dl, HO.lst xs) ∈ G'.fr ∧ HR K G' S' w' H' ∧ RepAll K G' S' xs acc ∧ P (items.drop i) acc w', ⟨items.length, ?_⟩, ?_⟩
  · obtain ⟨hr2, x2⟩ := hr1.push (o := .lst []) hD
    refine ⟨by simp, Nat.zero_le _, ⟨G1.al, G1.st, (Dl, .lst []) :: G1.fr⟩, S1, w1, [], [], ⟨⟨[], by simp⟩, fun _ z => z, fun _ z => z, Same.refl _⟩, fun q hq => List.mem_cons_of_mem _ hq, List.mem_cons_self, hr2, .nil, h1⟩
  rintro i m H' ⟨rfl, hi, G2, S2, w2, xs, acc, x2, f2, fD, hr2, ra, h2⟩
  have x12 : Ext G1 S1 G2 S2 := ⟨x2.al, x2.st, f2, x2.same⟩
  by_cases hlt : i < items.length
  · have e : items.drop i = items[i] :: items.drop (i + 1) := List.drop_eq_getElem_cons hlt
    rw [e] at h2
    obtain ⟨ok, h2⟩ := hP.turn _ _ _ _ h2
    obtain ⟨i1, _⟩ := it i G2 S2 w2 H' x12 hr2 ok
    obtain ⟨go, yld⟩ := i1 items[i] (List.getElem?_eq_getElem hlt)
    refine .inr ⟨go, fun H3 => ∃ (G' : Gh) (S' : Hp) (w' : Wd) (xs : List V) (acc : List D), Ext G1 S1 ⟨G'.al, G'.st, G1.fr⟩ S' ∧ (∀ q ∈ G1.fr, q ∈ G'.fr) ∧ (Dl, HO.lst xs) ∈ G'.fr ∧ HR K G' S' w' H3 ∧ RepAll K G' S' xs acc ∧ P (items.drop (i + 1)) acc w', fun H3 h3 => ⟨items.length - (i + 1), by omega, rfl, hlt, h3⟩, fun x H3 y => ?_⟩
    obtain ⟨G3, S3, x3, hr3, rp⟩ := yld x H3 y
    have x13 := x12.trans x3
    refine ⟨G3, S3, wipeR ρ vs, w2, items[i], _, hr3, (wipe_sr (sr.mono x1) vs).mono x13, rp, fun G4 S4 H4 w4 ρ4 σ4 x4 hr4 sr4 off4 h4 => ⟨wipe_off hu off4, ?_⟩, h2⟩
    have x24 : Ext G2 S2 G4 S4 := x3.trans x4
    refine ⟨G4, S4, ρ4, w4, noX, _, hr4, sr4, xl_no, fun G5 S5 H5 w5 b x5 hr5 h5 => ?_, h4⟩
    have x25 := x24.trans x5
    have x15 := x12.trans x25
    cases b with
    | false => exact iteF ⟨G5, S5, w5, xs, acc, ⟨x15.al, x15.st, fun _ z => z, x15.same⟩, x15.fr, x25.fr _ fD, hr5, ra.mono x25, by simpa using h5⟩
    | true =>
      refine iteT ⟨G5, S5, ρ4, w5, noX, _, hr5, sr4.mono x5, xl_no, fun G6 S6 H6 w6 d v x6 hr6 rp6 h6 => ?_, by simpa using h5⟩
      have x26 := x25.trans x6
      have x16 := x12.trans x26
      have ra6 := ra.mono x26
      have fD6 := x26.fr _ fD
      refine ⟨xs, (hr6.fr _ fD6).2.2, by rw [ra.length]; exact h6.1, ?_⟩
      have hp := hr6.poke (o' := .lst (xs ++ [v])) (fr := G1.fr) fD6 (fun q hq => ⟨x16.fr q hq, hfr q hq⟩)
      refine ⟨⟨G6.al, G6.st, (Dl, .lst (xs ++ [v])) :: G1.fr⟩, S6, w6, xs ++ [v], acc ++ [d], ⟨x16.al, x16.st, fun _ z => z, x16.same⟩, fun q hq => List.mem_cons_of_mem _ hq, List.mem_cons_self, hp, ?_, h6.2⟩
      exact (RepAll.refr ra6).append (.cons (Rep.refr rp6) .nil)
  · have e : i = items.length := by omega
    subst e
    rw [List.drop_length] at h2
    obtain ⟨ok, h2⟩ := hP.done _ _ h2
    obtain ⟨_, i2⟩ := it items.length G2 S2 w2 H' x12 hr2 ok
    refine .inl ⟨i2 rfl, ?_⟩
    -- the list is put among what stays
    obtain ⟨z1, z2, z3⟩ := hr2.fr _ fD
    have x3 : Ext G2 S2 G2 (upd S2 Dl (.lst xs)) := ⟨⟨[], by simp⟩, fun _ z => z, fun _ z => z, fun b u e => by rw [upd_ne (ne_of_none e z1)]; exact e⟩
    have x3' : Ext G1 S1 ⟨G2.al, G2.st, G1.fr⟩ (upd S2 Dl (.lst xs)) := ⟨x2.al, x2.st, fun _ z => z, fun b u e => x3.same _ _ (x2.same _ _ e)⟩
    refine kl _ _ _ _ _ _ (x1.trans x3') ⟨fun b u e => ?_, hr2.len, hr2.nod, fun j b c' f1 f2 => ?_, ⟨hr2.st.1, fun b c' e => ?_⟩, fun q hq => ?_⟩ (.lst upd_same (RepAll.refr (ra.mono x3))) h2
    · by_cases hb : b = Dl
      · subst hb
        rw [upd_same] at e
        cases e
        exact z3
      · rw [upd_ne hb] at e
        exact hr2.same _ _ e
    · have ne : b ≠ Dl := fun z => z2 (z ▸ List.mem_of_getElem? f1)
      have q := hr2.cell j b c' f1 f2
      have q2 := q.mono (H' := H') x3 rfl (by rw [upd_ne ne]; exact q.sNone)
      cases c' with
      | dead => exact q2
      | exc C => exact q2
      | exf C fs =>
        obtain ⟨n0, dx, gs, e3, e4, r⟩ := q2
        exact ⟨n0, dx, gs, e3, e4, Paired.mapP r fun p q z => ⟨z.1, Rep.refr z.2⟩⟩
      | tbl P q => exact q2
      | lk o ks kvs =>
        obtain ⟨n0, e3, r⟩ := q2
        exact ⟨n0, e3, Paired.mapP r fun p q z => ⟨z.1, Rep.refr z.2⟩⟩
      | lst ds =>
        obtain ⟨n0, ys, e3, r⟩ := q2
        exact ⟨n0, ys, e3, RepAll.refr r⟩
      | dk ds =>
        obtain ⟨n0, ys, e3, r⟩ := q2
        exact ⟨n0, ys, e3, Paired.mapP r fun p q z => ⟨z.1, Rep.refr z.2⟩⟩
      | ins C ds =>
        obtain ⟨n0, dx, ys, e3, r⟩ := q2
        exact ⟨n0, dx, ys, e3, Paired.mapP r fun p q z => ⟨z.1, Rep.refr z.2⟩⟩
    · obtain ⟨y1, y2, y3, y4, y5, y6, y7⟩ := hr2.st.2 b c' e
      obtain ⟨n1, n2⟩ := y6 _ fD
      exact ⟨by rw [upd_ne (Ne.symm n1)]; exact y1, by rw [upd_ne (Ne.symm n2)]; exact y2, y3, y4, y5, fun q hq => y6 q (f2 q hq), y7⟩
    · obtain ⟨y1, y2, y3⟩ := hr2.fr q (f2 q hq)
      exact ⟨by rw [upd_ne (hfr q hq)]; exact y1, y2, y3⟩
theorem de_lc {elt tg iter : Expr} {ifs : List Expr} {scope : Scope} {own : List (Str × Nat)} {us : List Nat} {gi : GI} {gt : GG} {tt : GT} {ge : GE} (hc : X.calm = true) (hN : X.N.Nodup) (hi : DI X E tg iter gi) (ok : BlkOk X.N X.env.scope scope own) (hu : ∀ i ∈ us, i ∈ own.map (·.2))
    (hg : ∀ (s : Shared) (H : Hp) (C : Addr) (cl : List (Str × Addr)) (fp : List Addr), DG (X.blk s H scope (compEnvC scope cl C X.env) fp) us tg gt) (ht : ∀ (s : Shared) (H : Hp) (C : Addr) (cl : List (Str × Addr)) (fp : List Addr), DTs (X.blk s H scope (compEnvC scope cl C X.env) fp) E0 ifs tt)
    (he : ∀ (s : Shared) (H : Hp) (C : Addr) (cl : List (Str × Addr)) (fp : List Addr), DE (X.blk s H scope (compEnvC scope cl C X.env) fp) E0 elt ge) (hs : ∀ x, foldedSetIterable iter X.env x = pure x := by intro _; rfl) :
    DE X E (.ListComp elt [⟨tg, iter, ifs, 0⟩] scope pos) (gLc gi gt tt ge (own.map (·.2))) := pe_imp (pe_lc (g := upG X.K us gt) (tt := upT X.K E0 tt) (te := upE X.K E0 ge) hc hN hi ok hg ht he hs) (lc_go hu)
theorem ds_setLc {i : Nat} {y : Str} {py spos : Pos} {elt tg iter : Expr} {ifs : List Expr} {scope : Scope} {own : List (Str × Nat)} {us : List Nat} {gi : GI} {gt : GG} {tt : GT} {ge : GE} (hc : X.calm = true) (hN : X.N.Nodup) (hy : X.N[i]? = some y) (hyl : X.env.scope.names.lookup y = some .local)
    (hsw : swapsWith (.ListComp elt [⟨tg, iter, ifs, 0⟩] scope pos) (some (.Name y py)) spos.line X.env = pure true) (hi : DI X E tg iter gi) (ok : BlkOk X.N X.env.scope scope own) (hu : ∀ i ∈ us, i ∈ own.map (·.2))
    (hg : ∀ (s : Shared) (H : Hp) (C : Addr) (cl : List (Str × Addr)) (fp : List Addr), DG (X.blk s H scope (compEnvC scope cl C X.env) fp) us tg gt) (ht : ∀ (s : Shared) (H : Hp) (C : Addr) (cl : List (Str × Addr)) (fp : List Addr), DTs (X.blk s H scope (compEnvC scope cl C X.env) fp) E0 ifs tt)
    (he : ∀ (s : Shared) (H : Hp) (C : Addr) (cl : List (Str × Addr)) (fp : List Addr), DE (X.blk s H scope (compEnvC scope cl C X.env) fp) E0 elt ge) (hs : ∀ x, foldedSetIterable iter X.env x = pure x := by intro _; rfl) :
    DS X E (.Assign [.Name y py] (.ListComp elt [⟨tg, iter, ifs, 0⟩] scope pos) spos) (gSet i (gLc gi gt tt ge (own.map (·.2)))) := ps_imp (ps_setLc (g := upG X.K us gt) (tt := upT X.K E0 tt) (te := upE X.K E0 ge) hc hN hy hyl hsw hi ok hg ht he hs) (by
  intro D σ H h
  obtain ⟨G, S, ρ, w, F, hr, sr, el, h⟩ := h
  exact lc_go hu σ H _ ⟨G, S, ρ, w, F.ex, fun d w1 => F.nx (ρ.set i (some d)) w1, hr, sr, el.ex, fun G1 S1 H1 w1 d v x1 hr1 rp h1 => el.nx _ _ _ _ _ _ x1 hr1 ((sr.mono x1).set rp i) h1, h⟩)
end
end DL

namespace DL
open PySem PySem.Spec PyProof.Rows L2

section
variable {K : PySem.W.Frag} {G : Gh} {S H : Hp} {w : Wd}
theorem hr_start : HR K ⟨[], none, []⟩ H ⟨[], none⟩ H := ⟨Same.refl H, rfl, List.nodup_nil, fun i a c e => (nomatch e), ⟨fun _ => rfl, fun a c e => (nomatch e)⟩, fun p hp => (nomatch hp)⟩
def gLaw : GF := fun ds w _ k => ∃ ns : List Int, ds = [.scr ns] ∧ ns.length ≤ 63 ∧ w = ⟨[], none⟩ ∧ ∀ w', k (.bl true) w'
theorem law_start {a : Addr} {ns : List Int} (hl : ns.length ≤ 63) (hS : SqL K H a (ns.map V.int)) : upF 1 K gLaw [.ref a] H (fun v _ => v = .bl true) fun _ _ _ => False :=
  ⟨⟨[], none, []⟩, H, [.scr ns], ⟨[], none⟩, noX, fun d _ => d = .bl true, rfl, hr_start, .cons (.scr hS) .nil, xl_no, fun _ _ _ _ d v _ _ r e => by
    subst e
    cases r
    rfl, ns, rfl, hl, rfl, fun _ => rfl⟩
def stKv (c : Addr) (t : Int) : List (Key × V) := [(.inr "cells", .ref c), (.inr "turn", .int t)]
theorem st_cells (c : Addr) (t : Int) : valV (stKv c t) (.inr "cells") = some (.ref c) := valV_pos rfl
theorem key_ne : ¬ ((Sum.inr ("cells" : Str) : Key) = Sum.inr ("turn" : Str)) := by decide +kernel
theorem st_turn (c : Addr) (t : Int) : valV (stKv c t) (.inr "turn") = some (.int t) := by
  unfold stKv
  rw [valV_neg key_ne, valV_pos rfl]
theorem st_put (c : Addr) (t u : Int) : putK (stKv c t) (.inr "turn") (.int u) = stKv c u := by
  have e : ((stKv c t).any fun kv => decide (kv.1 = (Sum.inr ("turn" : Str) : Key))) = true := by
    rw [valV_any, st_turn]
    rfl
  unfold putK
  rw [if_pos e]
  show [if (Sum.inr ("cells" : Str) : Key) = Sum.inr ("turn" : Str) then ((Sum.inr ("cells" : Str) : Key), V.int u) else (Sum.inr ("cells" : Str), V.ref c), if (Sum.inr ("turn" : Str) : Key) = Sum.inr ("turn" : Str) then ((Sum.inr ("turn" : Str) : Key), V.int u) else (Sum.inr ("turn" : Str), V.int t)] = stKv c u
  rw [if_neg key_ne, if_pos rfl]
  rfl
theorem HR.drawn (h : HR K G S w H) {a c : Addr} {n' : Nat} {cells : List Int} {turn : Int} {H' : Hp} (e : G.st = some (a, c)) (he : ∀ b, b ≠ a → b ≠ c → H' b = H b) (h1 : H' a = some (.dK (stKv c turn))) (h2 : H' c = some (.lst (cells.map V.int)))
    (h3 : cells ≠ []) (h4 : cells.length ≤ 63) (h5 : 0 ≤ turn) (h6 : turn + (n' : Nat) ≤ 1000000000) : HR K G S ⟨w.M, some n'⟩ H' := by
  obtain ⟨z1, z2, z3, z4, z5, z6, _⟩ := h.st.2 a c e
  refine ⟨fun b u q => ?_, h.len, h.nod, fun i b cc e1 e2 => ?_, ⟨fun z => (nomatch z), fun a' c' e' => ?_⟩, fun q hq => ?_⟩
  · rw [he b (ne_of_none q z1) (ne_of_none q z2)]
    exact h.same _ _ q
  · have q := h.cell i b cc e1 e2
    exact q.mono (Ext.refl _ _) (he b (fun z => z4 (z ▸ List.mem_of_getElem? e1)) (fun z => z5 (z ▸ List.mem_of_getElem? e1))) q.sNone
  · rw [e] at e'
    cases e'
    exact ⟨z1, z2, z3, z4, z5, z6, cells, turn, h1, h2, h3, h4, h5, h6⟩
  · obtain ⟨y1, y2, y3⟩ := h.fr q hq
    exact ⟨y1, y2, by rw [he _ (z6 q hq).1 (z6 q hq).2]; exact y3⟩
theorem HR.made (h : HR K G S w H) (hn : w.n = none) {c a : Addr} {cells : List Int} (hc : H c = some (.lst (cells.map V.int))) (nc : S c = none ∧ c ∉ G.al ∧ ∀ p ∈ G.fr, p.1 ≠ c) (ha : H a = some (.dK (stKv c 0))) (na : S a = none ∧ a ∉ G.al ∧ ∀ p ∈ G.fr, p.1 ≠ a) (hac : a ≠ c)
    (h3 : cells ≠ []) (h4 : cells.length ≤ 63) : HR K ⟨G.al, some (a, c), G.fr⟩ S ⟨w.M, some 1000000000⟩ H ∧ Ext G S ⟨G.al, some (a, c), G.fr⟩ S := by
  have x : Ext G S ⟨G.al, some (a, c), G.fr⟩ S := ⟨⟨[], by simp⟩, fun p z => (by rw [h.st.1 hn] at z; cases z), fun _ z => z, Same.refl S⟩
  refine ⟨⟨h.same, h.len, h.nod, fun i b cc e1 e2 => ?_, ⟨fun z => (nomatch z), fun a' c' e' => ?_⟩, h.fr⟩, x⟩
  · have q := h.cell i b cc e1 e2
    exact q.mono x rfl q.sNone
  · cases e'
    exact ⟨na.1, nc.1, hac, na.2.1, nc.2.1, fun p hp => ⟨na.2.2 p hp, nc.2.2 p hp⟩, cells, 0, ha, hc, h3, h4, by omega, by simp⟩
end
theorem lay_ints : ∀ l : List Int, PyData.canLayAll0 (l.map PyData.int) = true ∧ PyData.depthAll (l.map PyData.int) = 0
  | [] => ⟨rfl, rfl⟩
  | x :: r => by
    obtain ⟨h1, h2⟩ := lay_ints r
    refine ⟨?_, ?_⟩
    · simp [PyData.canLayAll0, PyData.canLay0, h1]
    · simp [PyData.depthAll, PyData.depth, h2]
theorem shaped_ints (l : List Int) : SeqAt.shaped (.list (l.map PyData.int)) = true := by
  obtain ⟨h1, h2⟩ := lay_ints l
  unfold SeqAt.shaped
  simp [PyData.canLay0, PyData.depth, h1, h2]
def gTake : GF := fun ds w _ k => ∃ (m : Int) (n : Nat), ds = [.st, .int m] ∧ (0 < m ∧ m.natAbs.log2 < 9000) ∧ w.n = some (n + 1) ∧ ∀ r, 0 ≤ r → r < m → k (.int r) ⟨w.M, some n⟩
def gBegin : GF := fun ds w _ k => ∃ ns : List Int, ds = [.scr ns] ∧ w.n = none ∧ k .st ⟨w.M, some 1000000000⟩
end DL

namespace DL
open PySem PySem.Spec PyProof.Rows L2
section
variable {w : Wd} {k : KD} {kb : KB} {i j : Int} {s t : Str} {b : Bool} {xs ys : List D} {d e : D} {n : String}
theorem addD_i : addD (.int i) (.int j) w k = k (.int (i + j)) w := rfl
theorem addD_s : addD (.str s) (.str t) w k = (s.length + t.length ≤ sizeLine ∧ k (.str (s ++ t)) w) := rfl
theorem addD_l : addD (.lst xs) (.lst ys) w k = (xs.length + ys.length ≤ sizeLine ∧ k (.lst (xs ++ ys)) w) := rfl
theorem addD_t : addD (.tup xs) (.tup ys) w k = (xs ≠ [] ∧ xs.length + ys.length ≤ sizeLine ∧ k (.tup (xs ++ ys)) w) := rfl
theorem subD_i : subD (.int i) (.int j) w k = k (.int (i - j)) w := rfl
theorem mulD_i : mulD (.int i) (.int j) w k = (CMulX i j ∧ k (.int (i * j)) w) := rfl
theorem mulD_l : mulD (.lst xs) (.int j) w k = (-(2 ^ 63) ≤ j ∧ j < 2 ^ 63 ∧ xs.length * j.toNat ≤ sizeLine ∧ k (.lst (List.replicate j.toNat xs).flatten) w) := rfl
theorem fdivD_i : fdivD (.int i) (.int j) w k = ((j ≠ 0 ∧ j.natAbs.log2 < 9000) ∧ k (.int (i.fdiv j)) w) := rfl
theorem modD_i : modD (.int i) (.int j) w k = (j ≠ 0 ∧ k (.int (i.fmod j)) w) := rfl
theorem powD_i : powD (.int i) (.int j) w k = (CPow i j ∧ k (.int (i ^ j.toNat)) w) := rfl
theorem ltD_i : ltD (.int i) (.int j) w k = k (.bl (decide (i < j))) w := rfl
theorem ltD_s : ltD (.str s) (.str t) w k = k (.bl (decide (s.cps.toList < t.cps.toList))) w := rfl
theorem leD_i : leD (.int i) (.int j) w k = k (.bl (decide (i ≤ j))) w := rfl
theorem gtD_i : gtD (.int i) (.int j) w k = k (.bl (decide (j < i))) w := rfl
theorem geD_i : geD (.int i) (.int j) w k = k (.bl (decide (j ≤ i))) w := rfl
theorem isD_n : isD d .non w k = k (.bl (isNonD d)) w := rfl
theorem isnotD_n : isnotD d .non w k = k (.bl (!isNonD d)) w := rfl
theorem isNonD_non : isNonD .non = true := rfl
theorem isNonD_bl : isNonD (.bl b) = false := rfl
theorem isNonD_int : isNonD (.int i) = false := rfl
theorem isNonD_str : isNonD (.str s) = false := rfl
theorem isNonD_lst : isNonD (.lst xs) = false := rfl
theorem isNonD_tup : isNonD (.tup xs) = false := rfl
theorem negD_i : negD (.int i) w k = k (.int (-i)) w := rfl
theorem iaddD_i : iaddD (.int i) (.int j) w k = k (.int (i + j)) w := rfl
theorem truD_non : truD .non w kb = kb false w := rfl
theorem truD_bl : truD (.bl b) w kb = kb b w := rfl
theorem truD_int : truD (.int i) w kb = kb (i != 0) w := rfl
theorem truD_str : truD (.str s) w kb = (s.length ≤ sizeLine ∧ kb ((s.length : Int) != 0) w) := rfl
theorem truD_lst : truD (.lst xs) w kb = kb (!xs.isEmpty) w := rfl
theorem truD_tup : truD (.tup xs) w kb = kb (!xs.isEmpty) w := rfl
def someK (o : Option D) (f : D → Prop) : Prop := match o with
  | some d => f d
  | none => False
theorem someK_some {f : D → Prop} : someK (some d) f = f d := rfl
theorem ixD_l : ixD (.lst xs) (.int i) w k = someK (atI xs i) (fun d => k d w) := rfl
theorem ixD_t : ixD (.tup xs) (.int i) w k = someK (atI xs i) (fun d => k d w) := rfl
theorem fAbs_i : fAbs [.int i] w k = k (.int i.natAbs) w := rfl
theorem fInt_i : fInt [.int i] w k = k (.int i) w := rfl
theorem fInt_b : fInt [.bl b] w k = k (.int (if b then 1 else 0)) w := rfl
theorem fMin2_i : fMin2 [.int i, .int j] w k = k (.int (if j < i then j else i)) w := rfl
theorem fLen_l : fLen [.lst xs] w k = k (.int xs.length) w := rfl
theorem fLen_t : fLen [.tup xs] w k = k (.int xs.length) w := rfl
theorem fLen_s : fLen [.str s] w k = (s.length ≤ sizeLine ∧ k (.int s.length) w) := rfl
theorem fList_l : fList [.lst xs] w k = k (.lst xs) w := rfl
theorem fList_t : fList [.tup xs] w k = k (.lst xs) w := rfl
theorem fTuple_l : fTuple [.lst xs] w k = k (.tup xs) w := rfl
theorem fTuple_t : fTuple [.tup xs] w k = k (.tup xs) w := rfl
def optBK (o : Option Bool) (f : Bool → Prop) : Prop := match o with
  | some d => f d
  | none => False
theorem optBK_some {f : Bool → Prop} : optBK (some b) f = f b := rfl
theorem fIsi_non : fIsi [.non, .ob (.ty n)] w k = optBK (kitB "NoneType" n) (fun b => k (.bl b) w) := rfl
theorem fIsi_bl : fIsi [.bl b, .ob (.ty n)] w k = optBK (kitB "bool" n) (fun b => k (.bl b) w) := rfl
theorem fIsi_int : fIsi [.int i, .ob (.ty n)] w k = optBK (kitB "int" n) (fun b => k (.bl b) w) := rfl
theorem fIsi_str : fIsi [.str s, .ob (.ty n)] w k = optBK (kitB "str" n) (fun b => k (.bl b) w) := rfl
theorem fIsi_lst : fIsi [.lst xs, .ob (.ty n)] w k = optBK (kitB "list" n) (fun b => k (.bl b) w) := rfl
theorem fIsi_tup : fIsi [.tup xs, .ob (.ty n)] w k = optBK (kitB "tuple" n) (fun b => k (.bl b) w) := rfl
end
theorem ggTup2 {a b : D} {t : GGs} {r : Rho} {w : Wd} {k : Rho → Wd → Prop} : DL.ggTup 2 t (.tup [a, b]) r w k = t [a, b] r w k := by
  show (2 = 2 ∧ t [a, b] r w k) = _
  simp
theorem ggTup3 {a b c : D} {t : GGs} {r : Rho} {w : Wd} {k : Rho → Wd → Prop} : DL.ggTup 3 t (.tup [a, b, c]) r w k = t [a, b, c] r w k := by
  show (3 = 3 ∧ t [a, b, c] r w k) = _
  simp
theorem ggNil0 {r : Rho} {w : Wd} {k : Rho → Wd → Prop} : DL.ggNil [] r w k = k r w := by
  show ([] = [] ∧ k r w) = _
  simp
theorem ggCons1 {d : D} {ds : List D} {t : GG} {u : GGs} {r : Rho} {w : Wd} {k : Rho → Wd → Prop} : DL.ggCons t u (d :: ds) r w k = t d r w fun r1 w1 => u ds r1 w1 k := rfl
section
variable {w : Wd} {k : KD} {i j a b c d : Int} {s t : Str}
theorem eqD_i : eqD (.int i) (.int j) w k = k (.bl (decide (i = j))) w := by
  simp [eqD, eqD0, toPD, SeqAt.shaped, PyData.canLay0, PyData.depth, PyData.eqv, Bool.beq_eq_decide_eq]
theorem neD_i : neD (.int i) (.int j) w k = k (.bl (!decide (i = j))) w := by
  simp [neD, neD0, toPD, SeqAt.shaped, PyData.canLay0, PyData.depth, PyData.eqv, Bool.beq_eq_decide_eq]
theorem eqD_s : eqD (.str s) (.str t) w k = k (.bl (decide (s = t))) w := rfl
theorem neD_s : neD (.str s) (.str t) w k = k (.bl (!decide (s = t))) w := rfl
theorem eqD_b {p q : Bool} : eqD (.bl p) (.bl q) w k = k (.bl (decide (p = q))) w := by
  simp [eqD, eqD0, toPD, SeqAt.shaped, PyData.canLay0, PyData.depth, PyData.eqv, Bool.beq_eq_decide_eq]
theorem neD_b {p q : Bool} : neD (.bl p) (.bl q) w k = k (.bl (!decide (p = q))) w := by
  simp [neD, neD0, toPD, SeqAt.shaped, PyData.canLay0, PyData.depth, PyData.eqv, Bool.beq_eq_decide_eq]
theorem eqD_f : eqD (.tup [.int a, .int b]) (.tup [.int c, .int d]) w k = k (.bl (decide (a = c ∧ b = d))) w := by
  simp [eqD, eqD0, toPD, toPDs, SeqAt.shaped, PyData.canLay0, PyData.canLayAll0, PyData.depth, PyData.depthAll, PyData.eqv, PyData.eqvAll, Bool.beq_eq_decide_eq]
theorem neD_f : neD (.tup [.int a, .int b]) (.tup [.int c, .int d]) w k = k (.bl (!decide (a = c ∧ b = d))) w := by
  simp [neD, neD0, toPD, toPDs, SeqAt.shaped, PyData.canLay0, PyData.canLayAll0, PyData.depth, PyData.depthAll, PyData.eqv, PyData.eqvAll, Bool.beq_eq_decide_eq]
end
theorem nc0 : ((0 : Nat) : Int) = 0 := rfl
theorem nc1 : ((1 : Nat) : Int) = 1 := rfl
theorem nc2 : ((2 : Nat) : Int) = 2 := rfl
theorem nc3 : ((3 : Nat) : Int) = 3 := rfl
theorem nc4 : ((4 : Nat) : Int) = 4 := rfl
theorem nc5 : ((5 : Nat) : Int) = 5 := rfl
theorem nc6 : ((6 : Nat) : Int) = 6 := rfl
theorem nc7 : ((7 : Nat) : Int) = 7 := rfl
theorem nc8 : ((8 : Nat) : Int) = 8 := rfl
theorem nc9 : ((9 : Nat) : Int) = 9 := rfl
theorem at_nat {α : Type} {xs : List α} {r : Int} (h0 : 0 ≤ r) (h1 : r < xs.length) : atI xs r = xs[r.toNat]? := by
  unfold atI ixN
  rw [if_pos h0, if_pos h1]
  rfl
theorem at_0 {α : Type} {x : α} {xs : List α} : atI (x :: xs) 0 = some x := by
  rw [at_nat (by decide) (by simp)]
  rfl
theorem at_1 {α : Type} {x y : α} {xs : List α} : atI (x :: y :: xs) 1 = some y := by
  rw [at_nat (by decide) (by simp; omega)]
  rfl
theorem at_2 {α : Type} {x y z : α} {xs : List α} : atI (x :: y :: z :: xs) 2 = some z := by
  rw [at_nat (by decide) (by simp; omega)]
  rfl
theorem at_some {α : Type} {xs : List α} {r : Int} (h0 : 0 ≤ r) (h1 : r < xs.length) : ∃ x, x ∈ xs ∧ atI xs r = some x := by
  rw [at_nat h0 h1]
  have : r.toNat < xs.length := by omega
  exact ⟨xs[r.toNat], List.getElem_mem this, List.getElem?_eq_getElem this⟩
theorem ix_all {xs : List D} {r : Int} {w : Wd} {k : KD} (Pd : D → Prop) (h0 : 0 ≤ r) (h1 : r < xs.length) (hP : ∀ x ∈ xs, Pd x) (hk : ∀ x, Pd x → k x w) : ixD (.lst xs) (.int r) w k := by
  obtain ⟨x, hx, e⟩ := at_some h0 h1
  rw [ixD_l, e]
  exact hk x (hP x hx)
theorem all_nil {α : Type} {Pd : α → Prop} : ∀ x ∈ ([] : List α), Pd x := fun _ h => nomatch h
theorem all_cons {α : Type} {Pd : α → Prop} {y : α} {ys : List α} (h : Pd y) (hs : ∀ x ∈ ys, Pd x) : ∀ x ∈ y :: ys, Pd x := List.forall_mem_cons.mpr ⟨h, hs⟩
theorem take_use {w : Wd} {m : Int} {c : Nat} {kx : KX} {k : KD} (n : Nat) (hn : w.n = some c) (hc : n + 1 ≤ c) (hm : 0 < m ∧ m.natAbs.log2 < 9000) (h : ∀ r c', 0 ≤ r → r < m → n ≤ c' → k (.int r) ⟨w.M, some c'⟩) : gTake [.st, .int m] w kx k :=
  ⟨m, c - 1, rfl, hm, by rw [hn]; congr 1; omega, fun r h0 h1 => h r _ h0 h1 (by omega)⟩
theorem log_of {m : Nat} (h : m < 2 ^ 200) : m.log2 < 9000 := Nat.lt_trans (PySem.Flt.log2_lt_of (by decide) h) (by decide)
theorem range_len {n : Nat} : ((List.range n).map fun (i : Nat) => D.int (i : Int)).length = n := by simp
end DL

namespace DL
open PySem PySem.Spec PyProof.Rows L2 RZ

def zipD (xs ys : List D) : List D := List.zipWith (fun x y => .tup [x, y]) xs ys
def giZip (ga : GA) : GI := fun ρ w kx k => ga ρ w kx fun ds w1 => match ds with
  | [.lst xs, .lst ys] => k (zipD xs ys) (fun _ => True) w1
  | [.tup xs, .tup ys] => k (zipD xs ys) (fun _ => True) w1
  | [.rf i, .lst ys] => match w1.M[i]? with
    | some (.lst xs) => k (zipD xs ys) (fun w => w.M[i]? = some (.lst xs)) w1
    | _ => False
  | _ => False
theorem zip_get {xs ys : List D} {i : Nat} {d : D} (h : (zipD xs ys)[i]? = some d) : ∃ x y, xs[i]? = some x ∧ ys[i]? = some y ∧ d = .tup [x, y] := by
  unfold zipD at h
  rw [List.getElem?_zipWith] at h
  cases h1 : xs[i]? with
  | none => rw [h1] at h; cases h
  | some x =>
    cases h2 : ys[i]? with
    | none => rw [h1, h2] at h; cases h
    | some y =>
      rw [h1, h2] at h
      exact ⟨x, y, rfl, rfl, (Option.some.inj h).symm⟩
section
variable {X : Cx} {E : XK}
theorem zip_new {K : PySem.W.Frag} {G : Gh} {S H : Hp} {w : Wd} {x y : V} {d e : D} {T : Addr} (hr : HR K G S w H) (hT : H T = none) (r1 : Rep K G S x d) (r2 : Rep K G S y e) :
    ∃ G2 S2, Ext G S G2 S2 ∧ HR K G2 S2 w (upd H T (.tup [x, y])) ∧ Rep K G2 S2 (.ref T) (.tup [d, e]) := by
  obtain ⟨h1, x1⟩ := hr.newS hT (.tup [x, y])
  exact ⟨G, _, x1, h1, .tup (.inl (.inl upd_same)) ((RepAll.cons r1 (.cons r2 .nil)).mono x1)⟩
end

def gRevL (g : GE) : GE := fun ρ w kx k => g ρ w kx fun x w1 => match x with
  | .lst xs => k (.lst xs.reverse) w1
  | _ => False
theorem RepAll.rev {K : PySem.W.Frag} {G : Gh} {S : Hp} : ∀ {vs : List V} {ds : List D}, RepAll K G S vs ds → RepAll K G S vs.reverse ds.reverse
  | _, _, .nil => .nil
  | _, _, .cons h r => by
    rw [List.reverse_cons, List.reverse_cons]
    exact (RepAll.rev r).append (.cons h .nil)
theorem slD_l {xs : List D} {lo hi : Option Int} {w : Wd} {k : KD} : slD (.lst xs) lo hi w k = k (.lst (cutD xs lo hi)) w := rfl
theorem cut_mem {α : Type} {xs : List α} {lo hi : Option Int} {x : α} (h : x ∈ cutD xs lo hi) : x ∈ xs := List.mem_of_mem_drop (List.mem_of_mem_take h)
theorem cut_len {α : Type} (xs : List α) (k : Nat) : (cutD xs none (some (k : Int))).length ≤ k := by
  unfold cutD
  rw [HT.sIx_none, HT.sIx_nat, List.drop_zero, List.length_take]
  omega
mutual
def plain : D → Bool
  | .non => true
  | .int _ => true
  | .str _ => true
  | .lst xs => plains xs
  | .tup xs => plains xs
  | _ => false
def plains : List D → Bool
  | [] => true
  | x :: xs => plain x && plains xs
end
mutual
def okF : D → Bool
  | .non => true
  | .bl _ => true
  | .int _ => true
  | .str _ => true
  | .lst xs => okFs xs
  | .tup xs => okFs xs
  | _ => false
def okFs : List D → Bool
  | [] => true
  | x :: xs => okF x && okFs xs
end
mutual
def dep : D → Nat
  | .lst xs => deps xs + 1
  | .tup xs => deps xs + 1
  | _ => 0
def deps : List D → Nat
  | [] => 0
  | x :: xs => max (dep x) (deps xs)
end
mutual
def wid : D → Bool
  | .lst xs => decide (xs.length ≤ 100000) && wids xs
  | .tup xs => decide (xs.length ≤ 100000) && wids xs
  | _ => true
def wids : List D → Bool
  | [] => true
  | x :: xs => wid x && wids xs
end
mutual
theorem plain_ok : ∀ {d : D}, plain d = true → okF d = true
  | .non, _ => rfl
  | .int _, _ => rfl
  | .str _, _ => rfl
  | .lst xs, h => by
    unfold plain at h
    unfold okF
    exact plains_ok h
  | .tup xs, h => by
    unfold plain at h
    unfold okF
    exact plains_ok h
theorem plains_ok : ∀ {xs : List D}, plains xs = true → okFs xs = true
  | [], _ => rfl
  | x :: xs, h => by
    unfold plains at h
    rw [Bool.and_eq_true] at h
    unfold okFs
    rw [Bool.and_eq_true]
    exact ⟨plain_ok h.1, plains_ok h.2⟩
end
mutual
def lay : D → Bool
  | .non => true
  | .bl _ => true
  | .int _ => true
  | .str s => PyData.strOk s
  | .lst xs => lays xs
  | .tup xs => lays xs
  | _ => false
def lays : List D → Bool
  | [] => true
  | x :: xs => lay x && lays xs
end
mutual
theorem lay_pd : ∀ {d : D}, lay d = true → ∃ p, toPD d = some p ∧ p.canLay0 = true ∧ p.depth = dep d
  | .non, _ => ⟨_, rfl, rfl, rfl⟩
  | .bl _, _ => ⟨_, rfl, rfl, rfl⟩
  | .int _, _ => ⟨_, rfl, rfl, rfl⟩
  | .str s, h => ⟨_, rfl, h, rfl⟩
  | .lst xs, h => by
    obtain ⟨ps, h1, h2, h3⟩ := lays_pd (xs := xs) h
    refine ⟨.list ps, by rw [toPD, h1]; rfl, h2, ?_⟩
    show PyData.depthAll ps + 1 = _
    rw [h3]
    rfl
  | .tup xs, h => by
    obtain ⟨ps, h1, h2, h3⟩ := lays_pd (xs := xs) h
    refine ⟨.tuple ps, by rw [toPD, h1]; rfl, h2, ?_⟩
    show PyData.depthAll ps + 1 = _
    rw [h3]
    rfl
theorem lays_pd : ∀ {xs : List D}, lays xs = true → ∃ ps, toPDs xs = some ps ∧ PyData.canLayAll0 ps = true ∧ PyData.depthAll ps = deps xs
  | [], _ => ⟨[], rfl, rfl, rfl⟩
  | x :: xs, h => by
    unfold lays at h
    rw [Bool.and_eq_true] at h
    obtain ⟨p, h1, h2, h3⟩ := lay_pd h.1
    obtain ⟨ps, h4, h5, h6⟩ := lays_pd h.2
    refine ⟨p :: ps, by rw [toPDs, h1, h4], by simp [PyData.canLayAll0, h2, h5], ?_⟩
    show max p.depth (PyData.depthAll ps) = max (dep x) (deps xs)
    rw [h3, h6]
end
def gSame : Nat → GF
  | 0 => fun _ _ _ _ => False
  | j + 1 => fun ds w _ k => ∃ a b : D, ds = [a, b] ∧ (okF a = true ∧ plain b = true ∧ dep b ≤ j ∧ wid a = true ∧ wid b = true) ∧ ∀ c : Bool, (c = true ↔ a = b) → k (.bl c) w
end DL

namespace DL
open PySem PySem.Spec PyProof.Rows L2 RZ

abbrev FM := D → List D → Wd → KD → Prop
def MtOk (K : PySem.W.Frag) (r : V → List V → Hp → VK → Prop) (f : FM) : Prop := ∀ {G S H w x d vs ds k Q}, HR K G S w H → Rep K G S x d → RepAll K G S vs ds → KL K G S k Q → f d ds w k → r x vs H Q
def isTy (T : String) (d : D) (w : Wd) : Prop := match d with
  | .str _ => T = "str"
  | .lst _ => T = "list"
  | .rf i => match w.M[i]? with
    | some (.lst _) => T = "list"
    | some (.dk _) => T = "dict"
    | _ => False
  | _ => False
theorem isTy_ok {K : PySem.W.Frag} {G : Gh} {S H : Hp} {w : Wd} {v : V} {d : D} {T : String} (hr : HR K G S w H) (r : Rep K G S v d) (h : isTy T d w) : tyV K T v H := by
  cases r with
  | str x => exact h
  | lst e r => exact .inl ⟨h, _, .inl (.inl (hr.same _ _ e))⟩
  | rf e =>
    unfold isTy at h
    simp only at h
    split at h
    · rename_i e2
      obtain ⟨_, ys, h1, h2⟩ := hr.cell _ _ _ e e2
      exact .inl ⟨h, ys, .inl (.inl h1)⟩
    · rename_i e2
      obtain ⟨_, ys, h1, h2⟩ := hr.cell _ _ _ e e2
      exact .inr (.inr (.inl ⟨h, .inl ⟨ys, h1⟩⟩))
    · exact h.elim
  | _ => exact h.elim
def gBM (T : String) (f : FM) (go : GE) (ga : GA) : GE := fun ρ w kx k => go ρ w kx fun x w1 => isTy T x w1 ∧ ga ρ w1 kx fun xs w2 => f x xs w2 k
section
variable {X : Cx} {E : XK} {o e : Expr} {es : List Expr} {go : GE} {ga : GA} {apos cpos : Pos} {name : Str} {T id : String} {r : V → List V → Hp → VK → Prop} {f : FM}
theorem de_bm (pa : PlainAttrs T) (slot : Slot T name id) (hty : typeOf (.builtin id) = pure (.type "method_descriptor")) (hm : MtR X id r) (hf : MtOk X.K r f) (ho : DE X E o go) (ha : DA X E (e :: es) ga)
    (hbase : attributeBase o name X.env (eval o X.env) = eval o X.env)
    (hfew : ((backTo cpos (starEach (e :: es) X.env)).all (fun x => !x.1) && (backToKw cpos (keywordEach [] X.env)).all (fun x => x.1.isSome)
      && decide ((e :: es).length + ([] : List Keyword).length + (if ([] : List Keyword).isEmpty then 0 else 1) < 30)) = true)
    (hline : (apos.endLine == cpos.line) = true) (hs : starEach (e :: es) X.env = (false, eval e X.env) :: starEach es X.env) (hplain : (backTo cpos (starEach es X.env)).any (·.1) = false) :
    DE X E (.Call (.Attribute o name apos) (e :: es) [] cpos) (gBM T f go ga) := pe_imp (pe_bm pa slot hty hm ho ha hbase hfew hline hs hplain) (by
  rintro σ H Q ⟨G, S, ρ, w, kx, k, hr, sr, xl, kl, h⟩
  exact ⟨G, S, ρ, w, kx, _, hr, sr, xl, fun G1 S1 H1 w1 d v x1 hr1 rp h1 => ⟨isTy_ok hr1 rp h1.1, G1, S1, ρ, w1, kx, _, hr1, sr.mono x1, xl.mono x1, fun G2 S2 H2 w2 ds vs x2 hr2 rp2 h2 => hf hr2 (rp.mono x2) rp2 (kl.mono (x1.trans x2)) h2, h1.2⟩, h⟩)
end
def cellK (i : Nat) (w : Wd) (f : List D → Prop) : Prop := match w.M[i]? with
  | some (.lst xs) => f xs
  | _ => False
theorem cell_get {K : PySem.W.Frag} {G : Gh} {S H : Hp} {w : Wd} {a : Addr} {i : Nat} {f : List D → Prop} (hr : HR K G S w H) (e : G.al[i]? = some a) (h : cellK i w f) :
    ∃ ds xs, w.M[i]? = some (.lst ds) ∧ S a = none ∧ H a = some (.lst xs) ∧ RepAll K G S xs ds ∧ f ds := by
  unfold cellK at h
  split at h
  · rename_i ds e2
    obtain ⟨h1, xs, h2, h3⟩ := hr.cell _ _ _ e e2
    exact ⟨ds, xs, e2, h1, h2, h3, h⟩
  · exact h.elim
theorem cell_put {K : PySem.W.Frag} {G : Gh} {S H : Hp} {w : Wd} {a : Addr} {i : Nat} {c : Cell} {ys : List V} {es : List D} (hr : HR K G S w H) (e : G.al[i]? = some a) (e2 : w.M[i]? = some c) (hs : S a = none) (r : RepAll K G S ys es) :
    HR K G S ⟨w.M.set i (.lst es), w.n⟩ (upd H a (.lst ys)) := hr.setC e e2 hs ⟨hs, ys, upd_same, r⟩
def mAppend : FM := fun x ds w k => match x, ds with
  | .rf i, [d] => cellK i w fun xs => xs.length < sizeLine ∧ k .non ⟨w.M.set i (.lst (xs ++ [d])), w.n⟩
  | _, _ => False
def mPopAt : FM := fun x ds w k => match x, ds with
  | .rf i, [.int j] => cellK i w fun xs => 0 ≤ j ∧ j < xs.length ∧ j < 2 ^ 63 ∧ someK xs[j.toNat]? fun d => k d ⟨w.M.set i (.lst (xs.eraseIdx j.toNat)), w.n⟩
  | _, _ => False
def mExtend : FM := fun x ds w k => match x, ds with
  | .rf i, [.lst ys] => cellK i w fun xs => xs.length + ys.length ≤ sizeLine ∧ k .non ⟨w.M.set i (.lst (xs ++ ys)), w.n⟩
  | _, _ => False
def mReverse : FM := fun x ds w k => match x, ds with
  | .rf i, [] => cellK i w fun xs => k .non ⟨w.M.set i (.lst xs.reverse), w.n⟩
  | _, _ => False
section
variable {K : PySem.W.Frag}
theorem ok_append : MtOk K rAppend mAppend := by
  intro G S H w x d vs ds k Q hr rx rxs kl h
  unfold mAppend at h
  split at h
  · cases rx with
    | rf e =>
      obtain ⟨es, xs, e2, h1, h2, h3, h4, h5⟩ := cell_get hr e h
      obtain ⟨v, rfl, r⟩ := one_rep rxs
      exact ⟨_, xs, v, rfl, rfl, h2, by rw [h3.length]; exact h4, kl _ _ _ _ _ _ (Ext.refl _ _) (cell_put hr e e2 h1 (h3.append (.cons r .nil))) .non h5⟩
  · exact h.elim
end
theorem rep_strs {K : PySem.W.Frag} {G : Gh} {S : Hp} : ∀ ys : List Str, RepAll K G S (ys.map V.str) (ys.map D.str)
  | [] => .nil
  | y :: ys => .cons (.str y) (rep_strs ys)
def mSplit : FM := fun x ds w k => match x, ds with
  | .str a, [.str b] => (b.length == 0) = false ∧ a.length + 2 ≤ sizeLine ∧ k (.lst ((Txt.split a b).map D.str)) w
  | _, _ => False
def mSplitC : FM := fun x ds w k => match x, ds with
  | .str a, [.str b] => (b.length == 0) = false ∧ a.length + 2 ≤ sizeLine ∧ k (.rf w.M.length) ⟨w.M ++ [.lst ((Txt.split a b).map D.str)], w.n⟩
  | _, _ => False
def rSplitT : V → List V → Hp → VK → Prop := fun x xs H Q => ∃ a b, x = .str a ∧ xs = [.str b] ∧ (b.length == 0) = false ∧ a.length + 2 ≤ sizeLine ∧ rNewStrs (Txt.split a b) H Q
def rCntV (K : PySem.W.Frag) : V → List V → Hp → VK → Prop := fun x xs H Q => ∃ (p : Addr) (ys : List V) (y : V), x = .ref p ∧ xs = [y] ∧ flatV y = true ∧ ys.all flatV = true ∧ SqL K H p ys ∧ Q (.int ((ys.countP fun z => eqV z y : Nat) : Int)) H
def allStr : List D → Option (List Str)
  | [] => some []
  | .str b :: r => match allStr r with
    | some bs => some (b :: bs)
    | none => none
  | _ => none
theorem rep_strs' {K : PySem.W.Frag} {G : Gh} {S : Hp} : ∀ {ds : List D} {vs : List V} {bs : List Str}, RepAll K G S vs ds → allStr ds = some bs → vs = bs.map V.str
  | [], _, _, r, e => by
    cases r
    cases e
    rfl
  | d :: ds, _, _, r, e => by
    cases r with
    | cons h r =>
      cases d with
      | str b =>
        cases h
        unfold allStr at e
        cases q : allStr ds with
        | none =>
          rw [q] at e
          cases e
        | some bs =>
          rw [q] at e
          cases e
          rw [rep_strs' r q]
          rfl
      | _ => simp [allStr] at e
def mCount : FM := fun x ds w k => match x, ds with
  | .lst xs, [.str s] => ∃ ss, allStr xs = some ss ∧ ∀ c : Nat, c ≤ xs.length → k (.int (c : Nat)) w
  | _, _ => False
end DL

namespace DL
open PySem PySem.Spec PyProof.Rows L2 RZ

def gLcC (gi : GI) (gt : GG) (tt : GT) (ge : GE) (vs : List Nat) : GE := fun ρ w kx k => gLc gi gt tt ge vs ρ w kx fun d w1 => ∃ acc, d = .lst acc ∧ k (.rf w1.M.length) ⟨w1.M ++ [.lst acc], w1.n⟩
section
variable {X : Cx} {E : XK} {pos : Pos}
end
def ggSub (go gi : GE) : GG := fun d ρ w k => go ρ w noX fun x w1 => gi ρ w1 noX fun y w2 => match x, y with
  | .rf i, .int j => cellK i w2 fun xs => 0 ≤ j ∧ j < xs.length ∧ k ρ ⟨w2.M.set i (.lst (xs.set j.toNat d)), w2.n⟩
  | _, _ => False
section
variable {X : Cx} {E : XK} {o i : Expr} {go gi : GE} {pos : Pos}
theorem dg_sub (ho : DE X E o go) (hi : DE X E i gi)
    (ha : ∀ v, assign (.Subscript o i pos) X.env v = (do
      let ov ← holding [v] (eval o X.env)
      let iv ← holding [v, ov] (eval i X.env)
      standAt pos
      holding [v, ov, iv] (setItem ov iv v)
      release [v, ov, iv] []) := by intro _; rfl) : DG X [] (.Subscript o i pos) (ggSub go gi) := pg_imp (pg_sub ho hi set_list ha) (by
  rintro v σ H Q ⟨G, S, ρ, w, d, k, hr, sr, rp, nl, h⟩
  refine ⟨G, S, ρ, w, noX, _, hr, sr, xl_no, fun G1 S1 H1 w1 dx vx x1 hr1 rx h1 => ⟨G1, S1, ρ, w1, noX, _, hr1, sr.mono x1, xl_no, fun G2 S2 H2 w2 dy vy x2 hr2 ry h2 => ?_, h1⟩, h⟩
  split at h2
  · cases ry
    have rx2 := rx.mono x2
    cases rx2 with
    | rf e =>
      obtain ⟨es, xs, e2, g1, g2, g3, g4, g5, g6⟩ := cell_get hr2 e h2
      have x12 := x1.trans x2
      rename_i i1 j1 _
      have ej : ∀ n : Nat, n = es.length → ∀ j : Int, 0 ≤ j → j < n → ixN n j = some j.toNat := fun n _ j h0 h1 => by
        unfold ixN
        rw [if_pos h0, if_pos h1]
      exact ⟨_, xs, _, _, rfl, rfl, g2, ej xs.length g3.length _ g4 (by rw [g3.length]; exact g5), nl _ _ _ _ _ _ x12 (cell_put hr2 e e2 g1 (g3.set (rp.mono x12) _)) (sr.mono x12) ⟨rfl, fun _ _ => rfl⟩ g6⟩
  · exact h2.elim)
end
def slA : D → Option Int → Option Int → Wd → KD → Prop := fun x lo hi w k => match x with
  | .lst ds => k (.lst (cutD ds lo hi)) w
  | .tup ds => k (.tup (cutD ds lo hi)) w
  | .rf i => cellK i w fun ds => k (.lst (cutD ds lo hi)) w
  | _ => False
theorem cut_whole {α : Type} {xs : List α} {lo hi : Option Int} (h : HT.sIx xs.length 0 lo = 0 ∧ HT.sIx xs.length xs.length hi = xs.length) : cutD xs lo hi = xs := by
  unfold cutD
  rw [h.1, h.2, List.drop_zero, Nat.sub_zero, List.take_length]
def rSlAA (K : PySem.W.Frag) : V → Option Int → Option Int → Hp → VK → Prop := fun x lo hi H Q => rSlL K x lo hi H Q ∨ rSlA K x lo hi H Q
theorem ok_slA {K : PySem.W.Frag} : SlOk K (rSlAA K) slA := by
  intro G S H w x d lo hi k Q hr rx kl h
  cases rx with
  | lst e r => exact .inl ⟨_, _, rfl, .inl (.inl (hr.same _ _ e)), kl.newL hr (rep_cut r) h⟩
  | tup e r =>
    refine .inr ⟨_, _, rfl, sqT_up hr.same e, fun hw => ?_, fun _ => kl.newT hr (rep_cut r) h⟩
    rw [r.length] at hw
    have h : k (.tup (cutD _ lo hi)) w := h
    rw [cut_whole hw] at h
    exact kl.here hr (.tup e r) h
  | rf e =>
    obtain ⟨es, xs, e2, h1, h2, h3, h4⟩ := cell_get hr e h
    exact .inl ⟨_, _, rfl, .inl (.inl h2), kl.newL hr (rep_cut h3) h4⟩
  | _ => exact h.elim
section
variable {X : Cx} {E : XK} {a : Expr} {ga : GE} {gl gh : GO} {pos p2 : Pos} {lo hi : Option Expr}
theorem de_slA (he : DE X E a ga) (hl : DO X E lo gl) (hu : DO X E hi gh) : DE X E (.Subscript a (.Slice lo hi none p2) pos) (gSl slA ga gl gh) := de_slice (sl_list.or sl_tupA) ok_slA he hl hu
end
def addTD : F2 := fun x y w k => match x, y with
  | .tup xs, .tup ys => xs.length + ys.length ≤ sizeLine ∧ k (.tup (xs ++ ys)) w
  | _, _ => False
theorem ok_addTD {K : PySem.W.Frag} : BinOk K (rCatA K) addTD := by
  intro G S H w x y d e k Q hr rx ry kl h
  unfold addTD at h
  split at h
  · cases rx with
    | tup e1 r1 => cases ry with
      | tup e2 r2 =>
        refine ⟨_, _, _, _, rfl, rfl, sqT_up hr.same e1, sqT_up hr.same e2, by rw [r1.length, r2.length]; exact h.1, fun z => ?_, fun _ z => ?_, fun _ _ => kl.newT hr (r1.append r2) h.2⟩
        · subst z
          cases r1
          exact kl.here hr (.tup e2 r2) h.2
        · subst z
          cases r2
          have h2 := h.2
          rw [List.append_nil] at h2
          exact kl.here hr (.tup e1 r1) h2
  · exact h.elim
def addCD : F2 := fun x y w k => match x, y with
  | .lst xs, .lst ys => xs.length + ys.length ≤ sizeLine ∧ k (.rf w.M.length) ⟨w.M ++ [.lst (xs ++ ys)], w.n⟩
  | .rf i, .lst ys => cellK i w fun xs => xs.length + ys.length ≤ sizeLine ∧ k (.rf w.M.length) ⟨w.M ++ [.lst (xs ++ ys)], w.n⟩
  | _, _ => False
theorem ok_addCD {K : PySem.W.Frag} : BinOk K rCat addCD := by
  intro G S H w x y d e k Q hr rx ry kl h
  unfold addCD at h
  split at h
  · cases rx with
    | lst e1 r1 => cases ry with
      | lst e2 r2 => exact ⟨_, _, _, _, rfl, rfl, hr.same _ _ e1, hr.same _ _ e2, by rw [r1.length, r2.length]; exact h.1, kl.newCL hr (r1.append r2) h.2⟩
  · cases rx with
    | rf e1 => cases ry with
      | lst e2 r2 =>
        obtain ⟨es, xs, _, h1, h2, h3, h4, h5⟩ := cell_get hr e1 h
        exact ⟨_, _, _, _, rfl, rfl, h2, hr.same _ _ e2, by rw [h3.length, r2.length]; exact h4, kl.newCL hr (h3.append r2) h5⟩
  · exact h.elim
def mulCD : F2 := fun x y w k => match x, y with
  | .lst xs, .int j => -(2 ^ 63) ≤ j ∧ j < 2 ^ 63 ∧ xs.length * j.toNat ≤ sizeLine ∧ k (.rf w.M.length) ⟨w.M ++ [.lst (List.replicate j.toNat xs).flatten], w.n⟩
  | _, _ => False
def isbD : F2 := fun x y w k => match x, y with
  | .bl a, .bl b => k (.bl (decide (a = b))) w
  | _, _ => False
def isnotbD : F2 := fun x y w k => match x, y with
  | .bl a, .bl b => k (.bl (!decide (a = b))) w
  | _, _ => False
section
variable {X : Cx} {E : XK} {a b : Expr} {ga gb : GE} {pos : Pos}
theorem de_addt (ha : DE X E a ga) (hb : DE X E b gb) : DE X E (.BinOp a .Add b pos) (gBin addTD ga gb) := de_bin op_catA ok_addTD ha hb
theorem de_addC (ha : DE X E a ga) (hb : DE X E b gb) : DE X E (.BinOp a .Add b pos) (gBin addCD ga gb) := de_bin op_cat ok_addCD ha hb
end
def enumD : Nat → List D → List D
  | _, [] => []
  | i, x :: xs => .tup [.int (i : Nat), x] :: enumD (i + 1) xs
def giEnum (ga : GA) : GI := fun ρ w kx k => ga ρ w kx fun ds w1 => match ds with
  | [.lst xs] => k (enumD 0 xs) (fun _ => True) w1
  | _ => False
section
variable {X : Cx} {E : XK}
end
mutual
def low (n : Nat) : D → Bool
  | .rf i => decide (i < n)
  | .lst xs => lows n xs
  | .tup xs => lows n xs
  | _ => true
def lows (n : Nat) : List D → Bool
  | [] => true
  | x :: xs => low n x && lows n xs
end
section
variable {K : PySem.W.Frag} {G : Gh} {S H : Hp} {w : Wd}
mutual
theorem Rep.low : ∀ {v : V} {d : D}, Rep K G S v d → DL.low G.al.length d = true
  | _, _, .non => rfl
  | _, _, .bl _ => rfl
  | _, _, .int _ => rfl
  | _, _, .str _ => rfl
  | _, _, .lst _ r => RepAll.low r
  | _, _, .tup _ r => RepAll.low r
  | _, _, .rf h => decide_eq_true (List.getElem?_eq_some_iff.mp h).1
  | _, _, .st _ => rfl
  | _, _, .ob _ => rfl
  | _, _, .scr _ => rfl
theorem RepAll.low : ∀ {v : List V} {d : List D}, RepAll K G S v d → lows G.al.length d = true
  | _, _, .nil => rfl
  | _, _, .cons h r => by
    unfold lows
    rw [Rep.low h, RepAll.low r]
    rfl
end
variable {n : Nat}
mutual
theorem Rep.trunc : ∀ {v : V} {d : D}, Rep K G S v d → DL.low n d = true → Rep K ⟨G.al.take n, G.st, G.fr⟩ S v d
  | _, _, .non, _ => .non
  | _, _, .bl b, _ => .bl b
  | _, _, .int b, _ => .int b
  | _, _, .str b, _ => .str b
  | _, _, .lst e r, h => .lst e (RepAll.trunc r h)
  | _, _, .tup e r, h => .tup e (RepAll.trunc r h)
  | _, _, .rf (i := i) e, h => by
    have hi : i < n := of_decide_eq_true h
    refine .rf ?_
    show (G.al.take n)[i]? = _
    rw [List.getElem?_take, if_pos hi]
    exact e
  | _, _, .st h, _ => .st h
  | _, _, .ob h, _ => .ob h
  | _, _, .scr h, _ => .scr h
theorem RepAll.trunc : ∀ {v : List V} {d : List D}, RepAll K G S v d → lows n d = true → RepAll K ⟨G.al.take n, G.st, G.fr⟩ S v d
  | _, _, .nil, _ => .nil
  | _, _, .cons q r, h => by
    unfold lows at h
    rw [Bool.and_eq_true] at h
    exact .cons (Rep.trunc q h.1) (RepAll.trunc r h.2)
end
def lowC (n : Nat) : Cell → Prop
  | .dead => True
  | .exc _ => True
  | .exf _ fs => ∀ p ∈ fs, low n p.2 = true
  | .tbl _ _ => True
  | .lk _ _ kvs => ∀ p ∈ kvs, low n p.2 = true
  | .lst xs => lows n xs = true
  | .dk kvs => ∀ p ∈ kvs, low n p.2 = true
  | .ins _ fs => ∀ p ∈ fs, low n p.2 = true
theorem fs_low {κ : Type} : ∀ {xs : List (κ × V)} {ys : List (κ × D)}, FsRep K G S xs ys → ∀ p ∈ ys, DL.low G.al.length p.2 = true
  | _, _, .nil, p, hp => nomatch hp
  | _, _, .cons h r, p, hp => by
    rcases List.mem_cons.mp hp with rfl | hp
    · exact h.2.low
    · exact fs_low r p hp
theorem fs_trunc {κ : Type} : ∀ {xs : List (κ × V)} {ys : List (κ × D)}, FsRep K G S xs ys → (∀ p ∈ ys, DL.low n p.2 = true) → FsRep K ⟨G.al.take n, G.st, G.fr⟩ S xs ys
  | _, _, .nil, _ => .nil
  | _, _, .cons h r, hp => .cons ⟨h.1, h.2.trunc (hp _ List.mem_cons_self)⟩ (fs_trunc r fun p q => hp p (List.mem_cons_of_mem _ q))
theorem CellOk.low {a : Addr} {c : Cell} (h : CellOk K G S H a c) : lowC G.al.length c := by
  cases c with
  | dead => trivial
  | exc C => trivial
  | exf C fs => obtain ⟨_, _, _, _, _, r⟩ := h; exact fs_low r
  | tbl P q => trivial
  | lk o ks kvs => obtain ⟨_, _, r⟩ := h; exact fs_low r
  | lst ds => obtain ⟨_, _, _, r⟩ := h; exact r.low
  | dk ds => obtain ⟨_, _, _, r⟩ := h; exact fs_low r
  | ins C ds => obtain ⟨_, _, _, _, r⟩ := h; exact fs_low r
theorem CellOk.trunc {a : Addr} {c : Cell} (h : CellOk K G S H a c) (l : lowC n c) : CellOk K ⟨G.al.take n, G.st, G.fr⟩ S H a c := by
  cases c with
  | dead => exact h
  | exc C => exact h
  | exf C fs => obtain ⟨h1, dx, gs, h2, h3, r⟩ := h; exact ⟨h1, dx, gs, h2, h3, fs_trunc r l⟩
  | tbl P q => exact h
  | lk o ks kvs => obtain ⟨h1, h2, r⟩ := h; exact ⟨h1, h2, fs_trunc r l⟩
  | lst ds => obtain ⟨h1, xs, h2, r⟩ := h; exact ⟨h1, xs, h2, r.trunc l⟩
  | dk ds => obtain ⟨h1, xs, h2, r⟩ := h; exact ⟨h1, xs, h2, fs_trunc r l⟩
  | ins C ds => obtain ⟨h1, dx, xs, h2, r⟩ := h; exact ⟨h1, dx, xs, h2, fs_trunc r l⟩
theorem HR.lowAll (h : HR K G S w H) : ∀ c ∈ w.M, lowC w.M.length c := fun c hc => by
  obtain ⟨i, hi⟩ := List.getElem?_of_mem hc
  have l := (List.getElem?_eq_some_iff.mp hi).1
  rw [← h.len] at l ⊢
  exact (h.cell i _ c (List.getElem?_eq_getElem l) hi).low
theorem HR.trunc {M0 r : List Cell} (h : HR K G S w H) (e : w.M = M0 ++ r) (hl : ∀ c ∈ M0, lowC M0.length c) : HR K ⟨G.al.take M0.length, G.st, G.fr⟩ S ⟨M0, w.n⟩ H := by
  have ln : G.al.length = M0.length + r.length := by rw [h.len, e, List.length_append]
  refine ⟨h.same, ?_, h.nod.sublist (List.take_sublist _ _), fun i a c e1 e2 => ?_, ⟨h.st.1, fun a c z => ?_⟩, fun p hp => ?_⟩
  · show (G.al.take M0.length).length = M0.length
    rw [List.length_take, ln]
    omega
  · have e1 : (G.al.take M0.length)[i]? = some a := e1
    have e2 : M0[i]? = some c := e2
    have li := (List.getElem?_eq_some_iff.mp e2).1
    rw [List.getElem?_take, if_pos li] at e1
    have q := h.cell i a c e1 (by rw [e, List.getElem?_append_left li]; exact e2)
    exact q.trunc (hl c (List.mem_of_getElem? e2))
  · obtain ⟨z1, z2, z3, z4, z5, z6⟩ := h.st.2 a c z
    exact ⟨z1, z2, z3, fun q => z4 (List.mem_of_mem_take q), fun q => z5 (List.mem_of_mem_take q), z6⟩
  · obtain ⟨y1, y2, y3⟩ := h.fr p hp
    exact ⟨y1, fun q => y2 (List.mem_of_mem_take q), y3⟩
end
def gTr (f : GF) : GF := fun ds w kx k => f ds w kx fun d w1 => (∃ r, w1.M = w.M ++ r) ∧ low w.M.length d = true ∧ k d ⟨w.M, w1.n⟩
theorem tr_up {n : Nat} {K : PySem.W.Frag} {f : GF} : ∀ vs H Q E, upF n K (gTr f) vs H Q E → upF n K f vs H Q E := by
  rintro vs H Q E ⟨G, S, ds, w, kx, k, h1, h2, h3, h4, h5, h6⟩
  refine ⟨G, S, ds, w, kx, _, h1, h2, h3, h4, fun G' S' H' w' d v x1 hr1 rp hk => ?_, h6⟩
  obtain ⟨⟨r, e⟩, lo, hk⟩ := hk
  refine h5 ⟨G'.al.take w.M.length, G'.st, G'.fr⟩ S' H' ⟨w.M, w'.n⟩ _ _ ⟨⟨[], ?_⟩, x1.st, x1.fr, x1.same⟩ (hr1.trunc e h2.lowAll) (rp.trunc lo) hk
  obtain ⟨r2, e2⟩ := x1.al
  show G'.al.take w.M.length = G.al ++ []
  rw [e2, ← h2.len, List.take_left, List.append_nil]
theorem FnAt.trunc {P : Program} {w : World} {K : PySem.W.Frag} {mg : Str → Option Value} {base : Heap} {CX : CXT} {k : Nat} {x : Str} {n : Nat} {g : GF} (h : FnAt P w K mg base CX k x n g) : FnAt P w K mg base CX k x n (gTr g) := by
  obtain ⟨f, fd, ps, h1, h2⟩ := h.ex
  exact ⟨f, fd, ps, h1.imp tr_up, h2⟩
section
variable {w : Wd} {k : KD} {i j : Int} {M : List Cell} {n : Option Nat} {xs ys : List D} {d : D} {c c' : Cell}
theorem isTy_l {T : String} : isTy T (.lst xs) w = (T = "list") := rfl
theorem isTy_s {T : String} {s : Str} : isTy T (.str s) w = (T = "str") := rfl
theorem new_at : (M ++ [c])[M.length]? = some c := by simp
theorem new_set : (M ++ [c]).set M.length c' = M ++ [c'] := by
  rw [List.set_append_right (h := Nat.le_refl _), Nat.sub_self]
  rfl
theorem isTy_new {T : String} : isTy T (.rf M.length) ⟨M ++ [.lst xs], n⟩ = (T = "list") := by
  unfold isTy
  simp
theorem cellK_new {f : List D → Prop} : cellK M.length ⟨M ++ [.lst xs], n⟩ f = f xs := by
  unfold cellK
  simp
theorem append_new : mAppend (.rf M.length) [d] ⟨M ++ [.lst xs], n⟩ k = (xs.length < sizeLine ∧ k .non ⟨M ++ [.lst (xs ++ [d])], n⟩) := by
  unfold mAppend
  simp only [cellK_new, new_set]
theorem popAt_new : mPopAt (.rf M.length) [.int j] ⟨M ++ [.lst xs], n⟩ k = (0 ≤ j ∧ j < xs.length ∧ j < 2 ^ 63 ∧ someK xs[j.toNat]? fun d => k d ⟨M ++ [.lst (xs.eraseIdx j.toNat)], n⟩) := by
  unfold mPopAt
  simp only [cellK_new, new_set]
def frzK (d : D) (w : Wd) (k : KD) : Prop := match d with
  | .rf i => match w.M[i]? with
    | some (.lst ds) => k (.lst ds) ⟨w.M.set i .dead, w.n⟩
    | _ => False
  | _ => False
theorem gFrz_eq {ge : GE} {ρ : Rho} {kx : KX} : gFrz ge ρ w kx k = ge ρ w kx fun x w1 => frzK x w1 k := rfl
theorem frzK_new : frzK (.rf M.length) ⟨M ++ [.lst xs], n⟩ k = k (.lst xs) ⟨M ++ [.dead], n⟩ := by
  unfold frzK
  simp only [new_at, new_set]
theorem fLen_new : fLen [.rf M.length] ⟨M ++ [.lst xs], n⟩ k = k (.int xs.length) ⟨M ++ [.lst xs], n⟩ := by
  simp [fLen, seqD]
theorem fTuple_new : fTuple [.rf M.length] ⟨M ++ [.lst xs], n⟩ k = k (.tup xs) ⟨M ++ [.lst xs], n⟩ := by
  simp [fTuple, seqD]
theorem ixD_new : ixD (.rf M.length) (.int j) ⟨M ++ [.lst xs], n⟩ k = someK (atI xs j) (fun d => k d ⟨M ++ [.lst xs], n⟩) := by
  simp [ixD, seqD]
  rfl
theorem slA_l {lo hi : Option Int} : slA (.lst xs) lo hi w k = k (.lst (cutD xs lo hi)) w := rfl
theorem slA_t {lo hi : Option Int} : slA (.tup xs) lo hi w k = k (.tup (cutD xs lo hi)) w := rfl
theorem slA_new {lo hi : Option Int} : slA (.rf M.length) lo hi ⟨M ++ [.lst xs], n⟩ k = k (.lst (cutD xs lo hi)) ⟨M ++ [.lst xs], n⟩ := by
  unfold slA
  simp only [cellK_new]
theorem addTD_t : addTD (.tup xs) (.tup ys) w k = (xs.length + ys.length ≤ sizeLine ∧ k (.tup (xs ++ ys)) w) := rfl
theorem addCD_l : addCD (.lst xs) (.lst ys) w k = (xs.length + ys.length ≤ sizeLine ∧ k (.rf w.M.length) ⟨w.M ++ [.lst (xs ++ ys)], w.n⟩) := rfl
theorem mulCD_l : mulCD (.lst xs) (.int j) w k = (-(2 ^ 63) ≤ j ∧ j < 2 ^ 63 ∧ xs.length * j.toNat ≤ sizeLine ∧ k (.rf w.M.length) ⟨w.M ++ [.lst (List.replicate j.toNat xs).flatten], w.n⟩) := rfl
theorem isbD_b {a b : Bool} : isbD (.bl a) (.bl b) w k = k (.bl (decide (a = b))) w := rfl
theorem isnotbD_b {a b : Bool} : isnotbD (.bl a) (.bl b) w k = k (.bl (!decide (a = b))) w := rfl
theorem mSplitC_s {a b : Str} : mSplitC (.str a) [.str b] w k = ((b.length == 0) = false ∧ a.length + 2 ≤ sizeLine ∧ k (.rf w.M.length) ⟨w.M ++ [.lst ((Txt.split a b).map D.str)], w.n⟩) := rfl
end
theorem lows_of {n : Nat} : ∀ {xs : List D}, (∀ x ∈ xs, low n x = true) → lows n xs = true
  | [], _ => rfl
  | x :: xs, h => by
    unfold lows
    rw [h x List.mem_cons_self, lows_of fun y hy => h y (List.mem_cons_of_mem _ hy)]
    rfl
def lstK (d : D) (w : Wd) (f : List D → Prop) : Prop := match d with
  | .lst xs => f xs
  | .rf i => cellK i w f
  | _ => False
def addLD : F2 := fun x y w k => lstK x w fun xs => lstK y w fun ys => xs.length + ys.length ≤ sizeLine ∧ k (.lst (xs ++ ys)) w
theorem lst_get {K : PySem.W.Frag} {G : Gh} {S H : Hp} {w : Wd} {v : V} {d : D} {f : List D → Prop} (hr : HR K G S w H) (r : Rep K G S v d) (h : lstK d w f) : ∃ a xs ds, v = .ref a ∧ H a = some (.lst xs) ∧ RepAll K G S xs ds ∧ f ds := by
  cases r with
  | lst e r => exact ⟨_, _, _, rfl, hr.same _ _ e, r, h⟩
  | rf e =>
    obtain ⟨es, xs, _, _, h2, h3, h4⟩ := cell_get hr e h
    exact ⟨_, _, _, rfl, h2, h3, h4⟩
  | _ => exact h.elim
theorem ok_addLD {K : PySem.W.Frag} : BinOk K rCat addLD := by
  intro G S H w x y d e k Q hr rx ry kl h
  obtain ⟨a, xs, ds, rfl, h1, h2, h⟩ := lst_get hr rx h
  obtain ⟨b, ys, es, rfl, h3, h4, h5, h6⟩ := lst_get hr ry h
  exact ⟨_, _, _, _, rfl, rfl, h1, h3, by rw [h2.length, h4.length]; exact h5, kl.newL hr (h2.append h4) h6⟩
theorem de_addl {X : Cx} {E : XK} {a b : Expr} {ga gb : GE} {pos : Pos} (ha : DE X E a ga) (hb : DE X E b gb) : DE X E (.BinOp a .Add b pos) (gBin addLD ga gb) := de_bin op_cat ok_addLD ha hb
theorem lstK_l {xs : List D} {w : Wd} {f : List D → Prop} : lstK (.lst xs) w f = f xs := rfl
theorem lstK_r {i : Nat} {w : Wd} {f : List D → Prop} : lstK (.rf i) w f = cellK i w f := rfl
theorem addLD_eq {x y : D} {w : Wd} {k : KD} : addLD x y w k = lstK x w fun xs => lstK y w fun ys => xs.length + ys.length ≤ sizeLine ∧ k (.lst (xs ++ ys)) w := rfl
end DL

namespace DL
open PySem PySem.Spec PyProof.Rows L2 RZ

theorem lc_tyf {α : Type} {gt : GG} {tt : GT} {ge : GE} {Ok : Wd → Prop} {ρ : Rho} {k : KD} {w : Wd} (toD f : α → D) (p : α → Bool) (xs : List α) (hOk : Ok w) (hl : xs.length ≤ 100000)
    (h : ∀ a, a ∈ xs → ∀ (A : KD) (B : Wd → Prop), (p a = true → A (f a) w) → (p a = false → B w) → gt (toD a) ρ w fun ρ1 w1 => tt ρ1 w1 noX fun c w2 => if c = true then ge ρ1 w2 noX A else B w2)
    (hk : k (.lst ((xs.filter p).map f)) w) : ∃ P : List D → List D → Wd → Prop, P (xs.map toD) [] w ∧ LcS gt tt ge Ok ρ k P := by
  refine ⟨fun rem acc w' => w' = w ∧ ∃ dn rs, xs = dn ++ rs ∧ rem = rs.map toD ∧ acc = (dn.filter p).map f, ⟨rfl, [], xs, rfl, rfl, rfl⟩, ?_, ?_⟩
  · rintro acc w' ⟨rfl, dn, rs, e, e2, rfl⟩
    have : rs = [] := by simpa using e2.symm
    subst this
    rw [List.append_nil] at e
    subst e
    exact ⟨hOk, hk⟩
  · rintro x rem acc w' ⟨rfl, dn, rs, e, e2, rfl⟩
    cases rs with
    | nil => cases e2
    | cons a rs =>
      rw [List.map_cons] at e2
      injection e2 with e2 e3
      subst e2
      subst e3
      refine ⟨hOk, ?_⟩
      have ha : a ∈ xs := by rw [e]; simp
      have hlen : dn.length ≤ xs.length := by rw [e]; simp
      refine h a ha _ _ (fun hp => ⟨?_, rfl, dn ++ [a], rs, by rw [e]; simp, rfl, ?_⟩) (fun hp => ⟨rfl, dn ++ [a], rs, by rw [e]; simp, rfl, ?_⟩)
      · rw [List.length_map]
        have := List.length_filter_le p dn
        exact Nat.lt_of_le_of_lt (show (dn.filter p).length ≤ 100000 by omega) (by decide)
      · rw [List.filter_append, List.filter_cons, if_pos hp, List.map_append]
        rfl
      · rw [List.filter_append, List.filter_cons, if_neg (by rw [hp]; decide), List.filter_nil, List.append_nil]
theorem lc_ty {α : Type} {gt : GG} {ge : GE} {Ok : Wd → Prop} {ρ : Rho} {k : KD} {w : Wd} (toD f : α → D) (xs : List α) (hOk : Ok w) (hl : xs.length ≤ 100000)
    (h : ∀ a, a ∈ xs → ∀ k' : KD, k' (f a) w → gt (toD a) ρ w fun ρ1 w1 => ge ρ1 w1 noX k') (hk : k (.lst (xs.map f)) w) : ∃ P : List D → List D → Wd → Prop, P (xs.map toD) [] w ∧ LcS gt gYes ge Ok ρ k P := by
  refine lc_tyf toD f (fun _ => true) xs hOk hl (fun a ha A B h1 _ => ?_) ?_
  · exact h a ha A (h1 rfl)
  · rw [List.filter_eq_self.mpr fun _ _ => rfl]
    exact hk
theorem at_last1 {α : Type} (xs : List α) (v : α) : atI (xs ++ [v]) (-1) = some v := atI_last xs v
theorem rep_mem {α : Type} {n : Nat} {xs : List α} {x : α} (h : x ∈ (List.replicate n xs).flatten) : x ∈ xs := by
  obtain ⟨l, h1, h2⟩ := List.mem_flatten.mp h
  rw [List.eq_of_mem_replicate h1] at h2
  exact h2
theorem rep_flen {α : Type} (n : Nat) (xs : List α) : ((List.replicate n xs).flatten).length = n * xs.length := by
  rw [List.length_flatten, List.map_replicate, List.sum_replicate_nat]
end DL

namespace DL
open PySem PySem.Spec PyProof.Rows L2 RZ

def keyD : D → Option Key
  | .int i => some (.inl i)
  | .str s => some (.inr s)
  | _ => none
section
variable {K : PySem.W.Frag} {G : Gh} {S H : Hp} {w : Wd}
theorem rep_key {v : V} {d : D} {k : Key} (r : Rep K G S v d) (h : keyD d = some k) : v = kV k := by
  cases r with
  | int i => cases h; rfl
  | str i => cases h; rfl
  | _ => cases h
section
variable {κ : Type} [DecidableEq κ]
def valD (kvs : List (κ × D)) (k : κ) : Option D := (kvs.find? fun kv => decide (kv.1 = k)).map (·.2)
def putD (kvs : List (κ × D)) (k : κ) (d : D) : List (κ × D) := if (kvs.any fun kv => decide (kv.1 = k)) = true then kvs.map fun kv => if kv.1 = k then (kv.1, d) else kv else kvs ++ [(k, d)]
theorem fs_any {k : κ} : ∀ {xs : List (κ × V)} {ys : List (κ × D)}, FsRep K G S xs ys → (xs.any fun kv => decide (kv.1 = k)) = ys.any fun kv => decide (kv.1 = k)
  | _, _, .nil => rfl
  | _, _, .cons h r => by
    rw [List.any_cons, List.any_cons, fs_any r, h.1]
theorem fs_some {k : κ} {d : D} : ∀ {xs : List (κ × V)} {ys : List (κ × D)}, FsRep K G S xs ys → valD ys k = some d → ∃ v, valV xs k = some v ∧ Rep K G S v d
  | _, _, .nil, e => nomatch e
  | x :: xs, y :: ys, .cons h r, e => by
    by_cases hk : y.1 = k
    · have e2 : valD (y :: ys) k = some y.2 := by simp [valD, List.find?_cons, hk]
      rw [e2] at e
      cases e
      exact ⟨x.2, valV_pos (h.1.trans hk), h.2⟩
    · have e2 : valD (y :: ys) k = valD ys k := by simp [valD, List.find?_cons, hk]
      rw [e2] at e
      rw [valV_neg fun z => hk (h.1.symm.trans z)]
      exact fs_some r e
theorem fs_none {k : κ} : ∀ {xs : List (κ × V)} {ys : List (κ × D)}, FsRep K G S xs ys → valD ys k = none → valV xs k = none
  | _, _, .nil, _ => rfl
  | x :: xs, y :: ys, .cons h r, e => by
    by_cases hk : y.1 = k
    · have e2 : valD (y :: ys) k = some y.2 := by simp [valD, List.find?_cons, hk]
      rw [e2] at e
      cases e
    · have e2 : valD (y :: ys) k = valD ys k := by simp [valD, List.find?_cons, hk]
      rw [e2] at e
      rw [valV_neg fun z => hk (h.1.symm.trans z)]
      exact fs_none r e
theorem fs_map {k : κ} {v : V} {d : D} (hd : Rep K G S v d) : ∀ {xs : List (κ × V)} {ys : List (κ × D)}, FsRep K G S xs ys → FsRep K G S (xs.map fun kv => if kv.1 = k then (kv.1, v) else kv) (ys.map fun kv => if kv.1 = k then (kv.1, d) else kv)
  | _, _, .nil => .nil
  | x :: _, y :: _, .cons h r => by
    refine .cons ?_ (fs_map hd r)
    by_cases hk : y.1 = k
    · simp only [if_pos hk, if_pos (h.1.trans hk)]
      exact ⟨h.1, hd⟩
    · have hk2 : ¬ x.1 = k := fun z => hk (h.1.symm.trans z)
      simp only [if_neg hk, if_neg hk2]
      exact h
theorem fs_snoc {k : κ} {v : V} {d : D} (hd : Rep K G S v d) : ∀ {xs : List (κ × V)} {ys : List (κ × D)}, FsRep K G S xs ys → FsRep K G S (xs ++ [(k, v)]) (ys ++ [(k, d)])
  | _, _, .nil => .cons ⟨rfl, hd⟩ .nil
  | _, _, .cons h r => .cons h (fs_snoc hd r)
theorem fs_put {k : κ} {v : V} {d : D} (hd : Rep K G S v d) {xs : List (κ × V)} {ys : List (κ × D)} (h : FsRep K G S xs ys) : FsRep K G S (putK xs k v) (putD ys k d) := by
  unfold putK putD
  rw [fs_any h]
  split
  · exact fs_map hd h
  · exact fs_snoc hd h
theorem fs_lenD {xs : List (κ × V)} {ys : List (κ × D)} (h : FsRep K G S xs ys) : xs.length = ys.length := Paired.length h
theorem fs_keys : ∀ {xs : List (κ × V)} {ys : List (κ × D)}, FsRep K G S xs ys → xs.map (·.1) = ys.map (·.1)
  | _, _, .nil => rfl
  | _, _, .cons h r => by
    rw [List.map_cons, List.map_cons, fs_keys r, h.1]
end
def dkK (i : Nat) (w : Wd) (f : List (Key × D) → Prop) : Prop := match w.M[i]? with
  | some (.dk xs) => f xs
  | _ => False
theorem dk_get {a : Addr} {i : Nat} {f : List (Key × D) → Prop} (hr : HR K G S w H) (e : G.al[i]? = some a) (h : dkK i w f) :
    ∃ ds xs, w.M[i]? = some (.dk ds) ∧ S a = none ∧ H a = some (.dK xs) ∧ FsRep K G S xs ds ∧ f ds := by
  unfold dkK at h
  split at h
  · rename_i ds e2
    obtain ⟨h1, xs, h2, h3⟩ := hr.cell _ _ _ e e2
    exact ⟨ds, xs, e2, h1, h2, h3, h⟩
  · exact h.elim
theorem dk_put {a : Addr} {i : Nat} {c : Cell} {ys : List (Key × V)} {es : List (Key × D)} (hr : HR K G S w H) (e : G.al[i]? = some a) (e2 : w.M[i]? = some c) (hs : S a = none) (r : FsRep K G S ys es) :
    HR K G S ⟨w.M.set i (.dk es), w.n⟩ (upd H a (.dK ys)) := hr.setC e e2 hs ⟨hs, ys, upd_same, r⟩
theorem KL.newCell {k : KD} {Q : VK} {o : HO} {c : Cell} (kl : KL K G S k Q) (hr : HR K G S w H) (h : k (.rf w.M.length) ⟨w.M ++ [c], w.n⟩) {p : Addr} (hp : H p = none) (hc : CellOk K ⟨G.al ++ [p], G.st, G.fr⟩ S (upd H p o) p c) : Q (.ref p) (upd H p o) := by
  obtain ⟨h1, x1⟩ := hr.newC hp o c hc
  refine kl _ _ _ _ _ _ x1 h1 (.rf ?_) h
  show (G.al ++ [p])[w.M.length]? = some p
  rw [List.getElem?_append_right (by rw [hr.len]; exact Nat.le_refl _), hr.len, Nat.sub_self]
  rfl
end
def gDNew : GE := fun _ w _ k => k (.rf w.M.length) ⟨w.M ++ [.dk []], w.n⟩
def keyK (d : D) (f : Key → Prop) : Prop := match keyD d with
  | some k => f k
  | none => False
def rfK (d : D) (f : Nat → Prop) : Prop := match d with
  | .rf i => f i
  | _ => False
def gDGet (go gi : GE) : GE := fun ρ w kx k => go ρ w kx fun x w1 => gi ρ w1 kx fun y w2 => rfK x fun i => keyK y fun q => dkK i w2 fun kvs => someK (valD kvs q) fun d => k d w2
def gDGet2 (go gi gd : GE) : GE := fun ρ w kx k => go ρ w kx fun x w1 => rfK x fun i => dkK i w1 fun _ => gi ρ w1 kx fun y w2 => gd ρ w2 kx fun z w3 => keyK y fun q => dkK i w3 fun kvs => k ((valD kvs q).getD z) w3
def gDSetd (go gi gd : GE) : GE := fun ρ w kx k => go ρ w kx fun x w1 => rfK x fun i => dkK i w1 fun _ => gi ρ w1 kx fun y w2 => gd ρ w2 kx fun z w3 => keyK y fun q => dkK i w3 fun kvs => kvs.length < sizeLine ∧ match valD kvs q with
  | some d => k d w3
  | none => k z ⟨w3.M.set i (.dk (putD kvs q z)), w3.n⟩
def ggDPut (go gi : GE) : GG := fun d ρ w k => go ρ w noX fun x w1 => gi ρ w1 noX fun y w2 => rfK x fun i => keyK y fun q => dkK i w2 fun kvs => kvs.length < sizeLine ∧ k ρ ⟨w2.M.set i (.dk (putD kvs q d)), w2.n⟩
theorem rfK_rep {K : PySem.W.Frag} {G : Gh} {S : Hp} {v : V} {d : D} {f : Nat → Prop} (r : Rep K G S v d) (h : rfK d f) : ∃ a i, v = .ref a ∧ d = .rf i ∧ G.al[i]? = some a ∧ f i := by
  cases r with
  | rf e => exact ⟨_, _, rfl, rfl, e, h⟩
  | _ => exact h.elim
theorem keyK_rep {K : PySem.W.Frag} {G : Gh} {S : Hp} {v : V} {d : D} {f : Key → Prop} (r : Rep K G S v d) (h : keyK d f) : ∃ k, v = kV k ∧ f k := by
  unfold keyK at h
  split at h
  · rename_i k e
    exact ⟨k, rep_key r e, h⟩
  · exact h.elim
section
variable {X : Cx} {E : XK} {o i e : Expr} {go gi gd : GE} {pos apos cpos : Pos}
theorem de_dnew : DE X E (.Dict [] [] pos) gDNew := pe_imp pe_dnewK (by
  rintro σ H Q ⟨G, S, ρ, w, kx, k, hr, sr, xl, kl, h⟩ p hp
  exact kl.newCell hr h hp ⟨hr.freshS hp, [], upd_same, .nil⟩)
theorem dg_dput (hu : X.A.units + 1 < cLine) (ho : DE X E o go) (hi : DE X E i gi)
    (ha : ∀ v, assign (.Subscript o i pos) X.env v = (do
      let ov ← holding [v] (eval o X.env)
      let iv ← holding [v, ov] (eval i X.env)
      standAt pos
      holding [v, ov, iv] (setItem ov iv v)
      release [v, ov, iv] []) := by intro _; rfl) : DG X [] (.Subscript o i pos) (ggDPut go gi) := pg_imp (pg_sub ho hi (set_dict hu) ha) (by
  rintro v σ H Q ⟨G, S, ρ, w, d, k, hr, sr, rp, nl, h⟩
  refine ⟨G, S, ρ, w, noX, _, hr, sr, xl_no, fun G1 S1 H1 w1 dx vx x1 hr1 rx h1 => ⟨G1, S1, ρ, w1, noX, _, hr1, sr.mono x1, xl_no, fun G2 S2 H2 w2 dy vy x2 hr2 ry h2 => ?_, h1⟩, h⟩
  have x12 := x1.trans x2
  obtain ⟨a, j, rfl, rfl, ea, h3⟩ := rfK_rep (rx.mono x2) h2
  obtain ⟨q, rfl, h4⟩ := keyK_rep ry h3
  obtain ⟨es, ys, e2, hs, g3, g4, h9, h10⟩ := dk_get hr2 ea h4
  exact ⟨a, _, rfl, DPut.k g3 (by rw [fs_lenD g4]; exact h9), nl _ _ _ _ _ _ x12 (dk_put hr2 ea e2 hs (fs_put (rp.mono x12) g4)) (sr.mono x12) ⟨rfl, fun _ _ => rfl⟩ h10⟩)
end
def fSortD : FB := fun ds w k => match ds with
  | [.rf i] => dkK i w fun kvs => ∃ ks : List Str, kvs.map (·.1) = ks.map Sum.inr ∧ ks.length < 64 ∧ ∀ ys : List Str, ys.Perm ks → sortedS ys = true → k (.lst (ys.map D.str)) w
  | _ => False
def insK (C : Addr) (i : Nat) (w : Wd) (f : List (Str × D) → Prop) : Prop := match w.M[i]? with
  | some (.ins C' fs) => C' = C ∧ f fs
  | _ => False
def putFD (f : Str) (d : D) : List (Str × D) → List (Str × D)
  | [] => [(f, d)]
  | (g, x) :: r => if g = f then (g, d) :: r else (g, x) :: putFD f d r
section
variable {K : PySem.W.Frag} {G : Gh} {S : Hp}
end
def gFld (C : Addr) (go : GE) (f : Str) : GE := fun ρ w kx k => go ρ w kx fun x w1 => rfK x fun i => insK C i w1 fun fs => someK (fs.lookup f) fun d => k d w1
def gSetF (C : Addr) (go gv : GE) (f : Str) : GS := fun F ρ w => gv ρ w F.ex fun d w1 => go ρ w1 F.ex fun x w2 => rfK x fun i => insK C i w2 fun fs => fs.length < 1000 ∧ F.nx ρ ⟨w2.M.set i (.ins C (putFD f d fs)), w2.n⟩
def gMeth (C : Addr) (n : Nat) (sp : GF) (m : Str) (go : GE) (ga : GA) : GE := fun ρ w kx k => go ρ w kx fun x w1 => rfK x fun i => insK C i w1 fun fs => fs.lookup m = none ∧ ga ρ w1 kx fun xs w2 => (x :: xs).length = n ∧ sp (x :: xs) w2 noX k
def gMake (C : Addr) (n : Nat) (sp : GF) (ga : GA) : GE := fun ρ w kx k => ga ρ w kx fun xs w1 => (D.rf w1.M.length :: xs).length = n ∧ sp (.rf w1.M.length :: xs) ⟨w1.M ++ [.ins C []], w1.n⟩ noX fun d w2 => d = .non ∧ k (.rf w1.M.length) w2
structure ClsAt (K : PySem.W.Frag) (mg : Str → Option Value) (x : Str) (C : Addr) (fs : List Str) : Prop where
  cl : Cls K C
  mgC : mg x = some (.ref C)
  na : ∀ f ∈ fs, NoAttr K C f
structure MethAt (K : PySem.W.Frag) (C : Addr) (m qual : Str) (st : Stmt) (ps : List Str) : Prop where
  ex : ∃ f fd, Fun K m qual st f fd ∧ Meth K C m f ∧ Binds K fd ps []
structure InitAt (K : PySem.W.Frag) (C : Addr) (qual : Str) (st : Stmt) (ps : List Str) : Prop where
  ex : ∃ f fd, Fun K "__init__" qual st f fd ∧ Mk K C f ∧ Binds K fd ps []
structure MtAt (P : Program) (w : World) (K : PySem.W.Frag) (mg : Str → Option Value) (base : Heap) (CX : CXT) (k : Nat) (C : Addr) (m : Str) (n : Nat) (g : GF) : Prop where
  ex : ∃ f fd ps, FnOk P w K mg base CX k f fd ps (upF n K g) ∧ Meth K C m f ∧ Binds K fd ps []
structure InAt (P : Program) (w : World) (K : PySem.W.Frag) (mg : Str → Option Value) (base : Heap) (CX : CXT) (k : Nat) (C : Addr) (n : Nat) (g : GF) : Prop where
  ex : ∃ f fd ps, FnOk P w K mg base CX k f fd ps (upF n K g) ∧ Mk K C f ∧ Binds K fd ps []
section
variable {P : Program} {w : World} {K : PySem.W.Frag} {mg : Str → Option Value} {base : Heap}
theorem MtAt.imp {CX : CXT} {k : Nat} {C : Addr} {m : Str} {n : Nat} {g g' : GF} (h : MtAt P w K mg base CX k C m n g) (i : ∀ ds w kx k, g' ds w kx k → g ds w kx k) : MtAt P w K mg base CX k C m n g' := by
  obtain ⟨f, fd, ps, h1, h2⟩ := h.ex
  exact ⟨f, fd, ps, h1.imp (up_imp i), h2⟩
theorem InAt.imp {CX : CXT} {k : Nat} {C : Addr} {n : Nat} {g g' : GF} (h : InAt P w K mg base CX k C n g) (i : ∀ ds w kx k, g' ds w kx k → g ds w kx k) : InAt P w K mg base CX k C n g' := by
  obtain ⟨f, fd, ps, h1, h2⟩ := h.ex
  exact ⟨f, fd, ps, h1.imp (up_imp i), h2⟩
theorem MtAt.trunc {CX : CXT} {k : Nat} {C : Addr} {m : Str} {n : Nat} {g : GF} (h : MtAt P w K mg base CX k C m n g) : MtAt P w K mg base CX k C m n (gTr g) := by
  obtain ⟨f, fd, ps, h1, h2⟩ := h.ex
  exact ⟨f, fd, ps, h1.imp tr_up, h2⟩
theorem fun_fnq {x q : Str} {st : Stmt} {f : Addr} {fd : FuncData} {N ps : List Str} {k : Nat} {g : GS} (F : Fun K x q st f fd) (S : FnScope N ps (defScope st))
    (hbody : ∀ (f : Addr) (cdv : Value) (A : Around) (outer : List Env) (s : Shared) (H : Hp) (E : XK), Room k (A.deeper (envOfC q (defScope st) s.heap.objs.size f cdv)) →
      DSs (cxOf CX0 P w K mg base N q (defScope st) f cdv A outer s H E).nox E0 (defBody st) g) : FnOk P w K mg base CX0 (k + 1) f fd ps (upF ps.length K (sem0 N.length g)) := by
  refine F.ok S (fun vs H Q E h => ?_) (fun cdv A outer s H vs Q E hr h => ?_)
  · obtain ⟨G, S, ds, w, kx, k, h1, h2, h3, _⟩ := h
    rw [h3.length, h1]
  · obtain ⟨G, S1, ds, w1, kx, k1, h1, h2, h3, h4, h5, h6⟩ := h
    refine ⟨_, hbody f cdv A outer s H E hr, G, S1, rho N.length ds, w1, { nx := fun _ w' => k1 .non w', rt := k1, ex := noX }, h2, sr_start h3, ⟨fun G' S' H' w' ρ' σ' x1 hr1 _ hk => h5 _ _ _ _ _ _ x1 hr1 .non hk, h5, ?_, ?_, xl_no⟩, h6⟩
    · intro _ _ _ _ _ _ _ _ _ z
      exact z.elim
    · intro _ _ _ _ _ _ _ _ _ z
      exact z.elim
theorem MethAt.fn0 {C : Addr} {m q : Str} {st : Stmt} {N ps : List Str} {k : Nat} {g : GS} (T : MethAt K C m q st ps) (S : FnScope N ps (defScope st))
    (hbody : ∀ (f : Addr) (cdv : Value) (A : Around) (outer : List Env) (s : Shared) (H : Hp) (E : XK), Room k (A.deeper (envOfC q (defScope st) s.heap.objs.size f cdv)) →
      DSs (cxOf CX0 P w K mg base N q (defScope st) f cdv A outer s H E).nox E0 (defBody st) g) : MtAt P w K mg base CX0 (k + 1) C m ps.length (sem0 N.length g) := by
  obtain ⟨f, fd, F, hm, hb⟩ := T.ex
  exact ⟨f, fd, ps, fun_fnq F S hbody, hm, hb⟩
theorem InitAt.fn0 {C : Addr} {q : Str} {st : Stmt} {N ps : List Str} {k : Nat} {g : GS} (T : InitAt K C q st ps) (S : FnScope N ps (defScope st))
    (hbody : ∀ (f : Addr) (cdv : Value) (A : Around) (outer : List Env) (s : Shared) (H : Hp) (E : XK), Room k (A.deeper (envOfC q (defScope st) s.heap.objs.size f cdv)) →
      DSs (cxOf CX0 P w K mg base N q (defScope st) f cdv A outer s H E).nox E0 (defBody st) g) : InAt P w K mg base CX0 (k + 1) C ps.length (sem0 N.length g) := by
  obtain ⟨f, fd, F, hm, hb⟩ := T.ex
  exact ⟨f, fd, ps, fun_fnq F S hbody, hm, hb⟩
end
section
variable {X : Cx} {E : XK} {o e value : Expr} {es : List Expr} {go gv : GE} {ga : GA} {pos pos' apos p : Pos} {f x m : Str} {C : Addr} {fs : List Str} {k n : Nat} {g : GF}
end
end DL

namespace DL
open PySem PySem.Spec PyProof.Rows L2 RZ
structure XCls (K : PySem.W.Frag) (mg : Str → Option Value) (x : Str) (C : Addr) : Prop where
  mgC : mg x = some (.ref C)
  kp : PySem.W.keepIn K (.ref C) = true
  exc : PySem.W.excIn K C [.type "ValueError", .type "Exception", .type "BaseException", .type "object"] "ValueError.__new__" = true
  sub : PySem.W.subIn K (.ref C) (.type "BaseException") = some true
  ty : PySem.W.typeIn K (.ref C) = some (.type "type")
structure Tk (X : Cx) (E : XK) : Prop where
  tk : Takes X (fun cls d _ H => E cls d H)
def gRaise (C : Addr) : GS := fun F _ w => F.ex (.own C) w
section
variable {P : Program} {w : World} {K : PySem.W.Frag} {mg : Str → Option Value} {base : Heap}
theorem fun_fnX {x q : Str} {st : Stmt} {f : Addr} {fd : FuncData} {N ps : List Str} {k : Nat} {g : GS} (F : Fun K x q st f fd) (S : FnScope N ps (defScope st))
    (hbody : ∀ (f : Addr) (cdv : Value) (A : Around) (outer : List Env) (s : Shared) (H : Hp) (E : XK), Room k (A.deeper (envOfC q (defScope st) s.heap.objs.size f cdv)) →
      Tk (cxOf (L2.CX P w) P w K mg base N q (defScope st) f cdv A outer s H E) E → DSs (cxOf (L2.CX P w) P w K mg base N q (defScope st) f cdv A outer s H E) E (defBody st) g) : FnOk P w K mg base (L2.CX P w) (k + 1) f fd ps (upF ps.length K (semX N.length g)) := by
  refine F.okX S (fun vs H Q E h => ?_) (fun cdv A outer s H vs Q E hr h => ?_)
  · obtain ⟨G, S, ds, w, kx, k, h1, h2, h3, _⟩ := h
    rw [h3.length, h1]
  · obtain ⟨G, S1, ds, w1, kx, k1, h1, h2, h3, h4, h5, h6⟩ := h
    refine ⟨_, hbody f cdv A outer s H E hr ⟨takes_of rfl rfl rfl rfl⟩, G, S1, rho N.length ds, w1, { nx := fun _ w' => k1 .non w', rt := k1, ex := kx }, h2, sr_start h3, ⟨fun G' S' H' w' ρ' σ' x1 hr1 _ hk => h5 _ _ _ _ _ _ x1 hr1 .non hk, h5, ?_, ?_, h4⟩, h6⟩
    · intro _ _ _ _ _ _ _ _ _ z
      exact z.elim
    · intro _ _ _ _ _ _ _ _ _ z
      exact z.elim
theorem DefAt.fnX {x : Str} {st : Stmt} {N ps : List Str} {k : Nat} {g : GS} (T : DefAt K mg x st ps) (S : FnScope N ps (defScope st))
    (hbody : ∀ (f : Addr) (cdv : Value) (A : Around) (outer : List Env) (s : Shared) (H : Hp) (E : XK), Room k (A.deeper (envOfC x (defScope st) s.heap.objs.size f cdv)) →
      Tk (cxOf (L2.CX P w) P w K mg base N x (defScope st) f cdv A outer s H E) E → DSs (cxOf (L2.CX P w) P w K mg base N x (defScope st) f cdv A outer s H E) E (defBody st) g) : FnAt P w K mg base (L2.CX P w) (k + 1) x ps.length (semX N.length g) := by
  obtain ⟨f, fd, F, hm, hb⟩ := T.ex
  exact ⟨f, fd, ps, fun_fnX F S hbody, hm, F.kp, hb⟩
theorem MethAt.fnX {C : Addr} {m q : Str} {st : Stmt} {N ps : List Str} {k : Nat} {g : GS} (T : MethAt K C m q st ps) (S : FnScope N ps (defScope st))
    (hbody : ∀ (f : Addr) (cdv : Value) (A : Around) (outer : List Env) (s : Shared) (H : Hp) (E : XK), Room k (A.deeper (envOfC q (defScope st) s.heap.objs.size f cdv)) →
      Tk (cxOf (L2.CX P w) P w K mg base N q (defScope st) f cdv A outer s H E) E → DSs (cxOf (L2.CX P w) P w K mg base N q (defScope st) f cdv A outer s H E) E (defBody st) g) : MtAt P w K mg base (L2.CX P w) (k + 1) C m ps.length (semX N.length g) := by
  obtain ⟨f, fd, F, hm, hb⟩ := T.ex
  exact ⟨f, fd, ps, fun_fnX F S hbody, hm, hb⟩
end
def gCallX (n : Nat) (g : GF) (ga : GA) : GE := fun ρ w kx k => ga ρ w kx fun ds w1 => ds.length = n ∧ g ds w1 kx k
def gMethX (C : Addr) (n : Nat) (sp : GF) (m : Str) (go : GE) (ga : GA) : GE := fun ρ w kx k => go ρ w kx fun x w1 => rfK x fun i => insK C i w1 fun fs => fs.lookup m = none ∧ ga ρ w1 kx fun xs w2 => (x :: xs).length = n ∧ sp (x :: xs) w2 kx k
section
variable {X : Cx} {E : XK} {k n : Nat} {g : GF} {x m : Str} {e o : Expr} {es : List Expr} {ga : GA} {go : GE} {p pos apos : Pos} {C : Addr} {fs : List Str}
end
end DL

namespace DL
open PySem PySem.Spec PyProof.Rows L2 RZ
def DEW (X : Cx) (W : WX) (e : Expr) (g : GE) : Prop := PE X e (fun σ H Q => upE X.K (WE W σ) g σ H Q)
def DSW (X : Cx) (W : WX) (st : Stmt) (g : GS) : Prop := PS X st (fun D σ H => upS X.K (WE W σ) g D σ H)
def DSsW (X : Cx) (W : WX) (st : List Stmt) (g : GS) : Prop := PSs X st (fun D σ H => upS X.K (WE W σ) g D σ H)
section
variable {X : Cx} {W : WX} {k n : Nat} {g : GF} {x m : Str} {e o : Expr} {es : List Expr} {ga : GA} {go ge : GE} {p pos apos : Pos} {C : Addr} {fs : List Str}
def tMethS (C : Addr) (m : Str) (sp : Sp) (E : L2.St → XK) (ta : TE) (t : TA) : TE := fun σ H Q => ta σ H fun x H1 => ∃ a dx fs, x = .ref a ∧ H1 a = some (.ins C dx fs) ∧ fs.lookup m = none ∧ t σ H1 fun vs H2 => sp (x :: vs) H2 Q (E σ)
end
def gTry (i j : Nat) (P : Addr → Prop) (body : GS) : GS := fun F ρ w => i < ρ.length ∧ body { F with ex := fun e w' => match e with
  | .own C => P C ∧ F.nx ((ρ.set j (some (.rf w'.M.length))).set i none) ⟨w'.M ++ [.exc C], w'.n⟩
  | _ => False } ρ w
end DL

namespace DL
open PySem PySem.Spec PyProof.Rows L2 RZ
structure XF where
  (bf taken noname toomuch norate noneleft endless badrow royal : Addr)
  nd : [taken, noname, toomuch].Nodup
  ne : ∀ a ∈ [taken, noname, toomuch], a ≠ endless ∧ a ≠ royal
  nr : endless ≠ royal
def XF.all (X : XF) : List (Str × Addr) := [("Taken", X.taken), ("NoName", X.noname), ("TooMuch", X.toomuch), ("Endless", X.endless), ("RoyalError", X.royal)]
def XF.addrs (X : XF) : List Addr := [X.taken, X.noname, X.toomuch, X.endless, X.royal]
def XF.raised (X : XF) : List Addr := [X.taken, X.noname, X.toomuch]
def isEV (X : XF) (D : Addr) : V → Option Bool
  | .ref C => if C ∈ X.addrs then some (decide (D = C ∨ C = X.royal)) else none
  | .ty n => if n = "ValueError" then some true else none
  | _ => none
def isEVs (X : XF) (A : Addr) : List D → Option Bool
  | [] => some false
  | .ob v :: r => match isEV X A v, isEVs X A r with
    | some a, some b => some (a || b)
    | _, _ => none
  | _ :: _ => none
def excK (X : XF) (i : Nat) (w : Wd) (f : Addr → Prop) : Prop := match w.M[i]? with
  | some (.exc A) => A ∈ X.raised ∧ f A
  | _ => False
def optK (o : Option Bool) (f : Bool → Prop) : Prop := match o with
  | some b => f b
  | none => False
def fIsE (X : XF) : FB := fun ds w k => match ds with
  | [.rf i, .ob v] => excK X i w fun A => optK (isEV X A v) fun b => k (.bl b) w
  | _ => False
def fIsET (X : XF) : FB := fun ds w k => match ds with
  | [.rf i, .tup cs] => excK X i w fun A => optK (isEVs X A cs) fun b => k (.bl b) w
  | _ => False
structure XFK (K : PySem.W.Frag) (mg : Str → Option Value) (X : XF) : Prop where
  at_ : ∀ p ∈ X.all, mg p.1 = some (.ref p.2) ∧ PySem.W.keepIn K (.ref p.2) = true ∧ PySem.W.hasDictIn K p.2 = true ∧ PySem.W.typeIn K (.ref p.2) = some (.type "type") ∧ PySem.W.subIn K (.ref p.2) (.type "BaseException") = some true
  exc : ∀ A ∈ X.raised, PySem.W.excIn K A [.type "ValueError", .type "Exception", .type "BaseException", .type "object"] "ValueError.__new__" = true ∧ ExcC K A ∧ PySem.W.subIn K (.ref A) (.type "ValueError") = some true
  sub : ∀ A ∈ X.raised, ∀ C ∈ X.addrs, PySem.W.subIn K (.ref A) (.ref C) = some (decide (A = C ∨ C = X.royal))
section
variable {K : PySem.W.Frag} {mg : Str → Option Value} {X : XF}
theorem XFK.addr (h : XFK K mg X) {C : Addr} (hC : C ∈ X.addrs) : ∃ x, mg x = some (.ref C) ∧ PySem.W.keepIn K (.ref C) = true ∧ PySem.W.hasDictIn K C = true ∧ PySem.W.typeIn K (.ref C) = some (.type "type") ∧ PySem.W.subIn K (.ref C) (.type "BaseException") = some true := by
  have : ∃ p ∈ X.all, p.2 = C := by
    have e : X.addrs = X.all.map (·.2) := rfl
    rw [e] at hC
    exact List.mem_map.mp hC
  obtain ⟨p, hp, rfl⟩ := this
  exact ⟨p.1, h.at_ p hp⟩
theorem XFK.one (h : XFK K mg X) {A : Addr} (hA : A ∈ X.raised) {v : V} {b : Bool} (e : isEV X A v = some b) : ∃ u, ClsV v u ∧ PySem.W.kitOne K (.ref A) u = some b := by
  unfold isEV at e
  split at e
  · rename_i C
    split at e
    · rename_i hC
      refine ⟨.ref C, .own C, ?_⟩
      obtain ⟨_, _, _, hd, ht, _⟩ := h.addr hC
      obtain ⟨cd, hc, _⟩ := PySem.W.any_some hd
      have hs := h.sub A hA C hC
      unfold PySem.W.kitOne PySem.W.kitCls
      by_cases hAC : A = C
      · subst hAC
        simp only [beq_self_eq_true, if_true]
        rw [← e]
        simp
      · rw [if_neg (by simpa using hAC)]
        have e2 : ((PySem.W.clsIn K C).isSome && PySem.W.typeIn K (.ref C) == some (.type "type")) = true := by rw [hc, ht] <;> rfl
        simp only [e2, if_true]
        rw [hs, e]
    · cases e
  · rename_i n
    split at e
    · rename_i hn
      subst hn
      cases e
      refine ⟨.type "ValueError", .ty _, ?_⟩
      unfold PySem.W.kitOne PySem.W.kitCls
      rw [if_neg (by simp)]
      have e2 : PySem.W.kitMeta "ValueError" = true := by decide +kernel
      simp only [e2, if_true]
      exact (h.exc A hA).2.2
    · cases e
  · cases e
theorem XFK.any (h : XFK K mg X) {G : Gh} {S : Hp} {A : Addr} (hA : A ∈ X.raised) : ∀ {vs : List V} {ds : List D} {b : Bool}, RepAll K G S vs ds → isEVs X A ds = some b → ∃ us, Paired ClsV vs us ∧ PySem.W.kitAny K (.ref A) us = some b := by
  intro vs ds b r e
  induction ds generalizing vs b with
  | nil =>
    cases r
    cases e
    exact ⟨[], .nil, rfl⟩
  | cons d ds ih =>
    cases r with
    | cons h1 r =>
      cases d with
      | ob v =>
        simp only [isEVs] at e
        cases e1 : isEV X A v with
        | none => rw [e1] at e; cases e
        | some a1 =>
          cases e2 : isEVs X A ds with
          | none => rw [e1, e2] at e; cases e
          | some b1 =>
            rw [e1, e2] at e
            cases e
            cases h1
            obtain ⟨u, c, hu⟩ := h.one hA e1
            obtain ⟨us, p, hus⟩ := ih r e2
            refine ⟨u :: us, .cons c p, ?_⟩
            unfold PySem.W.kitAny
            rw [hu]
            cases a1
            · exact hus
            · rfl
      | _ => simp [isEVs] at e
end
section
variable {X : Cx} {E : XK} {e : Expr} {es : List Expr} {ga : GA} {p pos : Pos} {F : XF}
theorem tk0 {X : Cx} : Takes X (fun _ _ _ _ => False) := fun _ _ ⟨_, _, _, _, _, _, _, _, _, _, _, _, _, _, _, _, h⟩ => h.elim
theorem Tk.no {X : Cx} : Tk X E0 := ⟨tk0⟩
theorem XFK.royal {K : PySem.W.Frag} {mg : Str → Option Value} (h : XFK K mg F) : ∀ B, B ∈ F.raised → PySem.W.exmOne K (.ref B) (.ref F.royal) = some true := by
  intro B hB
  obtain ⟨_, _, hd, ht, hb⟩ := h.at_ ("RoyalError", F.royal) (by simp [XF.all])
  refine PySem.W.exm_ref hb hd ht ?_
  rw [h.sub B hB F.royal (by simp [XF.addrs])]
  simp
theorem XFK.own {K : PySem.W.Frag} {mg : Str → Option Value} (h : XFK K mg F) {x : Str} {C : Addr} (hx : (x, C) ∈ F.all) : mg x = some (.ref C) := (h.at_ _ hx).1
theorem XFK.kp {K : PySem.W.Frag} {mg : Str → Option Value} (h : XFK K mg F) {x : Str} {C : Addr} (hx : (x, C) ∈ F.all) : PySem.W.keepIn K (.ref C) = true := (h.at_ _ hx).2.1
end
end DL

namespace DL
open PySem PySem.Spec PyProof.Rows L2 RZ

def LamOut (H H1 : Hp) (P c : Addr) (q : Str) (ps : Array Value) : Prop :=
  (H1 = H ∧ H c = some (LamX.CodeO c q)) ∨ ∃ a b : Value, H c = none ∧ TriplesOk (ps ++ #[a, b, .ref c]).toList ∧ H1 = upd (upd H P (.tbl (ps ++ #[a, b, .ref c]))) c (LamX.CodeO c q) ∧
    ∀ (p' : Pos) (cv : Value), codeAmong p' (ps ++ #[a, b, .ref c]).toList = some cv → codeAmong p' ps.toList = some cv ∨ cv = .ref c
structure LamIx (params : Arguments) (scope : Scope) (one : Str) : Prop where
  kind : scope.kind = .function
  co : scope.isCoroutine = false
  gen : scope.isGenerator = false
  cell : ∀ x ∈ scope.names, x.2 ≠ .cell
  free : ∀ x ∈ scope.names, x.2 ≠ .free
  loc : scope.names.lookup one = some .local
  bind : ∀ (q : Str) (body : Expr) (cl : List (Str × Addr)) (pm cv ctv v : Value), bindArgs (PySem.W.kla_fn "<lambda>" q params body scope cl pm cv ctv) ⟨[v], []⟩ = pure [(one, v)]
end DL

namespace DL
open PySem PySem.Spec PyProof.Rows L2 RZ

def keyI (i : Int) (d : D) : Int := match d with
  | .tup ys => match atI ys i with
    | some (.int n) => n
    | _ => 0
  | _ => 0
def HasKey (i : Int) (d : D) : Prop := ∃ ys n, d = .tup ys ∧ atI ys i = some (.int n)
def leI (i : Int) (a b : D) : Bool := decide (keyI i a ≤ keyI i b)
def newK (c : Bool) (ds : List D) (w : Wd) (k : KD) : Prop := match c with
  | false => k (.lst ds) w
  | true => k (.rf w.M.length) ⟨w.M ++ [.lst ds], w.n⟩
def gSortKeyG (c : Bool) (P : Addr) (q : Str) (i : Int) (ge : GE) : GE := fun ρ w kx k => ge ρ w kx fun d w1 => lstK d w1 fun xs => (∃ j : Nat, w1.M[j]? = some (.tbl P q)) ∧ (∀ x ∈ xs, HasKey i x) ∧ newK c (xs.mergeSort (leI i)) w1 k
abbrev gSortKey := gSortKeyG false
abbrev gSortKeyC := gSortKeyG true
section
variable {X : Cx} {E : XK}
end
end DL

namespace DL
open PySem PySem.Spec PyProof.Rows L2 RZ

def encD (d : D) : PyData := (toPD d).getD .none
def rSortDat (K : PySem.W.Frag) : List V → Hp → VK → Prop := fun xs H Q => ∃ (a : Addr) (ts : List (V × D)), xs = [.ref a] ∧ SqL K H a (ts.map Prod.fst) ∧ (∀ t ∈ ts, Dp K H t.1 (encD t.2)) ∧ PySem.W.AllAlike ((ts.map Prod.snd).map encD) ∧ PySem.W.Sortable ((ts.map Prod.snd).map encD) ∧
  (∀ t ∈ ts, (encD t.2).depth < 60) ∧ ∀ p, H p = none → Q (.ref p) (upd H p (.lst ((ts.mergeSort (PySem.W.dataLe false fun t => encD t.2)).map Prod.fst)))
def fSortDat : FB := fun ds w k => match ds with
  | [d] => lstK d w fun xs => (∀ x ∈ xs, ∃ p, toPD x = some p ∧ p.depth < 60) ∧ PySem.W.AllAlike (xs.map encD) ∧ PySem.W.Sortable (xs.map encD) ∧ k (.lst (xs.mergeSort (PySem.W.dataLe false encD))) w
  | _ => False
def fSortDatC : FB := fun ds w k => match ds with
  | [d] => lstK d w fun xs => (∀ x ∈ xs, ∃ p, toPD x = some p ∧ p.depth < 60) ∧ PySem.W.AllAlike (xs.map encD) ∧ PySem.W.Sortable (xs.map encD) ∧ k (.rf w.M.length) ⟨w.M ++ [.lst (xs.mergeSort (PySem.W.dataLe false encD))], w.n⟩
  | _ => False
section
variable {X : Cx} {E : XK} {e : Expr} {es : List Expr} {ga : GA} {p pos : Pos} (B : Blt X.mg) {kk : Nat} (hr : Room kk X.A)
include B hr
end

def rInC (K : PySem.W.Frag) (neg : Bool) : R2 := fun x y H Q => (∃ (a : Addr) (o : Option V), y = .ref a ∧ DGet H a x o ∧ Q (.bl (if neg then !o.isSome else o.isSome)) H) ∨ rIn K neg x y H Q
theorem op_notInC {X : Cx} (hu : X.A.units + 1 < cLine) : OpR X (compareOp .NotIn) (rInC X.K true) := by
  intro pins s σ H x y v u Q I rx ry h
  rcases h with ⟨a, o, rfl, g, q⟩ | h
  · obtain rfl : u = Value.ref a := ry
    exact d_notIn hu I g rx fun s3 I3 => ⟨.bl (!o.isSome), H, I3, rfl, q⟩
  · exact op_notIn_seq pins s σ H x y v u Q I rx ry h
def inL (x : D) (xs : List D) (f : Bool → Prop) : Prop := match x with
  | .str s => ∃ ss, allStr xs = some ss ∧ f (decide (s ∈ ss))
  | .int i => ∃ is, allInt xs = some is ∧ f (decide (i ∈ is))
  | _ => False
def inC (x y : D) (w : Wd) (f : Bool → Prop) : Prop := match y with
  | .lst xs => inL x xs f
  | .tup xs => inL x xs f
  | .rf i => match w.M[i]? with
    | some (.lst xs) => inL x xs f
    | some (.dk kvs) => keyK x fun q => f (valD kvs q).isSome
    | _ => False
  | _ => False
def inCD : F2 := fun x y w k => inC x y w fun b => k (.bl b) w
def notinCD : F2 := fun x y w k => inC x y w fun b => k (.bl (!b)) w
theorem inV_str (s : Str) (ss : List Str) : inV (.str s) (ss.map V.str) = decide (s ∈ ss) := by
  unfold inV
  rw [Bool.eq_iff_iff, List.any_eq_true, decide_eq_true_iff]
  constructor
  · rintro ⟨v, hv, e⟩
    obtain ⟨t, ht, rfl⟩ := List.mem_map.mp hv
    have : t = s := by simpa [eqV] using e
    rw [← this]
    exact ht
  · intro h
    exact ⟨.str s, List.mem_map.mpr ⟨s, h, rfl⟩, by simp [eqV]⟩
theorem inV_int (s : Int) (ss : List Int) : inV (.int s) (ss.map V.int) = decide (s ∈ ss) := by
  unfold inV
  rw [Bool.eq_iff_iff, List.any_eq_true, decide_eq_true_iff]
  constructor
  · rintro ⟨v, hv, e⟩
    obtain ⟨t, ht, rfl⟩ := List.mem_map.mp hv
    have : t = s := by simpa [eqV] using e
    rw [← this]
    exact ht
  · intro h
    exact ⟨.int s, List.mem_map.mpr ⟨s, h, rfl⟩, by simp [eqV]⟩
theorem flat_strs (ss : List Str) : (ss.map V.str).all flatV = true := by simp [flatV]
theorem flat_ints (ss : List Int) : (ss.map V.int).all flatV = true := by simp [flatV]
theorem inL_ok {K : PySem.W.Frag} {G : Gh} {S H : Hp} {w : Wd} {v : V} {x : D} {a : Addr} {ys : List V} {xs : List D} {neg : Bool} {k : KD} {Q : VK} (hr : HR K G S w H) (rx : Rep K G S v x) (hs : SqL K H a ys ∨ SqT K H a ys) (ry : RepAll K G S ys xs) (kl : KL K G S k Q)
    (h : inL x xs fun b => k (.bl (if neg then !b else b)) w) : rInC K neg v (.ref a) H Q := by
  unfold inL at h
  split at h
  · obtain ⟨ss, e, h⟩ := h
    cases rx
    have e2 := rep_strs' ry e
    subst e2
    refine .inr ⟨a, _, rfl, hs, rfl, flat_strs ss, ?_⟩
    rw [inV_str]
    cases neg <;> exact kl.here hr (.bl _) h
  · obtain ⟨ss, e, h⟩ := h
    cases rx
    have e2 := rep_ints ry e
    subst e2
    refine .inr ⟨a, _, rfl, hs, rfl, flat_ints ss, ?_⟩
    rw [inV_int]
    cases neg <;> exact kl.here hr (.bl _) h
  · exact h.elim
theorem inC_ok {K : PySem.W.Frag} {neg : Bool} {f : F2} (hf : ∀ x y w k, f x y w k → inC x y w fun b => k (.bl (if neg then !b else b)) w) : BinOk K (rInC K neg) f := by
  intro G S H w x y d e k Q hr rx ry kl h
  have h := hf _ _ _ _ h
  unfold inC at h
  split at h
  · cases ry with
    | lst e1 r1 => exact inL_ok hr rx (.inl (.inl (.inl (hr.same _ _ e1)))) r1 kl h
  · cases ry with
    | tup e1 r1 => exact inL_ok hr rx (.inr ((sqT_up hr.same e1))) r1 kl h
  · rename_i i
    cases ry with
    | rf ea =>
      rename_i a
      split at h
      · rename_i xs e2
        obtain ⟨_, ys, h1, h2⟩ := hr.cell _ _ _ ea e2
        exact inL_ok hr rx (.inl (.inl (.inl h1))) h2 kl h
      · rename_i kvs e2
        obtain ⟨_, ys, h1, h2⟩ := hr.cell _ _ _ ea e2
        obtain ⟨q, rfl, h4⟩ := keyK_rep rx h
        refine .inl ⟨a, _, rfl, DGet.k h1, ?_⟩
        have hv : (valV ys q).isSome = (valD kvs q).isSome := by
          cases z : valD kvs q with
          | none =>
            rw [fs_none h2 z]
            rfl
          | some d =>
            obtain ⟨v, z2, _⟩ := fs_some h2 z
            rw [z2]
            rfl
        rw [hv]
        cases neg <;> exact kl.here hr (.bl _) h4
      · exact h.elim
  · exact h.elim
section
variable {X : Cx} {E : XK} {a b : Expr} {ga gb : GE} {pos : Pos} {kk : Nat} (hr : Room kk X.A)
include hr
theorem dt_notinC (ha : DE X E a ga) (hb : DE X E b gb) (hm : behindInMarks .NotIn b = false := by rfl) : DT X E (.Compare a [.NotIn] [b] pos) (gB (gBin notinCD ga gb)) := dt_cmp (op_notInC (hu_of hr)) (inC_ok (neg := true) fun _ _ _ _ h => h) ha hb hm
end

def gDGet1 (go gi : GE) : GE := fun ρ w kx k => go ρ w kx fun x w1 => rfK x fun i => dkK i w1 fun _ => gi ρ w1 kx fun y w2 => keyK y fun q => dkK i w2 fun kvs => k ((valD kvs q).getD .non) w2
def gLock (g : GE) : GE := fun ρ w kx k => ∃ (i : Nat) (kvs : List (Key × D)), w.M[i]? = some (.dk kvs) ∧ ∀ o ks, g ρ ⟨w.M.set i (.lk o ks kvs), w.n⟩ kx fun d w1 => w1.M[i]? = some (.lk o ks kvs) ∧ k d ⟨w1.M.set i (.dk kvs), w1.n⟩
def keyOfD : Key → D
  | .inl i => .int i
  | .inr s => .str s
def itemsD (kvs : List (Key × D)) : List D := kvs.map fun p => .tup [keyOfD p.1, p.2]
def lkK (i : Nat) (w : Wd) (f : Obj → List (Key × V) → List (Key × D) → Prop) : Prop := match w.M[i]? with
  | some (.lk o ks kvs) => f o ks kvs
  | _ => False
def giItems (go : GE) : GI := fun ρ w kx k => go ρ w kx fun x w1 => rfK x fun i => lkK i w1 fun o ks kvs => k (itemsD kvs) (fun w => w.M[i]? = some (.lk o ks kvs)) w1
def giKeys (go : GE) : GI := fun ρ w kx k => go ρ w kx fun x w1 => rfK x fun i => lkK i w1 fun o ks kvs => k (kvs.map fun p => keyOfD p.1) (fun w => w.M[i]? = some (.lk o ks kvs)) w1
section
variable {X : Cx} {E : XK}
end
end DL

namespace DL
open PySem PySem.Spec PyProof.Rows L2 RZ

def gPairs : List (Str × GE) → Rho → Wd → KX → KA → Prop
  | [], _, w, _, k => k [] w
  | p :: r, ρ, w, kx, k => p.2 ρ w kx fun d w1 => gPairs r ρ w1 kx fun ds w2 => k (d :: ds) w2
def gDisp (ps : List (Str × GE)) : GE := fun ρ w kx k => gPairs ps ρ ⟨w.M ++ [.dk []], w.n⟩ kx fun ds w1 => w1.M[w.M.length]? = some (.dk []) ∧ k (.rf w.M.length) ⟨w1.M.set w.M.length (.dk ((ps.map fun p => (Sum.inr p.1 : Key)).zip ds)), w1.n⟩
def DPs (X : Cx) (E : XK) (pos : Pos) (ks : List (Option Expr)) (vs : List Expr) (ps : List (Str × GE)) : Prop := ∃ trs, PPs X pos ks vs trs ∧ ∀ σ H (Q : List (V × V) → Hp → Prop),
  (∃ G S ρ w kx k, HR X.K G S w H ∧ SR X.K G S σ ρ ∧ XL X.K G S kx E ∧ (∀ G' S' H' w' ds vs, Ext G S G' S' → HR X.K G' S' w' H' → RepAll X.K G' S' vs ds → k ds w' → vs.length = ps.length → Q ((ps.map fun p => V.str p.1).zip vs) H') ∧ gPairs ps ρ w kx k) → tPairs trs σ H Q
section
variable {X : Cx} {E : XK} {pos : Pos}
end

def fSortDC : FB := fun ds w k => match ds with
  | [.rf i] => dkK i w fun kvs => ∃ ks : List Str, kvs.map (·.1) = ks.map Sum.inr ∧ ks.length < 64 ∧ ∀ ys : List Str, ys.Perm ks → sortedS ys = true → k (.rf w.M.length) ⟨w.M ++ [.lst (ys.map D.str)], w.n⟩
  | _ => False
def toPDw (w : Wd) (d : D) : Option PyData := match d with
  | .rf i => match w.M[i]? with
    | some (.lst xs) => (toPDs xs).map .list
    | _ => none
  | d => toPD d
def neCD : F2 := fun x y w k => match x, y with
  | .str s, .str t => k (.bl (!decide (s = t))) w
  | x, y => match toPDw w x, toPD y with
    | some p, some q => SeqAt.shaped p = true ∧ SeqAt.shaped q = true ∧ k (.bl (!PyData.eqv p q)) w
    | _, _ => False
section
variable {X : Cx} {E : XK} {a b : Expr} {ga gb : GE} {pos : Pos} {kk : Nat} (hr : Room kk X.A)
include hr
end

def qLam (x : Str) : Str := (x ++ ".<locals>.") ++ "<lambda>"
structure FunC (K : PySem.W.Frag) (x qual : Str) (st : Stmt) (f : Addr) (fd : FuncData) (c : Addr) : Prop where
  ex : ∃ (oc : Value) (od : Option Addr) (kV doc pm : Value) (an : Option Addr) (ct : Value) (osl : Array (Option Value)),
    fd = PySem.W.fnOf x qual (defArgs st) (defBody st) (defScope st) .none kV doc pm an (.ref c) ct ∧ K.lookup f = some ⟨oc, od, .func fd, osl⟩ ∧ PySem.W.codeIn K (.ref c) qual = true
  kp : PySem.W.keepIn K (.ref f) = true
theorem FunC.fun {K : PySem.W.Frag} {x qual : Str} {st : Stmt} {f : Addr} {fd : FuncData} {c : Addr} (F : FunC K x qual st f fd c) : Fun K x qual st f fd := by
  obtain ⟨oc, od, kV, doc, pm, an, ct, osl, e1, e2, e3⟩ := F.ex
  exact ⟨⟨oc, od, kV, doc, pm, an, .ref c, ct, osl, e1, e2, e3⟩, F.kp⟩
structure DefAtT (K : PySem.W.Frag) (mg : Str → Option Value) (base : Heap) (x : Str) (st : Stmt) (ps : List Str) (P : Addr) : Prop where
  ex : ∃ f fd c, FunC K x x st f fd c ∧ mg x = some (.ref f) ∧ Binds K fd ps [] ∧ LamX.TabB base mg c P
theorem DefAtT.fn0 {P : Program} {w : World} {K : PySem.W.Frag} {mg : Str → Option Value} {base : Heap} {x : Str} {st : Stmt} {N ps : List Str} {Pt : Addr} {k : Nat} {g : GS} (T : DefAtT K mg base x st ps Pt) (S : FnScope N ps (defScope st))
    (hbody : ∀ (f c : Addr) (TB : LamX.TabB base mg c Pt) (A : Around) (outer : List Env) (s : Shared) (H : Hp) (E : XK), Room k (A.deeper (envOfC x (defScope st) s.heap.objs.size f (.ref c))) →
      DSs (cxOf CX0 P w K mg base N x (defScope st) f (.ref c) A outer s H E).nox E0 (defBody st) g) : FnAt P w K mg base CX0 (k + 1) x ps.length (sem0 N.length g) := by
  obtain ⟨f, fd, c, F, hm, hb, TB⟩ := T.ex
  refine ⟨f, fd, ps, ?_, hm, F.kp, hb⟩
  obtain ⟨oc, od, kV, doc, pm, an, ct, osl, rfl, lk, hcd⟩ := F.ex
  refine fn_of lk hcd S (fun vs H Q E h => ?_) fun A outer s H vs Q E hr hsp => ?_
  · obtain ⟨G, S, ds, w, kx, k, h1, h2, h3, _⟩ := h
    rw [h3.length, h1]
  · obtain ⟨G, S1, ds, w1, kx, k1, h1, h2, h3, h4, h5, h6⟩ := hsp
    refine ⟨_, (hbody f c TB A outer s H E hr).nox, G, S1, rho N.length ds, w1, { nx := fun _ w' => k1 .non w', rt := k1, ex := noX }, h2, sr_start h3, ⟨fun G' S' H' w' ρ' σ' x1 hr1 _ hk => h5 _ _ _ _ _ _ x1 hr1 .non hk, h5, ?_, ?_, xl_no⟩, h6⟩
    · intro _ _ _ _ _ _ _ _ _ z
      exact z.elim
    · intro _ _ _ _ _ _ _ _ _ z
      exact z.elim

def giEnumC (ga : GA) : GI := fun ρ w kx k => ga ρ w kx fun ds w1 => match ds with
  | [.lst xs] => k (enumD 0 xs) (fun _ => True) w1
  | [.rf i] => cellK i w1 fun xs => k (enumD 0 xs) (fun w => w.M[i]? = some (.lst xs)) w1
  | _ => False
end DL

namespace DL
open PySem PySem.Spec PyProof.Rows L2 RZ

def gPar3 (i j l : Nat) (ga : GA) : GS := fun F ρ w => ga ρ w F.ex fun ds w1 => match ds with
  | [d, e, f] => F.nx (((ρ.set i (some d)).set j (some e)).set l (some f)) w1
  | _ => False
theorem three_rep {K : PySem.W.Frag} {G : _} {S : _} {vs : List V} {a b c : D} (rp : RepAll K G S vs [a, b, c]) : ∃ v u t, vs = [v, u, t] ∧ Rep K G S v a ∧ Rep K G S u b ∧ Rep K G S t c := by
  cases rp with
  | cons p q =>
    cases q with
    | cons p' q' =>
      cases q' with
      | cons p'' q'' =>
        cases q''
        exact ⟨_, _, _, rfl, p, p', p''⟩
section
variable {X : Cx} {E : XK} {pos : Pos}
theorem ds_par3 {i j l : Nat} {x y z : Str} {a b c : Expr} {ga : GA} {px py pz pt : Pos} {kt k2 pt2} (hc : X.calm = true) (hN : X.N.Nodup) (hi : X.N[i]? = some x) (hj : X.N[j]? = some y) (hl : X.N[l]? = some z) (hij : i ≠ j) (hil : i ≠ l) (hjl : j ≠ l)
    (hx : X.env.scope.names.lookup x = some .local) (hy : X.env.scope.names.lookup y = some .local) (hz : X.env.scope.names.lookup z = some .local) (ha : DA X E [a, b, c] ga)
    (hw : swappedStores [.Tuple [.Name x px, .Name y py, .Name z pz] kt pt] (.Tuple [a, b, c] k2 pt2) X.env = pure (some [x, y, z]))
    (hs : swapsWithSole [.Tuple [.Name x px, .Name y py, .Name z pz] kt pt] (.Tuple [a, b, c] k2 pt2) pos.line X.env = pure false := by rfl) :
    DS X E (.Assign [.Tuple [.Name x px, .Name y py, .Name z pz] kt pt] (.Tuple [a, b, c] k2 pt2) pos) (gPar3 i j l ga) := ps_imp (ps_par3 hc hN hi hj hl hij hil hjl hx hy hz ha hw hs) (by
  rintro D σ H ⟨G, S, ρ, w, F, hr, sr, el, h⟩
  refine ⟨G, S, ρ, w, F.ex, _, hr, sr, el.ex, fun G1 S1 H1 w1 ds vs x1 hr1 rp h1 => ?_, h⟩
  split at h1
  · obtain ⟨v, u, t, rfl, r1, r2, r3⟩ := three_rep rp
    exact ⟨v, u, t, rfl, el.nx _ _ _ _ _ _ x1 hr1 ((((sr.mono x1).set r1 i).set r2 j).set r3 l) h1⟩
  · exact h1.elim)
end
end DL

namespace DL
open PySem PySem.Calls PySem.Spec PyProof.Rows PyProof.V L2 RZ

mutual
theorem reads_there {h : Heap} : ∀ {v : Value} {d : PyData} {as : List Addr}, Reads h v d as → ∀ a ∈ as, ∃ o, h.get? a = some o
  | _, _, _, .none, a, ha => nomatch ha
  | _, _, _, .bool _, a, ha => nomatch ha
  | _, _, _, .int _ _, a, ha => nomatch ha
  | _, _, _, .str _ _, a, ha => nomatch ha
  | _, _, _, .list e _ _ r, a, ha => by
    rcases List.mem_cons.mp ha with rfl | ha
    · exact ⟨_, e⟩
    · exact readsAll_there r a ha
  | _, _, _, .tuple _ _ _ r, a, ha => readsAll_there r a ha
  | _, _, _, .dict e _ _ r1 r2, a, ha => by
    rcases List.mem_append.mp ha with ha | ha
    · rcases List.mem_cons.mp ha with rfl | ha
      · exact ⟨_, e⟩
      · exact readsAll_there r1 a ha
    · exact readsAll_there r2 a ha
theorem readsAll_there {h : Heap} : ∀ {vs : List Value} {ds : List PyData} {as : List Addr}, ReadsAll h vs ds as → ∀ a ∈ as, ∃ o, h.get? a = some o
  | _, _, _, .nil, a, ha => nomatch ha
  | _, _, _, .cons r1 r2, a, ha => by
    rcases List.mem_append.mp ha with ha | ha
    · exact reads_there r1 a ha
    · exact readsAll_there r2 a ha
end
theorem sqL_up {K : PySem.W.Frag} {H H' : Hp} (e : ∀ b o, H b = some o → H' b = some o) {a : Addr} {xs : List V} (h : SqL K H a xs) : SqL K H' a xs := by
  unfold SqL at h ⊢
  rcases h with (h | ⟨o, h⟩) | h
  · exact .inl (.inl (e _ _ h))
  · exact .inl (.inr ⟨o, e _ _ h⟩)
  · exact .inr h
mutual
theorem dp_up {K : PySem.W.Frag} {H H' : Hp} (e : ∀ b o, H b = some o → H' b = some o) : ∀ {v : V} {d : PyData}, Dp K H v d → Dp K H' v d
  | _, _, .non => .non
  | _, _, .bl b => .bl b
  | _, _, .int i => .int i
  | _, _, .str x => .str x
  | _, _, .lst h1 h2 => .lst (sqL_up e h1) (dpAll_up e h2)
  | _, _, .tup h1 h2 => .tup (sqT_up e h1) (dpAll_up e h2)
theorem dpAll_up {K : PySem.W.Frag} {H H' : Hp} (e : ∀ b o, H b = some o → H' b = some o) : ∀ {vs : List V} {ds : List PyData}, DpAll K H vs ds → DpAll K H' vs ds
  | _, _, .nil => .nil
  | _, _, .cons h1 h2 => .cons (dp_up e h1) (dpAll_up e h2)
end
def itemsV (p d : Addr) : HO := .ext fun h => h.IsItemsView p d
section
variable {X : Cx}
def rItemsK : V → List V → Hp → VK → Prop := fun x xs H Q => ∃ (a : Addr) (kvs : List (Key × V)), x = .ref a ∧ xs = [] ∧ H a = some (.dK kvs) ∧ ∀ p, H p = none → Q (.ref p) (upd H p (itemsV p a))
def keyE : Key → PyData
  | .inl i => .int i
  | .inr s => .str s
def pairE (t : (Key × V) × D) : PyData := .tuple [keyE t.1.1, encD t.2]
def rSortItK (K : PySem.W.Frag) : List V → Hp → VK → Prop := fun xs H Q => ∃ (p a : Addr) (ts : List ((Key × V) × D)), xs = [.ref p] ∧ H p = some (itemsV p a) ∧ H a = some (.dK (ts.map Prod.fst)) ∧ (∀ t ∈ ts, Dp K H t.1.2 (encD t.2)) ∧ PySem.W.AllAlike (ts.map pairE) ∧ PySem.W.Sortable (ts.map pairE) ∧
  (∀ t ∈ ts, (encD t.2).depth < 60) ∧
  ∀ (as : List Addr) (l : Addr), as.length = ts.length → as.Nodup → (∀ b ∈ as, H b = none) → H l = none → l ∉ as → Q (.ref l) (upd (LiI.putT H as (ts.map Prod.fst)) l (.lst (((as.zip ts).mergeSort (PySem.W.dataLe false fun z => pairE z.2)).map fun z => V.ref z.1)))
end
def gSortItems (go : GE) : GE := fun ρ w kx k => go ρ w kx fun x w1 => rfK x fun i => dkK i w1 fun kvs => (∀ y ∈ kvs, ∃ p, toPD y.2 = some p ∧ p.depth < 60) ∧ PySem.W.AllAlike ((itemsD kvs).map encD) ∧ PySem.W.Sortable ((itemsD kvs).map encD) ∧ k (.lst ((itemsD kvs).mergeSort (PySem.W.dataLe false encD))) w1
def pairD (t : (Key × V) × D) : D := .tup [keyOfD t.1.1, t.2]
section
variable {X : Cx} {E : XK} {e : Expr} {ge : GE} {p apos cpos pos : Pos} {kk : Nat}
end
section
variable {X : Cx} {E : XK} {e : Expr} {ge : GE} {p apos cpos pos : Pos} {kk : Nat}
theorem pe_or {t1 t2 : TE} (h1 : PE X e t1) (h2 : PE X e t2) : PE X e (fun σ H Q => t1 σ H Q ∨ t2 σ H Q) := ⟨fun pins s σ H Q I hw => hw.elim (h1.run pins s σ H Q I) (h2.run pins s σ H Q I)⟩
def gLockO (g : GE) : GE := fun ρ w kx k => gLock g ρ w kx k ∨ g ρ w kx k
def gMid (g : GE) : GE := fun ρ w kx k => g ρ w kx fun x w1 => k x w1 ∨ rfK x fun i => dkK i w1 fun kvs => ∀ o ks, k x ⟨w1.M.set i (.lk o ks kvs), w1.n⟩
end
def fMaxL : FB := fun ds w k => match ds with
  | [.lst xs] => match allInt xs with
    | some ns => 0 < ns.length ∧ ∀ m, m ∈ ns → (∀ y, y ∈ ns → y ≤ m) → k (.int m) w
    | none => False
  | _ => False
def gLockS (g : GS) : GS := fun F ρ w => ∃ (i : Nat) (kvs : List (Key × D)), w.M[i]? = some (.dk kvs) ∧ ∀ o ks, g { nx := fun ρ' w1 => w1.M[i]? = some (.lk o ks kvs) ∧ F.nx ρ' ⟨w1.M.set i (.dk kvs), w1.n⟩, rt := fun _ _ => False, ex := F.ex } ρ ⟨w.M.set i (.lk o ks kvs), w.n⟩
def gLockSO (g : GS) : GS := fun F ρ w => gLockS g F ρ w ∨ g F ρ w
end DL

namespace DL
open PySem PySem.Spec PyProof.Rows L2 RZ

end DL

namespace DL
open PySem PySem.Spec PyProof.Rows L2 RZ

def inDD : F2 := fun x y w k => ∃ p ps, toPD x = some p ∧ toPDw w y = some (.list ps) ∧ SeqAt.shaped p = true ∧ SeqAt.shaped (.list ps) = true ∧ k (.bl (ps.any fun z => PyData.eqv z p)) w
def notinDD : F2 := fun x y w k => inDD x y w fun d w1 => ∃ b, d = .bl b ∧ k (.bl (!b)) w1
section
variable {X : Cx} {E : XK} {a b : Expr} {ga gb : GE} {pos : Pos} {kk : Nat} (hr : Room kk X.A)
include hr
end
end DL

namespace L2
open PySem PySem.Spec PyProof.Rows
section
variable {P : Program} {w : World} {A : Around} {E : Value → Shared → Prop} {s : Shared}
theorem type_call_by {T nw ini : String} {args : List Value} {Q Q1 : Value → Shared → Prop} (ft : TypeCalled T nw ini) (hct : checkTypeCall T ⟨args, []⟩ = pure ())
    (mk : codeAny (model P w) A.in1 (.call (.builtin nw) ⟨.type T :: args, []⟩) (wants Q1 E) s)
    (fill : ∀ x s1, Q1 x s1 → s1.TypeIs x T ∧ codeAny (model P w) A.in1 (.call (.builtin ini) ⟨x :: args, []⟩) (wants (fun r s2 => r = .none ∧ Q x s2) E) s1) :
    wpAny (model P w) A (call (.type T) args) Q E s := by
  obtain ⟨_, _, m1⟩ := ft.mro
  have m2 := ft.made; have m3 := ft.sub; have m4 := ft.notType; have m5 := ft.canCreate
  refine wpAny_call (codeAny_of_tree (show wpAny _ _ (callAny (.type T) _) _ _ _ from wpAny_pure ⟨Code.quiet_builtin _ (by decide +kernel), codeAny_builtin F.entry_type_call ?_⟩))
  rw [Around.under_plain (weight_type_call_type T args []) rfl]
  repeat (any_goals (first | assumption | wp_step))
  refine codeAny_mono mk fun res s1 g => ?_
  match res, g with
  | .error e, g => exact g
  | .ok (.ret x), g =>
    obtain ⟨ty, code⟩ := fill x s1 g
    have b1 := ft.init.lookup; have b2 := ft.init.bind x
    repeat (any_goals (first | assumption | wp_step))
    refine codeAny_mono code fun res2 s2 g2 => ?_
    match res2, g2 with
    | .error e, g2 => exact g2
    | .ok (.ret _), ⟨rfl, g3⟩ => repeat (any_goals (first | assumption | wp_step))
abbrev newSetO (w : World) : Obj := { cls := .type "set", dict := none, data := .set #[] 0 (.fresh 0 0 (!w.params.followText "set-order")) }
end
def rSetLI (w : World) (K : PySem.W.Frag) : List V → Hp → VK → Prop := fun xs H Q => ∃ (p : Addr) (ns : List Int), xs = [.ref p] ∧ SqL K H p (ns.map V.int) ∧ ns.length ≤ 1000 ∧ ∀ (q : Addr) (c : Nat), H q = none → c ≤ ns.length → Q (.ref q) (upd H q (SetO w q (fun j => decide (j ∈ ns)) c))
end L2

namespace L2
open PySem PySem.Spec PyProof.Rows
section
variable {X : Cx} {pins : List (Addr × Obj)} {σ : St} {H : Hp} {s : Shared} {a : Addr} {A : Around} {E : Value → Shared → Prop}
theorem IsTup.two {h : Heap} {t : Addr} {x y : Value} (p : IsTup h t #[x, y]) : h.IsTuple t #[x, y] := p
end
def tDUpd (K : PySem.W.Frag) (td tx : TE) : TE := fun σ H Q => td σ H fun x H1 => ∃ a, x = .ref a ∧ IsD H1 a ∧ tx σ H1 fun y H2 => ∃ (kvs : List (Key × V)) (l : Addr) (ps : List (Addr × Key × V)), H2 a = some (.dK kvs) ∧ y = .ref l ∧ SqL K H2 l (ps.map fun p => V.ref p.1) ∧
  (∀ p ∈ ps, SqT K H2 p.1 [kV p.2.1, p.2.2]) ∧ kvs.length + ps.length ≤ sizeLine ∧ Q .non (upd H2 a (.dK (mergeK kvs (ps.map (·.2)))))
section
variable {X : Cx} {o e : Expr} {td tx : TE} {apos cpos : Pos}
end
end L2

namespace DL
open PySem PySem.Spec PyProof.Rows L2 RZ
def gSortSet (ga : GA) : GE := fun ρ w kx k => ga ρ w kx fun ds w1 => ∃ ns : List Int, ds = [.lst (ns.map D.int)] ∧ ns.length < 64 ∧ ∀ ms : List Int, ms.Pairwise (· < ·) → (∀ j, j ∈ ms ↔ j ∈ ns) → k (.lst (ms.map D.int)) w1
def fMax2 : FB := fun ds w k => match ds with
  | [.int i, .int j] => k (.int (if j > i then j else i)) w
  | _ => False
theorem ok_max2 {K : PySem.W.Frag} : CallOk K (fun xs H Q => ∃ i j, xs = [.int i, .int j] ∧ Q (.int (if j > i then j else i)) H) fMax2 := by
  intro G S H w xs ds k Q hr rx kl h
  unfold fMax2 at h
  split at h
  · obtain ⟨v, u, rfl, r1, r2⟩ := two_rep rx
    cases r1
    cases r2
    exact ⟨_, _, rfl, kl.here hr (.int _) h⟩
  · exact h.elim
theorem de_max2 {X : Cx} {E : XK} {e : Expr} {es : List Expr} {ga : GA} {p pos : Pos} (B : Blt X.mg) (hc : X.calm = true) (hg : Gl X "max") (ha : DA X E (e :: es) ga) (he : starEach (e :: es) X.env = (false, eval e X.env) :: starEach es X.env := by rfl) (hpl : (backTo pos (starEach es X.env)).any (·.1) = false := by rfl) : DE X E (.Call (.Name "max" p) (e :: es) [] pos) (gCB fMax2 ga) := de_cb (call_max2 hc) ok_max2 hg B.max_ (by decide +kernel) ha (he := he) (hpl := hpl)
theorem fMax2_i {i j : Int} {w : Wd} {k : KD} : fMax2 [.int i, .int j] w k = k (.int (if j > i then j else i)) w := rfl
def fSortDI : FB := fun ds w k => match ds with
  | [.rf i] => dkK i w fun kvs => ∃ ks : List Int, kvs.map (·.1) = ks.map Sum.inl ∧ ks.length < 64 ∧ ∀ ys : List Int, ys.Perm ks → ys.Pairwise (· ≤ ·) → k (.lst (ys.map D.int)) w
  | _ => False
def kD : Key → D
  | .inl i => .int i
  | .inr x => .str x
def mergeD (kvs more : List (Key × D)) : List (Key × D) := more.foldl (fun acc kv => putD acc kv.1 kv.2) kvs
def gDUpd (go ga : GE) : GE := fun ρ w kx k => go ρ w kx fun x w1 => rfK x fun i => dkK i w1 fun _ => ga ρ w1 kx fun y w2 => dkK i w2 fun kvs => ∃ ps : List (Key × D), y = .lst (ps.map fun p => .tup [kD p.1, p.2]) ∧ kvs.length + ps.length ≤ sizeLine ∧
  k .non ⟨w2.M.set i (.dk (mergeD kvs ps)), w2.n⟩
end DL

namespace DL
open PySem PySem.Spec PyProof.Rows L2 RZ

def fDictD : FB := fun ds w k => match ds with
  | [.rf i] => dkK i w fun kvs => k (.rf w.M.length) ⟨w.M ++ [.dk kvs], w.n⟩
  | _ => False
def fDictP : FB := fun ds w k => match ds with
  | [.lst xs] => ∃ ps : List (Key × D), xs = ps.map (fun p => .tup [kD p.1, p.2]) ∧ k (.rf w.M.length) ⟨w.M ++ [.dk (mergeD [] ps)], w.n⟩
  | _ => False
def fListC : FB := fun ds w k => match ds with
  | [d] => match seqD d w with
    | some xs => k (.rf w.M.length) ⟨w.M ++ [.lst xs], w.n⟩
    | none => False
  | _ => False
theorem ok_listC {K : PySem.W.Frag} : CallOk K (fun xs H Q => ∃ p ys, xs = [.ref p] ∧ (SqL K H p ys ∨ SqT K H p ys) ∧ ∀ l, H l = none → Q (.ref l) (upd H l (.lst ys))) fListC := by
  intro G S H w xs ds k Q hr rx kl h
  unfold fListC at h
  split at h
  · split at h
    · rename_i bs e
      obtain ⟨v, rfl, r⟩ := one_rep rx
      obtain ⟨a, ys, rfl, hs, r2⟩ := rep_seq hr r e
      exact ⟨_, ys, rfl, hs, kl.newCL hr r2 h⟩
    · exact h.elim
  · exact h.elim
section
variable {X : Cx} {E : XK} {e : Expr} {es : List Expr} {ga : GA} {p pos : Pos}
theorem de_listC (B : Blt X.mg) (hg : Gl X "list") (ha : DA X E (e :: es) ga) (he : starEach (e :: es) X.env = (false, eval e X.env) :: starEach es X.env := by rfl) (hpl : (backTo pos (starEach es X.env)).any (·.1) = false := by rfl) : DE X E (.Call (.Name "list" p) (e :: es) [] pos) (gCB fListC ga) := de_ct call_list_of ok_listC hg B.list_ (by decide +kernel) ha (he := he) (hpl := hpl)
end
end DL

namespace DL
open PySem PySem.Spec PyProof.Rows L2 RZ

def mCountB : FM := fun x ds w k => match x, ds with
  | .lst xs, [.bl b] => ∃ bs : List Bool, xs = bs.map D.bl ∧ k (.int ((bs.count b : Nat) : Int)) w
  | _, _ => False
def mIndexB : FM := fun x ds w k => match x, ds with
  | .lst xs, [.bl b] => ∃ (bs : List Bool) (j : Nat), xs = bs.map D.bl ∧ bs[j]? = some b ∧ (∀ m < j, bs[m]? ≠ some b) ∧ k (.int (j : Int)) w
  | _, _ => False
end DL

namespace DL
open PySem PySem.Spec PyProof.Rows L2 RZ

def dkR (i : Nat) (w : Wd) (f : List (Key × D) → Prop) : Prop := match w.M[i]? with
  | some (.dk xs) => f xs
  | some (.lk _ _ xs) => f xs
  | _ => False
section
variable {K : PySem.W.Frag} {G : Gh} {S H : Hp} {w : Wd}
end
def gDGetR (go gi : GE) : GE := fun ρ w kx k => go ρ w kx fun x w1 => gi ρ w1 kx fun y w2 => rfK x fun i => keyK y fun q => dkR i w2 fun kvs => someK (valD kvs q) fun d => k d w2
section
variable {X : Cx} {E : XK} {o i e : Expr} {go gi gd : GE} {pos apos cpos : Pos}
end
def mCountS : FM := fun x ds w k => match x, ds with
  | .lst xs, [.str b] => ∃ bs : List Str, xs = bs.map D.str ∧ k (.int ((bs.count b : Nat) : Int)) w
  | _, _ => False
end DL

namespace DL
open PySem PySem.Spec PyProof.Rows L2 RZ

def inRK (x : D) (ds : List D) (w : Wd) (k : Bool → Wd → Prop) : Prop := match x, ds with
  | .int i, [.int lo, .int hi] => k (decide (lo ≤ i ∧ i < hi)) w
  | _, _ => False
def gInR (ge : GE) (ga : GA) : GE := fun ρ w kx k => ge ρ w kx fun x w1 => ga ρ w1 kx fun ds w2 => inRK x ds w2 fun b w3 => k (.bl b) w3
section
variable {X : Cx} {E : XK} {e a : Expr} {es : List Expr} {ge : GE} {ga : GA} {p pos pos2 : Pos}
end
end DL

namespace DL
open PySem PySem.Spec PyProof.Rows L2 RZ
def tLenSetF (K : PySem.W.Frag) (ta : TE) : TE := fun σ H Q => ta σ H fun x H1 => ∃ (l : Addr) (ns : List Int), x = .ref l ∧ SqL K H1 l (ns.map V.int) ∧ ns.length ≤ 4000 ∧ Q (.int ((PyProof.Rows.firstMet (fun i => ns.getD i 0) ns.length).length : Nat)) H1
def gLenSet (ga : GA) : GE := fun ρ w kx k => ga ρ w kx fun ds w1 => ∃ ns : List Int, ds = [.lst (ns.map D.int)] ∧ ns.length ≤ 4000 ∧ ∀ c : Nat, (c = ns.length → ns.Nodup) → k (.int (c : Int)) w1
end DL

namespace DL
open PySem PySem.Spec PyProof.Rows L2 RZ
def TupG (K : PySem.W.Frag) (mg : Str → Option Value) (x : Str) (ns : List Int) : Prop := ∃ a, mg x = some (.ref a) ∧ ∀ H : Hp, SqT K H a (ns.map V.int)
theorem tupG_mk {K : PySem.W.Frag} {mg : Str → Option Value} {x : Str} {ns : List Int} {a : Addr} (hm : mg x = some (.ref a)) (h1 : PySem.W.nsIn K mainGlobals x = some (some (.ref a))) (h2 : He.tupB K x (ns.map He.Dv.int) = true) : TupG K mg x ns := by
  refine ⟨a, hm, fun H => ?_⟩
  have h3 := He.tupB_ok h2 H
  have e : He.ga K x = a := by
    unfold He.ga
    rw [h1]
  rw [e, List.map_map] at h3
  exact h3
theorem rep_intsN {K : PySem.W.Frag} {G : Gh} {S : Hp} : ∀ ns : List Int, RepAll K G S (ns.map V.int) (ns.map D.int)
  | [] => .nil
  | n :: ns => .cons (.int n) (rep_intsN ns)
theorem de_gtup {X : Cx} {E : XK} {x : Str} {ns : List Int} {ds : List D} {pos : Pos} (hg : Gl X x) (hm : TupG X.K X.mg x ns) (hds : ds = ns.map D.int := by rfl) (hd : (x == ("__debug__" : Str)) = false := by decide) : DE X E (.Name x pos) (gC (.tup ds)) := by
  subst hds
  obtain ⟨a, hm, hs⟩ := hm
  refine pe_imp (pe_glob (v := .ref a) hg hm rfl hd) ?_
  rintro σ H Q ⟨G, S, ρ, w, kx, k, hr, sr, xl, kl, h⟩
  exact kl _ _ _ _ _ _ (Ext.refl _ _) hr (.tup (hs S) (rep_intsN ns)) h
def mPop : FM := fun x ds w k => match x, ds with
  | .rf i, [] => cellK i w fun xs => someK xs[xs.length - 1]? fun d => k d ⟨w.M.set i (.lst xs.dropLast), w.n⟩
  | _, _ => False
def dropD {κ : Type} [DecidableEq κ] (kvs : List (κ × D)) (k : κ) : List (κ × D) := kvs.filter fun kv => decide (kv.1 ≠ k)
def gDPop1 (go gi : GE) : GE := fun ρ w kx k => go ρ w kx fun x w1 => rfK x fun i => dkK i w1 fun _ => gi ρ w1 kx fun y w2 => keyK y fun q => dkK i w2 fun kvs => someK (valD kvs q) fun d => k d ⟨w2.M.set i (.dk (dropD kvs q)), w2.n⟩
def gDPop2 (go gi gd : GE) : GE := fun ρ w kx k => go ρ w kx fun x w1 => rfK x fun i => dkK i w1 fun _ => gi ρ w1 kx fun y w2 => gd ρ w2 kx fun z w3 => keyK y fun q => dkK i w3 fun kvs => match valD kvs q with
  | some d => k d ⟨w3.M.set i (.dk (dropD kvs q)), w3.n⟩
  | none => k z w3
section
variable {X : Cx} {E : XK} {o i e : Expr} {go gi gd : GE} {pos apos cpos : Pos}
end
end DL

namespace DL
open PySem PySem.Spec PyProof.Rows L2 RZ
def gSortItemsC (go : GE) : GE := fun ρ w kx k => go ρ w kx fun x w1 => rfK x fun i => dkK i w1 fun kvs => (∀ y ∈ kvs, ∃ p, toPD y.2 = some p ∧ p.depth < 60) ∧ PySem.W.AllAlike ((itemsD kvs).map encD) ∧ PySem.W.Sortable ((itemsD kvs).map encD) ∧ k (.rf w1.M.length) ⟨w1.M ++ [.lst ((itemsD kvs).mergeSort (PySem.W.dataLe false encD))], w1.n⟩
section
variable {X : Cx} {E : XK} {e : Expr} {ge : GE} {p apos cpos pos : Pos} {kk : Nat}
end
def eqDD : F2 := fun x y w k => match x, y with
  | .rf i, .rf j => ∃ kvs : List (Key × D), w.M[i]? = some (.dk kvs) ∧ w.M[j]? = some (.dk kvs) ∧ (kvs.map (·.1)).Nodup ∧ (∀ p ∈ kvs, ∃ n, p.2 = .int n) ∧ k (.bl true) w
  | _, _ => False
def rEqDD : R2 := fun x y H Q => ∃ a b kvs, x = .ref a ∧ y = .ref b ∧ H a = some (.dK kvs) ∧ H b = some (.dK kvs) ∧ (kvs.map (·.1)).Nodup ∧ (∀ p ∈ kvs, flatB p.2 = true) ∧ Q (.bl true) H
section
variable {X : Cx} {E : XK} {a b : Expr} {ga gb : GE} {pos : Pos} {kk : Nat} (hr : Room kk X.A)
include hr
end
end DL

namespace DL
open PySem PySem.Spec PyProof.Rows L2 RZ
def giRev (ga : GA) : GI := fun ρ w kx k => ga ρ w kx fun ds w1 => match ds with
  | [.lst xs] => k xs.reverse (fun _ => True) w1
  | _ => False
section
variable {X : Cx} {E : XK} {tg : Expr}
end
def gDisp1 (gk gv : GE) : GE := fun ρ w kx k => gk ρ ⟨w.M ++ [.dk []], w.n⟩ kx fun d w1 => keyK d fun q => gv ρ w1 kx fun v w2 => w2.M[w.M.length]? = some (.dk []) ∧ k (.rf w.M.length) ⟨w2.M.set w.M.length (.dk [(q, v)]), w2.n⟩
def mExtendC : FM := fun x ds w k => match x, ds with
  | .rf i, [.rf j] => cellK i w fun xs => cellK j w fun ys => xs.length + ys.length ≤ sizeLine ∧ k .non ⟨w.M.set i (.lst (xs ++ ys)), w.n⟩
  | _, _ => False
end DL

namespace DL
open PySem PySem.Spec PyProof.Rows L2 RZ
theorem rep_strsF {K : PySem.W.Frag} {G : Gh} {S : Hp} : ∀ {ss : List Str} {vs : List V}, RepAll K G S vs (ss.map D.str) → vs = ss.map V.str
  | [], _, .nil => rfl
  | s :: ss, _, .cons h r => by
    cases h
    rw [rep_strsF r]
    rfl
def gJoin (sep : Str) (ge : GE) : GE := fun ρ w kx k => ge ρ w kx fun d w1 => ∃ ss : List Str, (d = .lst (ss.map D.str) ∨ d = .tup (ss.map D.str)) ∧ (ss.map (·.length)).sum + ss.length * sep.length ≤ 16777216 ∧ k (.str (Txt.join sep ss)) w1
theorem de_join {X : Cx} {E : XK} {sep : Str} {e : Expr} {ge : GE} {j : Nat} {p2 apos pos : Pos} (he : DE X E e ge) (hs : starEach [e] X.env = [(false, eval e X.env)] := by rfl) (hbase : attributeBase (.Constant (.str sep) j p2) "join" X.env (eval (.Constant (.str sep) j p2) X.env) = eval (.Constant (.str sep) j p2) X.env := by rfl) (hline : (apos.endLine == pos.line) = true := by rfl) :
    DE X E (.Call (.Attribute (.Constant (.str sep) j p2) "join" apos) [e] [] pos) (gJoin sep ge) := by
  refine pe_imp (pe_join pe_str he hs hbase hline) ?_
  rintro σ H Q ⟨G, S, ρ, w, kx, k, hr, sr, xl, kl, h⟩
  refine ⟨⟨_, rfl⟩, G, S, ρ, w, kx, _, hr, sr, xl, fun G1 S1 H1 w1 d v x1 hr1 rp hq => ?_, h⟩
  obtain ⟨ss, hd, hl, hx⟩ := hq
  rcases hd with rfl | rfl
  · cases rp with
    | @lst t vs _ ht hcs =>
      refine ⟨sep, t, ss, rfl, rfl, .inl ?_, hl, kl _ _ _ _ _ _ x1 hr1 (.str _) hx⟩
      rw [← rep_strsF hcs]
      exact .inl (.inl (hr1.same _ _ ht))
  · cases rp with
    | @tup t vs _ ht hcs =>
      refine ⟨sep, t, ss, rfl, rfl, .inr ?_, hl, kl _ _ _ _ _ _ x1 hr1 (.str _) hx⟩
      rw [← rep_strsF hcs]
      exact sqT_up hr1.same ht
def gRevA (g : GE) : GE := fun ρ w kx k => g ρ w kx fun x w1 => match x with
  | .lst xs => k (.lst xs.reverse) w1
  | .rf i => cellK i w1 fun xs => k (.lst xs.reverse) w1
  | _ => False
def gFrzO (g : GE) : GE := fun ρ w kx k => (g ρ w kx fun x w1 => match x with | .rf i => (match w1.M[i]? with | some (.lst ds) => k (.lst ds) ⟨w1.M.set i .dead, w1.n⟩ | _ => False) | _ => False) ∨ g ρ w kx k
end DL
namespace DL
open PySem PySem.Spec PyProof.Rows L2 RZ
section
variable {X : Cx} {E : XK} {e : Expr} {g : GE}
theorem de_revA {k : Nat} {p1 p2 p3 pos : Pos} (he : DE X E e g) : DE X E (.Subscript e (.Slice none none (some (.UnaryOp .USub (.Constant (.int 1) k p1) p2)) p3) pos) (gRevA g) := by
  refine pe_imp (pe_revL he) ?_
  rintro σ H Q ⟨G, S, ρ, w, kx, k, hr, sr, xl, kl, h⟩
  refine ⟨G, S, ρ, w, kx, _, hr, sr, xl, fun G1 S1 H1 w1 d x x1 hr1 rp h1 => ?_, h⟩
  cases rp with
  | lst e r => exact ⟨_, _, rfl, .inl (.inl (hr1.same _ _ e)), (kl.mono x1).newL hr1 (RepAll.rev r) h1⟩
  | @rf a i ea =>
    unfold cellK at h1
    simp only at h1
    split at h1
    · rename_i ds e2
      obtain ⟨_, xs, g1, r1⟩ := hr1.cell i a _ ea e2
      exact ⟨_, _, rfl, .inl (.inl g1), (kl.mono x1).newL hr1 (RepAll.rev r1) h1⟩
    · exact h1.elim
  | _ => exact h1.elim
theorem de_frzO (he : DE X E e g) : DE X E e (gFrzO g) := pe_imp (pe_or (de_frz he) he) (by
  rintro σ H Q ⟨G, S, ρ, w, kx, k, hr, sr, xl, kl, h | h⟩
  · exact .inl ⟨G, S, ρ, w, kx, k, hr, sr, xl, kl, h⟩
  · exact .inr ⟨G, S, ρ, w, kx, k, hr, sr, xl, kl, h⟩)
end
end DL

namespace DL
open PySem PySem.Spec PyProof.Rows L2 RZ
structure RoyK (K : PySem.W.Frag) (mg : Str → Option Value) (C : Addr) (mc : Value) : Prop where
  mgC : mg "RoyalError" = some (.ref C)
  ga : PySem.W.specialIn K (.ref C) "__getattribute__" = some (some (.builtin "type.__getattribute__"))
  ty : PySem.W.typeIn K (.ref C) = some mc
  rd : PySem.W.readsIn K C mc = true
  at_ : PySem.W.findCls K (.ref C) mc "__init__" = some (.val (.builtin "ValueError.__init__"))
def spE (K : PySem.W.Frag) : Sp := fun vs H Q _ => ∃ (a C t : Addr) (ss : List Str), vs = [.ref a, .ref t] ∧ OexC K C ∧ PySem.W.findIn K (.ref C) "names" = some none ∧ H a = some (exo a C none) ∧ SqT K H t (ss.map V.str) ∧ (ss.map (·.length)).sum + ss.length * 1 ≤ 10000 ∧
  ∀ dx, H dx = none → dx ≠ a → Q .non (upd (upd H dx (exd dx [("names", .ref t)])) a (exo a C (some dx)))
end DL

namespace L2
open PySem PySem.Spec PyProof.Rows
def rIsiF (K : PySem.W.Frag) : List V → Hp → VK → Prop := fun xs H Q => ∃ (a D dx : Addr) (fs : List (Str × V)) (c : V) (u : Value) (b : Bool), xs = [.ref a, c] ∧ ExcC K D ∧ H a = some (ExcAt a (.ref D) (some dx)) ∧ H dx = some (.xd fs) ∧ ClsV c u ∧ PySem.W.kitOne K (.ref D) u = some b ∧ Q (.bl b) H
def rIsiTF (K : PySem.W.Frag) : List V → Hp → VK → Prop := fun xs H Q => ∃ (a D dx tp : Addr) (fs : List (Str × V)) (cs : List V) (us : List Value) (b : Bool), xs = [.ref a, .ref tp] ∧ ExcC K D ∧ H a = some (ExcAt a (.ref D) (some dx)) ∧ H dx = some (.xd fs) ∧ SqT K H tp cs ∧ Paired ClsV cs us ∧ PySem.W.kitAny K (.ref D) us = some b ∧ Q (.bl b) H
def tXH (K : PySem.W.Frag) (f : Str) (te : TE) : TE := fun σ H Q => te σ H fun x H1 => ∃ (a C dd : Addr) (fs : List (Str × V)) (v : V), x = .ref a ∧ XfC K C ∧ PySem.W.findIn K (.ref C) f = some none ∧ H1 a = some (ExcAt a (.ref C) (some dd)) ∧ H1 dd = some (.xd fs) ∧ fs.lookup f = some v ∧ Q v H1
section
variable {X : Cx} {pins : List (Addr × Obj)} {σ : St} {H : Hp} {s : Shared}
end
end L2

namespace DL
open PySem PySem.Spec PyProof.Rows L2 RZ
structure EndK (P : Program) (w : World) (K : PySem.W.Frag) (mg : Str → Option Value) (base : Heap) (C : Addr) : Prop where
  oex : OexC K C
  no : PySem.W.findIn K (.ref C) "names" = some none
  at_ : mg "Endless" = some (.ref C)
  ex : ∃ fI fd, PySem.W.findIn K (.ref C) "__init__" = some (some (.ref fI)) ∧ PySem.W.typeIn K (.ref fI) = some (.type "function") ∧ FnOk P w K mg base CX0 1 fI fd ["self", "names"] (spE K) ∧ Binds K fd ["self", "names"] []
def gRaiseF (C : Addr) (ge : GE) : GS := fun F ρ w => ge ρ w F.ex fun d w1 => ∃ ss : List Str, d = .tup (ss.map D.str) ∧ (ss.map (·.length)).sum + ss.length * 1 ≤ 10000 ∧ F.ex (.flds C [("names", d)]) w1
def tryX (i j : Nat) (P : Addr → Prop) (F : DEnds) (ρ : Rho) : KX := fun e w' => match e with
  | .own C => P C ∧ F.nx ((ρ.set j (some (.rf w'.M.length))).set i none) ⟨w'.M ++ [.exc C], w'.n⟩
  | .flds C fs => P C ∧ F.nx ((ρ.set j (some (.rf w'.M.length))).set i none) ⟨w'.M ++ [.exf C fs], w'.n⟩
def gTryF (i j : Nat) (P : Addr → Prop) (body : GS) : GS := fun F ρ w => i < ρ.length ∧ body { F with ex := tryX i j P F ρ } ρ w
def exfK (i : Nat) (w : Wd) (f : Addr → List (Str × D) → Prop) : Prop := match w.M[i]? with
  | some (.exf C fs) => f C fs
  | _ => False
def gXFld (P : Addr → Prop) (n : Str) (go : GE) : GE := fun ρ w kx k => go ρ w kx fun x w1 => rfK x fun i => exfK i w1 fun C fs => P C ∧ someK (fs.lookup n) fun d => k d w1
end DL

namespace DL
open PySem PySem.Spec PyProof.Rows L2 RZ
structure EndF (K : PySem.W.Frag) (X : XF) : Prop where
  exc : ExcC K X.endless
  ve : PySem.W.subIn K (.ref X.endless) (.type "ValueError") = some true
  sub : ∀ C ∈ X.addrs, PySem.W.subIn K (.ref X.endless) (.ref C) = some (decide (X.endless = C ∨ C = X.royal))
  xf : XfC K X.endless
  no : PySem.W.findIn K (.ref X.endless) "names" = some none
def excK2 (X : XF) (i : Nat) (w : Wd) (f : Addr → Prop) : Prop := match w.M[i]? with
  | some (.exc A) => A ∈ X.raised ∧ f A
  | some (.exf A _) => A = X.endless ∧ f A
  | _ => False
def fIsE2 (X : XF) : FB := fun ds w k => match ds with
  | [.rf i, .ob v] => excK2 X i w fun A => optK (isEV X A v) fun b => k (.bl b) w
  | _ => False
def fIsET2 (X : XF) : FB := fun ds w k => match ds with
  | [.rf i, .tup cs] => excK2 X i w fun A => optK (isEVs X A cs) fun b => k (.bl b) w
  | _ => False
section
variable {K : PySem.W.Frag} {mg : Str → Option Value} {X : XF}
theorem EndF.one (g : EndF K X) (h : XFK K mg X) {v : V} {b : Bool} (e : isEV X X.endless v = some b) : ∃ u, ClsV v u ∧ PySem.W.kitOne K (.ref X.endless) u = some b := by
  unfold isEV at e
  split at e
  · rename_i C
    split at e
    · rename_i hC
      refine ⟨.ref C, .own C, ?_⟩
      obtain ⟨_, _, _, hd, ht, _⟩ := h.addr hC
      obtain ⟨cd, hc, _⟩ := PySem.W.any_some hd
      have hs := g.sub C hC
      unfold PySem.W.kitOne PySem.W.kitCls
      by_cases hAC : X.endless = C
      · have e1 : ((Value.ref X.endless == Value.ref C) = true) := by rw [hAC]; exact beq_self_eq_true _
        rw [if_pos e1, ← e, decide_eq_true (.inl hAC)]
      · rw [if_neg (by simpa using hAC)]
        have e2 : ((PySem.W.clsIn K C).isSome && PySem.W.typeIn K (.ref C) == some (.type "type")) = true := by rw [hc, ht] <;> rfl
        simp only [e2, if_true]
        rw [hs, e]
    · cases e
  · rename_i n
    split at e
    · rename_i hn
      subst hn
      cases e
      refine ⟨.type "ValueError", .ty _, ?_⟩
      unfold PySem.W.kitOne PySem.W.kitCls
      rw [if_neg (by simp)]
      have e2 : PySem.W.kitMeta "ValueError" = true := by decide +kernel
      simp only [e2, if_true]
      exact g.ve
    · cases e
  · cases e
theorem EndF.any (g : EndF K X) (h : XFK K mg X) {G : Gh} {S : Hp} : ∀ {ds : List D} {vs : List V} {b : Bool}, RepAll K G S vs ds → isEVs X X.endless ds = some b → ∃ us, Paired ClsV vs us ∧ PySem.W.kitAny K (.ref X.endless) us = some b
  | [], _, _, .nil, e => by
    cases e
    exact ⟨[], .nil, rfl⟩
  | .ob v :: ds, _, _, .cons h1 r, e => by
    simp only [isEVs] at e
    cases e1 : isEV X X.endless v with
    | none => rw [e1] at e; cases e
    | some a1 =>
      cases e2 : isEVs X X.endless ds with
      | none => rw [e1, e2] at e; cases e
      | some b1 =>
        rw [e1, e2] at e
        cases e
        cases h1
        obtain ⟨u, c, hu⟩ := g.one h e1
        obtain ⟨us, p, hus⟩ := g.any h r e2
        refine ⟨u :: us, .cons c p, ?_⟩
        unfold PySem.W.kitAny
        rw [hu]
        cases a1
        · exact hus
        · rfl
  | .non :: _, _, _, _, e => by simp [isEVs] at e
  | .bl _ :: _, _, _, _, e => by simp [isEVs] at e
  | .int _ :: _, _, _, _, e => by simp [isEVs] at e
  | .str _ :: _, _, _, _, e => by simp [isEVs] at e
  | .lst _ :: _, _, _, _, e => by simp [isEVs] at e
  | .tup _ :: _, _, _, _, e => by simp [isEVs] at e
  | .rf _ :: _, _, _, _, e => by simp [isEVs] at e
  | .st :: _, _, _, _, e => by simp [isEVs] at e
  | .scr _ :: _, _, _, _, e => by simp [isEVs] at e
end
section
variable {X : Cx} {E : XK} {e : Expr} {es : List Expr} {ga : GA} {p pos : Pos} {F : XF}
end
end DL

namespace L2
open PySem PySem.Spec PyProof.Rows
def tVal (t : St → Hp → XK → Prop) : TE := fun σ H Q => t σ H fun cls d H' => ∀ a, H' a = none → Q (.ref a) (upd H' a (ExcAt a cls d))
end L2
namespace DL
open PySem PySem.Spec PyProof.Rows L2 RZ
def gExc (C : Addr) (ge : GE) : GE := fun ρ w kx k => ge ρ w kx fun _ w1 => k (.rf w1.M.length) ⟨w1.M ++ [.exc C], w1.n⟩
def gExcF (C : Addr) (n : Str) (ok : D → Prop) (ge : GE) : GE := fun ρ w kx k => ge ρ w kx fun d w1 => ok d ∧ k (.rf w1.M.length) ⟨w1.M ++ [.exf C [(n, d)]], w1.n⟩
def namesOk (d : D) : Prop := ∃ ss : List Str, d = .tup (ss.map D.str) ∧ (ss.map (·.length)).sum + ss.length * 1 ≤ 10000
def rowOk (d : D) : Prop := ∃ z : Int, d = .int z ∧ z.natAbs.log2 < 1920 ∧ (Str.ofString (toString z)).length ≤ 1000
def spB (K : PySem.W.Frag) : Sp := fun vs H Q _ => ∃ (a C : Addr) (z : Int), vs = [.ref a, .int z] ∧ OexC K C ∧ PySem.W.findIn K (.ref C) "row" = some none ∧ H a = some (exo a C none) ∧ z.natAbs.log2 < 1920 ∧ (Str.ofString (toString z)).length ≤ 1000 ∧
  ∀ dx, H dx = none → dx ≠ a → Q .non (upd (upd H dx (exd dx [("row", .int z)])) a (exo a C (some dx)))
structure BadK (P : Program) (w : World) (K : PySem.W.Frag) (mg : Str → Option Value) (base : Heap) (C : Addr) : Prop where
  oex : OexC K C
  no : PySem.W.findIn K (.ref C) "row" = some none
  at_ : mg "BadRow" = some (.ref C)
  ex : ∃ fI fd, PySem.W.findIn K (.ref C) "__init__" = some (some (.ref fI)) ∧ PySem.W.typeIn K (.ref fI) = some (.type "function") ∧ FnOk P w K mg base CX0 1 fI fd ["self", "row"] (spB K) ∧ Binds K fd ["self", "row"] []
structure ExV (K : PySem.W.Frag) (X : XF) (C : Addr) : Prop where
  exc : ExcC K C
  ve : PySem.W.subIn K (.ref C) (.type "ValueError") = some true
  sub : ∀ D ∈ X.addrs, PySem.W.subIn K (.ref C) (.ref D) = some (decide (C = D ∨ D = X.royal))
def excK3 (X : XF) (i : Nat) (w : Wd) (f : Addr → Prop) : Prop := match w.M[i]? with
  | some (.exc A) => (A ∈ X.raised ∨ A = X.royal) ∧ f A
  | some (.exf A _) => (A = X.endless ∨ A = X.badrow) ∧ f A
  | _ => False
def fIsE3 (X : XF) : FB := fun ds w k => match ds with
  | [.rf i, .ob v] => excK3 X i w fun A => optK (isEV X A v) fun b => k (.bl b) w
  | _ => False
structure ExVs (K : PySem.W.Frag) (X : XF) : Prop where
  roy : ExV K X X.royal
  endl : ExV K X X.endless
  bad : ExV K X X.badrow
section
variable {K : PySem.W.Frag} {mg : Str → Option Value} {X : XF}
theorem ExV.one {C : Addr} (g : ExV K X C) (h : XFK K mg X) {v : V} {b : Bool} (e : isEV X C v = some b) : ∃ u, ClsV v u ∧ PySem.W.kitOne K (.ref C) u = some b := by
  unfold isEV at e
  split at e
  · rename_i D
    split at e
    · rename_i hD
      refine ⟨.ref D, .own D, ?_⟩
      obtain ⟨_, _, _, hd, ht, _⟩ := h.addr hD
      obtain ⟨cd, hc, _⟩ := PySem.W.any_some hd
      have hs := g.sub D hD
      unfold PySem.W.kitOne PySem.W.kitCls
      by_cases hAC : C = D
      · have e1 : ((Value.ref C == Value.ref D) = true) := by rw [hAC]; exact beq_self_eq_true _
        rw [if_pos e1, ← e, decide_eq_true (.inl hAC)]
      · rw [if_neg (by simpa using hAC)]
        have e2 : ((PySem.W.clsIn K D).isSome && PySem.W.typeIn K (.ref D) == some (.type "type")) = true := by rw [hc, ht] <;> rfl
        simp only [e2, if_true]
        rw [hs, e]
    · cases e
  · rename_i n
    split at e
    · rename_i hn
      subst hn
      cases e
      refine ⟨.type "ValueError", .ty _, ?_⟩
      unfold PySem.W.kitOne PySem.W.kitCls
      rw [if_neg (by simp)]
      have e2 : PySem.W.kitMeta "ValueError" = true := by decide +kernel
      simp only [e2, if_true]
      exact g.ve
    · cases e
  · cases e
theorem XFK.exv (h : XFK K mg X) {A : Addr} (hA : A ∈ X.raised) : ExV K X A := ⟨(h.exc A hA).2.1, (h.exc A hA).2.2, h.sub A hA⟩
theorem ExVs.exc (g : ExVs K X) (h : XFK K mg X) {A : Addr} (hA : A ∈ X.raised ∨ A = X.royal) : ExV K X A := by
  rcases hA with hA | rfl
  · exact h.exv hA
  · exact g.roy
theorem ExVs.exf (g : ExVs K X) {A : Addr} (hA : A = X.endless ∨ A = X.badrow) : ExV K X A := by
  rcases hA with rfl | rfl
  · exact g.endl
  · exact g.bad
end
end DL

namespace DL
open PySem PySem.Spec PyProof.Rows L2 RZ
structure ExE (P : Program) (w : World) (K : PySem.W.Frag) (mg : Str → Option Value) (base : Heap) (X : XF) : Prop where
  ee : EndK P w K mg base X.endless
  ef : EndF K X
structure ExA (P : Program) (w : World) (K : PySem.W.Frag) (mg : Str → Option Value) (base : Heap) (X : XF) : Prop where
  ev : ExVs K X
  ee : EndK P w K mg base X.endless
  be : BadK P w K mg base X.badrow
  rx : XCls K mg "RoyalError" X.royal
  fe : XfC K X.endless
  fb : XfC K X.badrow
theorem ExE.royal {P : Program} {w : World} {K : PySem.W.Frag} {mg : Str → Option Value} {base : Heap} {X : XF} (g : ExE P w K mg base X) (h : XFK K mg X) : ∀ B, B ∈ X.raised ∨ B = X.endless → PySem.W.exmOne K (.ref B) (.ref X.royal) = some true := by
  intro B hB
  rcases hB with hB | rfl
  · exact h.royal B hB
  · obtain ⟨_, _, hd, ht, hb⟩ := h.at_ ("RoyalError", X.royal) (by simp [XF.all])
    refine PySem.W.exm_ref hb hd ht ?_
    rw [g.ef.sub X.royal (by simp [XF.addrs])]
    simp
end DL

namespace L2
open PySem PySem.Spec PyProof.Rows
def rIsiTS (K : PySem.W.Frag) : List V → Hp → VK → Prop := fun xs H Q => ∃ (x : V) (tp : Addr) (cs : List V) (t : Value) (us : List Value) (b : Bool), xs = [x, .ref tp] ∧ SqT K H tp cs ∧ Paired ClsV cs us ∧ TyX K H x t ∧ PySem.W.kitAny K t us = some b ∧ Q (.bl b) H
theorem call_isiTS {X : Cx} : CallR X (.builtin "isinstance") (rIsiTS X.K) := by
  intro pins s σ H xs us Q I r h
  obtain ⟨x, tp, cs, t, ws, b, rfl, hT, k, ty, e, q⟩ := h
  obtain ⟨u1, u2, rfl, r1, r2⟩ := vals2 r
  cases (show u2 = Value.ref tp from r2)
  obtain ⟨P, Z, p, hx⟩ := kit_of I r1 ty
  obtain ⟨its, rv, ⟨⟨oc, od2, dt, sl⟩, h1, h2, n, h3⟩, _⟩ := I.tuple hT
  have e3 := ClsV.all k rv
  subst e3
  simp only at h2 h3
  subst h2 h3
  exact PySem.W.kia_tup Z I.kIn p h1 e hx fun tk => ⟨.bl b, H, I.tok tk, rfl, q⟩
end L2
namespace DL
open PySem PySem.Spec PyProof.Rows L2 RZ
def isLT : String → Bool := fun t => t == "list" || t == "tuple"
def fIsLT : FB := fun ds w k => match ds with
  | [x, .tup [.ob (.ty "list"), .ob (.ty "tuple")]] => match tyD x w with
    | some t => if t = "list" ∨ t = "tuple" then k (.bl true) w else if t = "NoneType" ∨ t = "bool" ∨ t = "int" ∨ t = "str" ∨ t = "dict" then k (.bl false) w else False
    | none => False
  | _ => False
theorem kitLT {K : PySem.W.Frag} : PySem.W.kitAny K (.type "list") [.type "list", .type "tuple"] = some true ∧ PySem.W.kitAny K (.type "tuple") [.type "list", .type "tuple"] = some true ∧ PySem.W.kitAny K (.type "NoneType") [.type "list", .type "tuple"] = some false ∧
    PySem.W.kitAny K (.type "bool") [.type "list", .type "tuple"] = some false ∧ PySem.W.kitAny K (.type "int") [.type "list", .type "tuple"] = some false ∧ PySem.W.kitAny K (.type "str") [.type "list", .type "tuple"] = some false ∧ PySem.W.kitAny K (.type "dict") [.type "list", .type "tuple"] = some false := by
  have one : ∀ {t n : String} {b : Bool}, kitB t n = some b → PySem.W.kitOne K (.type t) (.type n) = some b := fun h => kit_ty h
  have two : ∀ {t : String} {a b : Bool}, kitB t "list" = some a → kitB t "tuple" = some b → PySem.W.kitAny K (.type t) [.type "list", .type "tuple"] = some (a || b) := fun h1 h2 => by
    unfold PySem.W.kitAny
    rw [one h1]
    rename_i a b
    cases a
    · show PySem.W.kitAny K _ [_] = _
      unfold PySem.W.kitAny
      rw [one h2]
      cases b <;> rfl
    · rfl
  exact ⟨two (a := true) (b := false) (by decide +kernel) (by decide +kernel), two (a := false) (b := true) (by decide +kernel) (by decide +kernel), two (a := false) (b := false) (by decide +kernel) (by decide +kernel), two (a := false) (b := false) (by decide +kernel) (by decide +kernel), two (a := false) (b := false) (by decide +kernel) (by decide +kernel), two (a := false) (b := false) (by decide +kernel) (by decide +kernel), two (a := false) (b := false) (by decide +kernel) (by decide +kernel)⟩
theorem ok_isLT {K : PySem.W.Frag} : CallOk K (rIsiTS K) fIsLT := by
  intro G S H w xs ds k Q hr rx kl h
  unfold fIsLT at h
  split at h
  · rename_i x
    split at h
    · rename_i t e1
      obtain ⟨v, u, rfl, r1, r2⟩ := two_rep rx
      cases r2 with
      | tup ht hcs =>
        have hty := rep_ty hr r1 e1
        obtain ⟨c1, c2, rfl, q1, q2⟩ := two_rep hcs
        cases q1
        cases q2
        obtain ⟨k1, k2, k3, k4, k5, k6, k7⟩ := kitLT (K := K)
        have hP : Paired ClsV [V.ty "list", V.ty "tuple"] [.type "list", .type "tuple"] := .cons (.ty _) (.cons (.ty _) .nil)
        split at h
        · rename_i hl
          rcases hl with rfl | rfl
          · exact ⟨_, _, _, _, _, true, rfl, sqT_up hr.same ht, hP, hty, k1, kl.here hr (.bl _) h⟩
          · exact ⟨_, _, _, _, _, true, rfl, sqT_up hr.same ht, hP, hty, k2, kl.here hr (.bl _) h⟩
        · split at h
          · rename_i hl
            rcases hl with rfl | rfl | rfl | rfl | rfl
            · exact ⟨_, _, _, _, _, false, rfl, sqT_up hr.same ht, hP, hty, k3, kl.here hr (.bl _) h⟩
            · exact ⟨_, _, _, _, _, false, rfl, sqT_up hr.same ht, hP, hty, k4, kl.here hr (.bl _) h⟩
            · exact ⟨_, _, _, _, _, false, rfl, sqT_up hr.same ht, hP, hty, k5, kl.here hr (.bl _) h⟩
            · exact ⟨_, _, _, _, _, false, rfl, sqT_up hr.same ht, hP, hty, k6, kl.here hr (.bl _) h⟩
            · exact ⟨_, _, _, _, _, false, rfl, sqT_up hr.same ht, hP, hty, k7, kl.here hr (.bl _) h⟩
          · exact h.elim
    · exact h.elim
  · exact h.elim
section
variable {X : Cx} {E : XK} {e : Expr} {es : List Expr} {ga : GA} {p pos : Pos}
theorem de_isLT (B : Blt X.mg) (hg : Gl X "isinstance") (ha : DA X E (e :: es) ga) (he : starEach (e :: es) X.env = (false, eval e X.env) :: starEach es X.env := by rfl) (hpl : (backTo pos (starEach es X.env)).any (·.1) = false := by rfl) : DE X E (.Call (.Name "isinstance" p) (e :: es) [] pos) (gCB fIsLT ga) := de_cb call_isiTS ok_isLT hg B.isi_ (by decide +kernel) ha (he := he) (hpl := hpl)
end
end DL

namespace DL
open PySem PySem.Spec PyProof.Rows L2 RZ
def fListD : FB := fun ds w k => match ds with
  | [.rf i] => dkK i w fun kvs => k (.lst (kvs.map fun p => keyOfD p.1)) w
  | _ => False
def fDictQ : FB := fun ds w k => match ds with
  | [d] => ∃ ps : List (Key × D), (d = .lst (ps.map fun p => .tup [kD p.1, p.2]) ∨ ∃ i, d = .rf i ∧ w.M[i]? = some (.lst (ps.map fun p => .tup [kD p.1, p.2]))) ∧ k (.rf w.M.length) ⟨w.M ++ [.dk (mergeD [] ps)], w.n⟩
  | _ => False
section
variable {X : Cx} {E : XK} {e : Expr} {es : List Expr} {ga : GA} {p pos : Pos}
def mClear : FM := fun x ds w k => match x, ds with
  | .rf i, [] => cellK i w fun _ => k .non ⟨w.M.set i (.lst []), w.n⟩
  | _, _ => False
end
end DL

namespace DL
open PySem PySem.Spec PyProof.Rows L2 RZ
structure FnOkG (P : Program) (w : World) (K : PySem.W.Frag) (mg : Str → Option Value) (base : Heap) (CX : CXT) (k : Nat) (f : Addr) (fd : FuncData) (ps : List Str) (sp : Sp) : Prop where
  size : ∀ vs H Q E, sp vs H Q E → vs.length = ps.length
  go : ∀ (A : Around) (outer : List Env) (s : Shared) (H : Hp) (args : Args) (us : List Value) (vs : List V) (Q : VK) (E : XK), A.guards = some [] → Room k A → Env0 P w K mg base A outer s H →
    BindsTo s fd args (ps.zip us) → Vals vs us → sp vs H Q E → codeAny (model P w) A (.call (.ref f) args) (CR CX outer P w H s Q E) s
section
variable {P : Program} {w : World} {K : PySem.W.Frag} {mg : Str → Option Value} {base : Heap} {CX : CXT} {j k : Nat} {f : Addr} {fd : FuncData} {ps : List Str} {sp sp' : Sp}
theorem FnOkG.up (h : FnOkG P w K mg base CX j f fd ps sp) (hjk : j ≤ k) : FnOkG P w K mg base CX k f fd ps sp :=
  ⟨h.size, fun A outer s H args us vs Q E q room => h.go A outer s H args us vs Q E q (room.mono hjk)⟩
theorem FnOkG.weak (h : FnOkG P w K mg base CX k f fd ps sp) (i : ∀ vs H Q E, sp' vs H Q E → sp vs H Q E) : FnOkG P w K mg base CX k f fd ps sp' :=
  ⟨fun vs H Q E q => h.size vs H Q E (i _ _ _ _ q), fun A outer s H args us vs Q E q room env b r z => h.go A outer s H args us vs Q E q room env b r (i _ _ _ _ z)⟩
end
section
variable {CX : CXT} {P : Program} {w : World} {K : PySem.W.Frag} {mg : Str → Option Value} {base : Heap} {k : Nat}
theorem defG {f : Addr} {nm qn : Str} {pars : Arguments} {body : List Stmt} {sc : Scope} {v1 v2 v3 v4 v5 v6 v7 : Value} {a1 a2 : Option Addr} {slots : Array (Option Value)} {N ps : List Str} {sp : Sp}
    (at_ : K.lookup f = some ⟨v7, a2, .func (PySem.W.fnOf nm qn pars body sc v1 v2 v3 v4 a1 v5 v6), slots⟩) (code : PySem.W.codeIn K v5 qn = true) (S : FnScope N ps sc) (size : ∀ vs H Q E, sp vs H Q E → vs.length = ps.length)
    (inner : ∀ (A : Around) (outer : List Env) (s : Shared) (H : Hp) (vs : List V) (Q : VK) (E : XK), A.guards = some [] → Room k (A.deeper (envOfC qn sc s.heap.objs.size f v5)) → sp vs H Q E →
      ∃ t, PSs (cxOf CX P w K mg base N qn sc f v5 A outer s H E) body t ∧ t { nx := fun _ H' => Q .non H', rt := Q } (start N vs) H) : FnOkG P w K mg base CX (k + 1) f (PySem.W.fnOf nm qn pars body sc v1 v2 v3 v4 a1 v5 v6) ps sp := by
  constructor
  · exact size
  intro A outer s H args us vs Q E quiet room env bound vals pre
  have long := size _ _ _ _ pre
  have inK : K.In s.heap := env.mod.kin.keeps fun b o z => (env.bs b o z).1
  have free : s.heap.NoLimit := env.mod.nolimit.keeps fun b o z => (env.bs b o z).1
  have kinds : ∀ q ∈ ps.zip us, sc.names.lookup q.1 = some .local ∨ (sc.names.lookup q.1 = some .cell ∧ ((cellsFrom (s.heap.objs.size + 1) sc.names []).lookup q.1).isSome = true) := by
    rintro ⟨m, u⟩ hq
    refine (S.par m (List.of_mem_zip hq).1).imp id fun c => ⟨c, ?_⟩
    exact PySem.W.cellsFrom_some _ _ _ (.inl c)
  refine codeAny_call_function room.depth (inK _ _ at_) rfl S.co S.gen rfl (PySem.W.codeRec_of inK code) (bound _ _ _ _ (wpAny_newFunctionEnv_cells S.kind kinds ?_))
  rintro env2 rfl s2 entered
  refine ⟨free.keeps entered.toInCall.keep, codeAny_func ?_⟩
  obtain ⟨t, walked, holds⟩ := inner A outer s H vs Q E quiet (room.deeper _) pre
  have I : Inv (cxOf CX P w K mg base N qn sc f v5 A outer s H E) [] (start N vs) H s2 := inv_start S room.hd env long vals entered
  have done : ∀ {σ' : L2.St} {H' : Hp} {v : V} {u : Value} {s' : Shared}, Inv (cxOf CX P w K mg base N qn sc f v5 A outer s H E) [] σ' H' s' → RelV v u → Q v H' → CE outer P w H s Q u s' :=
    fun {_ H' v _ _} J e q => ⟨v, H', J.os, J.bare, J.base, J.hok, e, q⟩
  refine wpAny_mono (walked.run [] s2 (start N vs) H _ I holds) ?_ fun _ _ z => z
  intro fl s' z
  cases fl with
  | next =>
    obtain ⟨_, _, J, q⟩ := z
    exact done (v := .non) (u := .none) J rfl q
  | ret u =>
    obtain ⟨_, _, _, J, e, q⟩ := z
    exact done J e q
  | brk => exact z.choose_spec.choose_spec.2.elim
  | cont => exact z.choose_spec.choose_spec.2.elim
structure FnAtG (P : Program) (w : World) (K : PySem.W.Frag) (mg : Str → Option Value) (base : Heap) (CX : CXT) (k : Nat) (x : Str) (n : Nat) (g : GF) : Prop where
  ex : ∃ f fd ps, FnOkG P w K mg base CX k f fd ps (upF n K g) ∧ mg x = some (.ref f) ∧ PySem.W.keepIn K (.ref f) = true ∧ Binds K fd ps []
theorem FnAtG.imp {x : Str} {n : Nat} {g g' : GF} (h : FnAtG P w K mg base CX k x n g) (i : ∀ ds w kx k, g' ds w kx k → g ds w kx k) : FnAtG P w K mg base CX k x n g' := by
  obtain ⟨f, fd, ps, h1, h2⟩ := h.ex
  exact ⟨f, fd, ps, h1.weak (up_imp i), h2⟩
theorem FnAtG.trunc {x : Str} {n : Nat} {g : GF} (h : FnAtG P w K mg base CX k x n g) : FnAtG P w K mg base CX k x n (gTr g) := by
  obtain ⟨f, fd, ps, h1, h2⟩ := h.ex
  exact ⟨f, fd, ps, h1.weak tr_up, h2⟩
theorem fun_fn0G {x : Str} {st : Stmt} {f : Addr} {fd : FuncData} {N ps : List Str} {g : GS} (F : Fun K x x st f fd) (S : FnScope N ps (defScope st))
    (walk : ∀ (f : Addr) (cdv : Value) (A : Around) (outer : List Env) (s : Shared) (H : Hp) (E : XK), A.guards = some [] → Room k (A.deeper (envOfC x (defScope st) s.heap.objs.size f cdv)) →
      DSs (cxOf CX0 P w K mg base N x (defScope st) f cdv A outer s H E).nox E0 (defBody st) g) : FnOkG P w K mg base CX0 (k + 1) f fd ps (upF ps.length K (sem0 N.length g)) := by
  obtain ⟨v7, a2, v2, v3, v4, a1, v5, v6, slots, rfl, at_, code⟩ := F.ex
  refine defG at_ code S (fun vs H Q E h => ?_) fun A outer s H vs Q E quiet room pre => ?_
  · obtain ⟨G, S, ds, w, kx, k, h1, h2, h3, _⟩ := h
    rw [h3.length, h1]
  · obtain ⟨G, S1, ds, w1, kx, k1, h1, h2, h3, h4, h5, h6⟩ := pre
    refine ⟨_, (walk f v5 A outer s H E quiet room).nox, G, S1, rho N.length ds, w1, { nx := fun _ w' => k1 .non w', rt := k1, ex := noX }, h2, sr_start h3, ⟨fun G' S' H' w' ρ' σ' x1 hr1 _ hk => h5 _ _ _ _ _ _ x1 hr1 .non hk, h5, ?_, ?_, xl_no⟩, h6⟩
    all_goals
      intro _ _ _ _ _ _ _ _ _ z
      exact z.elim
theorem DefAt.fn0G {x : Str} {st : Stmt} {N ps : List Str} {g : GS} (T : DefAt K mg x st ps) (S : FnScope N ps (defScope st))
    (walk : ∀ (f : Addr) (cdv : Value) (A : Around) (outer : List Env) (s : Shared) (H : Hp) (E : XK), A.guards = some [] → Room k (A.deeper (envOfC x (defScope st) s.heap.objs.size f cdv)) →
      DSs (cxOf CX0 P w K mg base N x (defScope st) f cdv A outer s H E).nox E0 (defBody st) g) : FnAtG P w K mg base CX0 (k + 1) x ps.length (sem0 N.length g) := by
  obtain ⟨f, fd, F, hm, hb⟩ := T.ex
  exact ⟨f, fd, ps, fun_fn0G F S walk, hm, F.kp, hb⟩
end
section
variable {X : Cx} {E : XK} {k n j : Nat} {g : GF} {x : Str} {e : Expr} {es : List Expr} {ga : GA} {p pos : Pos}
theorem de_call0G (F : FnAtG X.prog X.w X.K X.mg X.base CX0 j x n g) (quiet : X.A.guards = some []) (hr : Room k X.A) (hg : Gl X x) (ha : DA X E (e :: es) ga) (hjk : j ≤ k := by decide) (hdb : (x == ("__debug__" : Str)) = false := by decide)
    (he : starEach (e :: es) X.env = (false, eval e X.env) :: starEach es X.env := by rfl) (hpl : (backTo pos (starEach es X.env)).any (·.1) = false := by rfl) : DE X E (.Call (.Name x p) (e :: es) [] pos) (gCall0 n g ga) := by
  obtain ⟨f, fd, ps, h1, h2, h3, h4⟩ := F.ex
  have run : PE X (.Call (.Name x p) (e :: es) [] pos) (tCall (upF n X.K g) [] E (upA X.K E ga)) := by
    constructor
    intro pins s σ H Q I z
    refine wpAny_Call_Name_kw (ld_glob I hg h2 ?_ hdb)
    refine PySem.W.callWith_K (h₀ := X.base) I.ok.mod.kin h3 (thn (ha.run pos pins s σ H _ I z) ?_) he hpl
    rintro us s1 ⟨vs, H1, I1, r, q⟩
    refine ⟨I1.kIn, ?_⟩
    have r2 : Vals (vs ++ []) (us ++ []) := r.append .nil
    have hl : (us ++ []).length = ps.length := by rw [← r2.length]; exact h1.size _ _ _ _ q
    refine wpAny_call (codeAny_mono (h1.go X.A X.stack s1 H1 ⟨us, []⟩ (us ++ []) (vs ++ []) Q E quiet (hr.mono hjk) I1.env0 (h4 s1 us I1.kIn hl) r2 q) ?_)
    intro r s' z
    cases r with
    | error e => exact z.elim
    | ok fl =>
      cases fl with
      | ret u => exact I1.after z
      | next => exact z.elim
      | brk => exact z.elim
      | cont => exact z.elim
  refine pe_imp run ?_
  rintro σ H Q ⟨G, S, ρ, w, kx, k, hr, sr, xl, kl, h⟩
  refine ⟨G, S, ρ, w, kx, _, hr, sr, xl, fun G1 S1 H1 w1 ds vs x1 hr1 rp hq => ?_, h⟩
  show upF n X.K g (vs ++ []) H1 Q E
  rw [List.append_nil]
  exact ⟨G1, S1, ds, w1, noX, k, hq.1, hr1, rp, xl_no, kl.mono x1, hq.2⟩
end
end DL

namespace DL
open PySem PySem.Spec PyProof.Rows L2 RZ
abbrev scriptO (vs : List Value) : Obj := { cls := .type "list", data := .seq vs.toArray }
section
variable {P : Program} {w : World} {K : PySem.W.Frag} {mg mb : Str → Option Value} {k : Nat} {fa a : Addr} {fd : FuncData} {x : Str} {sp : Sp} {s : Shared} {vs : List Value} {ns : List Int} {H : Hp}
theorem hid_old {b : Addr} {o : Obj} (only : ∀ b, H b ≠ none → b = a) (h : s.heap.get? b = some o) (n : b = a → H a = none) : (hidT s.heap H).get? b = some o := by
  refine hidT_get h ?_
  by_cases e : H b = none
  · exact e
  · exact absurd (by rw [only b e]; exact n (only b e)) e
theorem hid_ns {b : Addr} {m : Str → Option Value} (only : ∀ b, H b ≠ none → b = a) (at_ : s.heap.get? a = some (scriptO vs)) (h : s.heap.Ns b m) : (hidT s.heap H).Ns b m := by
  obtain ⟨o, es, ep, h1, h2, h3⟩ := h
  refine ⟨o, es, ep, hid_old only h1 fun e => ?_, h2, h3⟩
  rw [e, at_] at h1
  have h4 : (scriptO vs).data = Data.dict es ep := by
    rw [Option.some.inj h1]
    exact h2
  cases h4
theorem head_run (inK : K.In s.heap) (main : s.heap.Ns mainGlobals mg) (blt : s.heap.Ns builtinsNs mb) (boot : ∀ x : Str, x ≠ "__name__" → mb x = bootBuiltins x) (nolim : s.heap.NoLimit) (nogen : s.gens = #[])
    (at_ : s.heap.get? a = some (scriptO vs)) (room : Room k callerA) (F : ∀ base : Heap, K.In base → base.Ns mainGlobals mg → FnOkG P w K mg base CX0 k fa fd [x] sp) (bind : ∀ (s : Shared) (u : Value), BindsTo s fd ⟨[u], []⟩ [(x, u)])
    (pre : ∀ H : Hp, Only H → SqL K H a (ns.map V.int) → sp [.ref a] H (fun v _ => v = .bl true) fun _ _ _ => False)
    (frz : Only H) (sq : SqL K H a (ns.map V.int)) (ok : HOk P w H s.heap) (only : ∀ b, H b ≠ none → b = a) (own : H a ≠ none → K.lookup a = none) :
    codeAny (model P w) callerA (.call (.ref fa) ⟨[.ref a], []⟩) (fun r s' => r = .ok (.ret (.bool true)) ∧ OldK s.heap s'.heap ∧ s'.os = s.os ∧ AllBare s'.gens) s := by
  have inK2 : K.In (hidT s.heap H) := fun b o h => hid_old only (inK b o h) fun e => by
    by_cases z : H a = none
    · exact z
    · have := own z
      rw [← e, h] at this
      cases this
  have main2 := hid_ns only at_ main
  have env : Env0 P w K mg (hidT s.heap H) callerA [] s H := by
    obtain ⟨mc, n1, n2⟩ := nolim
    refine ⟨rfl, ⟨inK2, main2, ⟨mb, hid_ns only at_ blt, boot⟩, ⟨mc, hid_ns only at_ n1, n2⟩⟩, fun b o h => of_hidT h, Nat.le_of_eq (hidT_size _ _), trivial, fun b hb => ?_, ok, .of_eq nogen⟩
    exact absurd (show b ∈ ([] : List Addr) from hb) List.not_mem_nil
  have run := (F _ inK2 main2).go callerA [] s H ⟨[.ref a], []⟩ [.ref a] [.ref a] _ _ rfl room env (bind s (.ref a)) (.cons rfl .nil) (pre H frz sq)
  refine codeAny_mono run ?_
  intro r s' z
  cases r with
  | error e => exact z.elim
  | ok fl =>
    cases fl with
    | ret u =>
      obtain ⟨v, H2, os, bare, un, ok2, rel, e⟩ := z
      have e : v = .bl true := e
      rw [e] at rel
      have e2 : u = Value.bool true := rel
      rw [e2]
      refine ⟨rfl, OldK.of_keep fun b o h => ?_, os, bare⟩
      rcases frz b with hb | ⟨o2, xs, hb⟩
      · exact un.keep b o h hb (fun z => absurd (show b ∈ ([] : List Addr) from z) List.not_mem_nil) (by simp)
      · have h1 := (ok b _ hb).1
        have h2 := (ok2 b _ (un.frzs b o2 _ hb)).1
        rw [h] at h1
        rw [Option.some.inj h1]
        exact h2
    | next => exact z.elim
    | brk => exact z.elim
    | cont => exact z.elim
def scriptH (a : Addr) (vs : List Value) (ns : List Int) : Hp := fun b => if b = a then some (.frz (scriptO vs) (.lst (ns.map V.int))) else none
theorem script_here : scriptH a vs ns a = some (.frz (scriptO vs) (.lst (ns.map V.int))) := if_pos rfl
theorem script_else {b : Addr} (h : b ≠ a) : scriptH a vs ns b = none := if_neg h
theorem headG (inK : K.In s.heap) (main : s.heap.Ns mainGlobals mg) (blt : s.heap.Ns builtinsNs mb) (boot : ∀ x : Str, x ≠ "__name__" → mb x = bootBuiltins x) (nolim : s.heap.NoLimit) (nogen : s.gens = #[])
    (at_ : s.heap.get? a = some (scriptO vs)) (whole : IntsAre vs ns) (short : ns.length ≤ sizeLine) (room : Room k callerA) (F : ∀ base : Heap, K.In base → base.Ns mainGlobals mg → FnOkG P w K mg base CX0 k fa fd [x] sp)
    (bind : ∀ (s : Shared) (u : Value), BindsTo s fd ⟨[u], []⟩ [(x, u)]) (pre : ∀ H : Hp, Only H → SqL K H a (ns.map V.int) → sp [.ref a] H (fun v _ => v = .bl true) fun _ _ _ => False) :
    codeAny (model P w) callerA (.call (.ref fa) ⟨[.ref a], []⟩) (fun r s' => r = .ok (.ret (.bool true)) ∧ OldK s.heap s'.heap ∧ s'.os = s.os ∧ AllBare s'.gens) s := by
  have rel := vals_ints whole
  have long := whole.length
  cases own : K.lookup a with
  | none =>
    refine head_run (H := scriptH a vs ns) inK main blt boot nolim nogen at_ room F bind pre (fun b => ?_) (.inl (.inr ⟨scriptO vs, script_here⟩)) (fun b u h => ?_) (fun b h => ?_) fun _ => own
    · by_cases e : b = a
      · rw [e]
        exact .inr ⟨_, _, script_here⟩
      · exact .inl (script_else e)
    · by_cases e : b = a
      · rw [e, script_here] at h
        rw [e, ← Option.some.inj h]
        exact ⟨at_, by rw [List.length_map]; exact short, vs, _, rel, at_⟩
      · rw [script_else e] at h
        cases h
    · by_cases e : b = a
      · exact e
      · exact absurd (script_else e) h
  | some o =>
    have same := inK a o own
    rw [at_] at same
    rw [← Option.some.inj same] at own
    refine head_run (H := fun _ => none) inK main blt boot nolim nogen at_ room F bind pre (fun _ => .inl rfl) ?_ (fun b u h => ?_) (fun b h => absurd rfl h) fun h => absurd rfl h
    · exact .inr ⟨_, vs.toArray, _, own, rfl, rfl, rfl, by rw [List.size_toArray, long]; exact short, by simpa using rel⟩
    · have h : (none : Option HO) = some u := h
      cases h
end
theorem walkG {l : PySem.W.OpenLaw} {n k : Nat} {q : Program} {loose : List Str} {XP : (Str → Option Value) → Heap → Prop} {YP : World → Heap → Prop} {d : DefRec} {K : Params → PySem.W.Frag} {x : Str}
    (most : l.most = some n) (none_ : d.params.defaults = []) (room : Room k callerA) (hY : ∀ (w : World) (h : Heap), YP w h → (K w.params).In h) (F : ∀ (w : World) (mg : Str → Option Value) (fa : Addr) (h : Heap), (K w.params).In h → h.Ns mainGlobals mg → mg d.name = some (.ref fa) →
      ∃ fd : FuncData, (∀ (s : Shared) (u : Value), BindsTo s fd ⟨[u], []⟩ [(x, u)]) ∧ ∀ base : Heap, (K w.params).In base → base.Ns mainGlobals mg → FnOkG l.prog w (K w.params) mg base CX0 k fa fd [x] (upF 1 (K w.params) gLaw))
    (small : n ≤ 63) : PySem.W.WalkO q loose XP YP l.row.toRowW d [] (fun f vs => PySem.call f vs) := by
  refine Att.attach_call most none_ fun w s₀ s₁ mg mb fa o pm cd doc a vs ns G Y ho hd hcd hmg hobj hints hlen hgn => ?_
  have inK := hY w _ Y
  obtain ⟨fd, hb, hF⟩ := F w mg fa _ inK G.T.g hmg
  have hl : ns.length ≤ 63 := Nat.le_trans hlen small
  exact headG inK G.T.g G.T.b G.T.builtins G.T.nolimit hgn hobj hints (Nat.le_trans hl (by decide)) room hF hb fun H _ hS => law_start hl hS
end DL

namespace DL
open PySem PySem.Spec PyProof.Rows L2 RZ
def cntPD (l : List (Str × Int)) : PyData := .dict (l.map fun q => (.str q.1, .int q.2))
def cntT (l : List (Str × Int)) : Str := (cntPD l).shown
def cntKV (l : List (Str × Int)) : List (Key × V) := l.map fun q => (.inr q.1, .int q.2)
def cntKD (l : List (Str × Int)) : List (Key × D) := l.map fun q => (.inr q.1, .int q.2)
structure CntFit (l : List (Str × Int)) : Prop where
  len : l.length ≤ 100
  txt : ∀ q ∈ l, PyData.strOk q.1 = true ∧ q.1.length ≤ 100
  int : ∀ q ∈ l, q.2.natAbs < 10 ^ 12
def rStrI2 : List V → Hp → VK → Prop := fun xs H Q => ∃ a l, xs = [.ref a] ∧ H a = some (.dK (cntKV l)) ∧ CntFit l ∧ Q (.str (cntT l)) H
def fStrD : FB := fun ds w k => match ds with
  | [.rf i] => ∃ l, w.M[i]? = some (.dk (cntKD l)) ∧ CntFit l ∧ k (.str (cntT l)) w
  | _ => False
section
variable {X : Cx} {E : XK} {e : Expr} {es : List Expr} {ga : GA} {p pos : Pos} {kk : Nat}
end
end DL

namespace PySem
open PySem.W PySem.Calls PySem.NumText PyProof.Rows
namespace LongInt
structure Box (p : Prop) : Prop where
  out : p
end LongInt
end PySem
namespace L2
open PySem PySem.Spec PyProof.Rows
structure NoDg (K : PySem.W.Frag) : Prop where
  ok : PySem.W.nsOkIn K cStatics = true
  non : PySem.W.nsIn K cStatics "sys.int_max_str_digits" = some none
theorem NoDg.heap {K : PySem.W.Frag} {h : Heap} (d : NoDg K) (X : K.In h) : h.NoDigits := ⟨h.nsMap cStatics, .of_isNs (PySem.W.isNs_of_in X d.ok), PySem.W.nsMap_none_of_in X d.ok d.non⟩
section
variable {X : Cx}
def rMulS : R2 := fun x y H Q => ∃ z i, x = .str z ∧ y = .int i ∧ -(2 ^ 62) ≤ i ∧ i ≤ 1 ∧ Q (.str (if i < 1 then Str.empty else z)) H
end
end L2

namespace DL
open PySem PySem.Spec PyProof.Rows L2 RZ
def fStrI : FB := fun ds w k => match ds with
  | [.int i] => i.natAbs < 10 ^ 4300 ∧ k (.str (toString i)) w
  | _ => False
def fIntS : FB := fun ds w k => match ds with
  | [.str a] => ∃ n, PySem.intText? a = some n ∧ a.length ≤ sizeLine ∧ k (.int n) w
  | _ => False
def inSD : F2 := fun x y w k => match x, y with
  | .str s, .str z => ∃ c, s = ⟨#[c]⟩ ∧ k (.bl (decide (c ∈ z.cps.toList))) w
  | _, _ => False
theorem ok_inSD {K : PySem.W.Frag} : BinOk K (fun x y H Q => ∃ (c : Nat) (z : Str), x = .str ⟨#[c]⟩ ∧ y = .str z ∧ Q (.bl (decide (c ∈ z.cps.toList))) H) inSD := by
  intro G S H w x y d e k Q hr rx ry kl h
  cases rx with
  | str s =>
    cases ry with
    | str z =>
      obtain ⟨c, rfl, h⟩ := h
      exact ⟨c, z, rfl, rfl, kl.here hr (.bl _) h⟩
    | _ => exact h.elim
  | _ => cases ry <;> exact h.elim
def mulSD : F2 := fun x y w k => match x, y with
  | .str z, .int i => (-(2 ^ 62) ≤ i ∧ i ≤ 1) ∧ k (.str (if i < 1 then Str.empty else z)) w
  | _, _ => False
def slS : D → Option Int → Option Int → Wd → KD → Prop := fun x lo hi w k => match x with
  | .str z => z.length ≤ sizeLine ∧ k (.str (L2.cutS z lo hi)) w
  | _ => False
theorem ok_slS {K : PySem.W.Frag} : SlOk K L2.rSlS slS := by
  intro G S H w x d lo hi k Q hr rx kl h
  cases rx with
  | str z => exact ⟨z, rfl, h.1, kl.here hr (.str _) h.2⟩
  | _ => exact h.elim
section
variable {X : Cx} {E : XK} {a b e : Expr} {es : List Expr} {ga gb : GE} {gA : GA} {p p2 pos : Pos} {lo hi : Option Expr} {gl gh : GO} {tg : Expr}
theorem de_inS (ha : DE X E a ga) (hb : DE X E b gb) (hm : behindInMarks .In b = false := by rfl) : DE X E (.Compare a [.In] [b] pos) (gBin inSD ga gb) := de_cmp L2.op_in_sign ok_inSD ha hb hm
theorem de_slS (he : DE X E a ga) (hl : DO X E lo gl) (hu : DO X E hi gh) : DE X E (.Subscript a (.Slice lo hi none p2) pos) (gSl slS ga gl gh) := de_slice L2.sl_str ok_slS he hl hu
def giStr (ge : GE) : GI := fun ρ w kx k => ge ρ w kx fun d w1 => match d with
  | .str x => k (x.cps.toList.map fun c => D.str ⟨#[c]⟩) (fun _ => True) w1
  | _ => False
theorem iter_str {K : PySem.W.Frag} {G : Gh} {S : Hp} {x : Str} : IterOk K (Its x) (x.cps.toList.map fun c => D.str ⟨#[c]⟩) (fun _ => True) G S := by
  intro i G1 S1 w1 H1 x1 hr1 _
  refine ⟨fun d hd => ?_, fun hl => ?_⟩
  · rw [List.getElem?_map, Array.getElem?_toList] at hd
    cases q : x.cps[i]? with
    | none => rw [q] at hd; cases hd
    | some c =>
      rw [q] at hd
      have hd : D.str ⟨#[c]⟩ = d := by simpa using hd
      subst hd
      refine ⟨(Array.getElem?_eq_some_iff.mp q).1, fun y H2 hy => ?_⟩
      obtain ⟨rfl, c2, hc, rfl⟩ := hy
      rw [q] at hc
      cases hc
      exact ⟨G1, S1, Ext.refl _ _, hr1, .str _⟩
  · rw [List.length_map, Array.length_toList] at hl
    exact Nat.le_of_eq hl
theorem di_str {l : Expr} {ge : GE} (hl : DE X E l ge) : DI X E tg l (giStr ge) := pi_imp (pi_str hl) (by
  rintro σ H R ⟨G, S, ρ, w, kx, k, hr, sr, xl, kl, h⟩
  refine ⟨G, S, ρ, w, kx, _, hr, sr, xl, fun G1 S1 H1 w1 d v x1 hr1 rp h1 => ?_, h⟩
  cases rp with
  | str x => exact ⟨x, rfl, kl _ _ _ _ _ _ _ x1 hr1 iter_str h1⟩
  | _ => exact h1.elim)
end
end DL


namespace L2
open PySem PySem.Spec PyProof.Rows
def keyTx (e : Int × Value) : Str := match e.2 with | .str k _ => k | _ => Str.empty
structure TxSet (P : Program) (w : World) (h : Heap) (a : Addr) (l : List Str) (D : Froz.SD) : Prop where
  there : h.get? a = some (Froz.sObj "set" D)
  tx : Froz.TxOk P w D l
  pm : (D.1.toList.map keyTx).Perm l
  nd : l.Nodup
  few : l.length < scanBound
  ris : Ris D.2.2.place.toList
  led : w.params.followText "set-order" = true ∨ D.2.2.led = true
def SetTx (P : Program) (w : World) (h : Heap) (a : Addr) (l : List Str) : Prop := ∃ D, TxSet P w h a l D
section
variable {P : Program} {w : World} {A : Around} {E : Value → Shared → Prop} {s : Shared} {h h' : Heap} {a : Addr} {l : List Str}
theorem SetTx.at (R : SetTx P w h a l) (k : ∀ o, h.get? a = some o → h'.get? a = some o) : SetTx P w h' a l := by
  obtain ⟨D, R⟩ := R
  exact ⟨D, ⟨k _ R.there, R.tx, R.pm, R.nd, R.few, R.ris, R.led⟩⟩
theorem addTx_more {T : Prop} {hs : Int} {v : Value} {D : Froz.SD} (r : Ris D.2.2.place.toList) (g : T ∨ D.2.2.led = true) :
    (Froz.addTx hs v D).1.toList.Perm (D.1.push (hs, v)).toList ∧ Ris (Froz.addTx hs v D).2.2.place.toList ∧ (T ∨ (Froz.addTx hs v D).2.2.led = true) := by
  obtain ⟨es, ep, t⟩ := D
  have p1 := layNew_perm t es hs v
  have r1 := layNew_ris t es hs v r
  have g1 := layNew_led t es hs v
  have g0 : T ∨ t.led = true := g
  show (Froz.tailTx ep (layNew t es hs v).1 (if (layNew t es hs v).2.1.plain = true then { (layNew t es hs v).2.1 with plain := false } else (layNew t es hs v).2.1) (layNew t es hs v).2.2.1).1.toList.Perm _ ∧
    Ris (Froz.tailTx ep (layNew t es hs v).1 (if (layNew t es hs v).2.1.plain = true then { (layNew t es hs v).2.1 with plain := false } else (layNew t es hs v).2.1) (layNew t es hs v).2.2.1).2.2.place.toList ∧
    (T ∨ (Froz.tailTx ep (layNew t es hs v).1 (if (layNew t es hs v).2.1.plain = true then { (layNew t es hs v).2.1 with plain := false } else (layNew t es hs v).2.1) (layNew t es hs v).2.2.1).2.2.led = true)
  generalize layNew t es hs v = Z at p1 r1 g1 ⊢
  obtain ⟨es1, t1, wd, gave⟩ := Z
  dsimp only at p1 r1 g1 ⊢
  have r2 : Ris (if t1.plain = true then { t1 with plain := false } else t1).place.toList := by
    split
    · exact r1
    · exact r1
  have g2 : (if t1.plain = true then { t1 with plain := false } else t1).led = t.led := by
    split
    · exact g1
    · exact g1
  generalize (if t1.plain = true then { t1 with plain := false } else t1) = t2 at r2 g2 ⊢
  unfold Froz.tailTx
  split
  · exact ⟨(relayAll_perm t2 es1 _).trans p1, relayAll_ris t2 es1 _, g0.imp id fun z => by rw [relayAll_led, g2]; exact z⟩
  · exact ⟨p1, r2, g0.imp id fun z => by rw [g2]; exact z⟩
theorem setTx_add {k : Str} {u : Tok} {Q : Bool → Shared → Prop} (R : SetTx P w s.heap a l) (room : l.length + 1 < scanBound)
    (hQ : ∀ h' b, Heap.SameBut a s.heap h' → SetTx P w h' a (if k ∈ l then l else k :: l) → Q b { s with heap := h' }) :
    wpAny (model P w) A (setAddHashed a (.str k u) (hashStr w k)) Q E s := by
  obtain ⟨D, ho, F, pm, nd, few, ris, led⟩ := R
  by_cases hk : k ∈ l
  · rw [if_pos hk] at hQ
    obtain ⟨es, ep, t⟩ := D
    have hd : (Froz.sObj "set" (es, ep, t)).data = .set es ep t := rfl
    have hsz : es.size = l.length := F.sz
    have hf : t.fits es.size = true := F.fit
    have hel : ElemsOf (PySem.strKind P w) es.toList := F.el
    have hkey : (PySem.strKind P w).is k (.str k u) = true := Froz.is_str k u
    obtain ⟨e, he, pe⟩ := (F.mem k).mp hk
    unfold setAddHashed setAddHashedIn
    refine wpAny_holding (wpAny_bind (wpAny_setState_of ho hd hf ?_))
    dsimp only
    rw [byScan_of rfl (by rw [hsz]; exact few) hel]
    simp only [↓reduceIte]
    unfold setAddByScan
    refine wpAny_bind (wpAny_bind (wpAny_rule (wpAny_bind (wpAny_setScan_of (knd := PySem.strKind P w) (k := k) hkey ho hd hf hel ?_))))
    cases q : List.findIdx? (fun e => (PySem.strKind P w).is k e.2) es.toList with
    | none =>
      have c := List.findIdx?_eq_none_iff.mp q e he
      rw [pe] at c
      cases c
    | some j =>
      dsimp only
      exact wpAny_pure (wpAny_pure (hQ s.heap _ (Heap.SameBut.refl a s.heap) ⟨_, ho, F, pm, nd, few, ris, led⟩))
  · rw [if_neg hk] at hQ
    refine Froz.add_x ho F hk room (hQ _ _ (Heap.SameBut.update s.heap a _) ?_)
    obtain ⟨p2, r2, g2⟩ := addTx_more (hs := hashStr w k) (v := .str k u) ris led
    refine ⟨_, Froz.get_upd _ ho rfl, Froz.add_ok u F, ?_, List.nodup_cons.mpr ⟨hk, nd⟩, room, r2, g2⟩
    have p3 := p2.map keyTx
    rw [Array.toList_push, List.map_append] at p3
    exact p3.trans ((pm.append_right _).trans (List.perm_append_singleton _ _))
theorem setTx_update {I : Addr} {fp wr : List Addr} {G : Array GenState → Array GenState → Prop} {n : Nat} {Pv : Nat → Value → Prop} {St : Nat → Shared → Prop} {R : Result → Shared → Prop}
    (W : WalksS P w A.in1 I fp wr G n Pv St) (a : Addr) (ha : a ∉ fp) (ks : List Str) (hn : n = ks.length) (few : ks.length + 1 < scanBound) (hv : ∀ i v, Pv i v → ∃ k t, ks[i]? = some k ∧ v = .str k t) :
    ∀ (m i : Nat) (s : Shared), n - i = m → i ≤ n → St i s → (∃ l, l.length ≤ i ∧ SetTx P w s.heap a l ∧ ∀ k, k ∈ l ↔ k ∈ ks.take i) →
      (∀ s' l, Moved (a :: wr) G s s' → l.length ≤ n → SetTx P w s'.heap a l → (∀ k, k ∈ l ↔ k ∈ ks) → R (.ok (.ret .none)) s') →
      codeAny (model P w) A (.builtin "set.update.loop" ⟨[.ref a, .ref I], []⟩) R s := by
  have off : a ∉ wr := fun z => ha (W.sub _ z)
  have up : ∀ b ∈ wr, b ∈ a :: wr := fun b z => List.mem_cons_of_mem _ z
  intro m
  induction m with
  | zero =>
    intro i s hm hi st ⟨l, hl, S, mem⟩ fin
    have e : i = n := by omega
    subst e
    refine codeAny_builtin F.entry_set_update_loop ?_
    rw [Around.under_plainId F.plain_set_update_loop _]
    show wpAny _ A.in1 (pyNext (.ref I) >>= _) _ _ s
    refine wpAny_bind (W.done s _ _ st fun s' mv => ?_)
    rw [List.take_of_length_le (by omega)] at mem
    show wpAny _ A.in1 (ret Value.none) _ _ s'
    exact wpAny_pure (fin s' l (mv.mono up) hl (S.at fun o z => mv.heap a o off z) mem)
  | succ m ih =>
    intro i s hm hi st ⟨l, hl, S, mem⟩ fin
    have lt : i < n := by omega
    refine codeAny_builtin F.entry_set_update_loop ?_
    rw [Around.under_plainId F.plain_set_update_loop _]
    show wpAny _ A.in1 (pyNext (.ref I) >>= _) _ _ s
    refine wpAny_bind (W.item i s _ _ lt st fun v s' hp st' mv => ?_)
    obtain ⟨z, t, hz, rfl⟩ := hv i v hp
    show wpAny _ A.in1 (holding [Value.str z t] (setAdd a (.str z t)) >>= _) _ _ s'
    refine wpAny_bind (wpAny_holding ?_)
    unfold setAdd
    refine wpAny_holding (wpAny_bind ((PySem.strKind P w).pyHash (k := z) (Froz.is_str _ _) ?_))
    refine setTx_add (s := { s' with toks := s'.toks + 1 }) (S.at fun o z => mv.heap a o off z) (by omega) fun h' b sb S2 => ?_
    refine wpAny_pure ⟨plainId_quiet F.plain_set_update_loop _, ih (i + 1) _ (by omega) lt (W.frame _ s' _ _ st' (Nat.le_succ _) fun c hc o e => ?_) ⟨_, ?_, S2, fun k => ?_⟩ fun s2 l2 mv2 hl2 S3 mem3 => ?_⟩
    · rw [sb.2 c (fun z : c = a => ha (by rw [← z]; exact hc))]
      exact e
    · split
      · omega
      · rw [List.length_cons]
        omega
    · rw [List.take_add_one, hz]
      by_cases hk : z ∈ l
      · rw [if_pos hk]
        refine (mem k).trans ⟨fun q => List.mem_append_left _ q, fun q => ?_⟩
        rcases List.mem_append.mp q with q | q
        · exact q
        · rw [Option.toList_some, List.mem_singleton] at q
          rw [q]
          exact (mem z).mp hk
      · rw [if_neg hk, List.mem_cons, mem k, List.mem_append, Option.toList_some, List.mem_singleton]
        exact Or.comm
    · refine fin s2 l2 (Moved.trans W.gtrans ((mv.mono up).then_heap (Nat.le_succ _) fun c o hc e => ?_) mv2) hl2 S3 mem3
      rw [sb.2 c (fun z : c = a => hc (by rw [z]; exact List.mem_cons_self))]
      exact e
theorem set_of_texts {b : Addr} {items : Array Value} (ks : List Str) {Q : Value → Shared → Prop} (hh : A.handled = none) (hl : s.heap.IsList b items) (hI : StrsAre items.toList ks) (few : ks.length + 1 < scanBound)
    (fin : ∀ (h' : Heap) (tk : Nat) (l : List Str), SetTx P w h' s.heap.objs.size l → l.length ≤ ks.length → (∀ k, k ∈ l ↔ k ∈ ks) → (∀ b o, s.heap.get? b = some o → h'.get? b = some o) → Q (.ref s.heap.objs.size) { s with heap := h', toks := tk }) :
    wpAny (model P w) A (call (.type "set") [.ref b]) Q E s := by
  refine type_call_by (Q1 := fun x s1 => x = .ref s.heap.objs.size ∧ s1 = { s with heap := s.heap.push (newSetO w) }) F.called_set (F.typeCall_set_1 _) (code_set_led1 _ ⟨rfl, rfl⟩) ?_
  rintro _ _ ⟨rfl, rfl⟩
  have len : items.size = ks.length := by simpa using StrsAre.length hI
  have at0 : (s.heap.push (newSetO w)).get? s.heap.objs.size = some (newSetO w) := Heap.get?_push_size _ rfl
  have ty : Shared.TypeIs { s with heap := s.heap.push (newSetO w) } (.ref s.heap.objs.size) "set" := ⟨_, at0, rfl⟩
  refine ⟨ty, codeAny_call_builtin F.called_set.init.plain F.entry_set_init (check_set_init_1 ty ?_)⟩
  obtain ⟨⟨_, od, _, sl⟩, g1, g2, n1, g3⟩ := hl
  simp only at g2 g3; subst g2; subst g3
  have lt : b < s.heap.objs.size := Heap.lt_size g1
  have l1 := Heap.get?_push_of_some (newSetO w) g1
  have isl : (s.heap.push (newSetO w)).IsList b items := ⟨_, l1, rfl, n1, rfl⟩
  have t1 := F.sub_list_set; have t2 := F.sub_list_frozenset; have t3 : (Value.type "list" == Value.type "dict") = false := by decide
  unfold Builtin.«set.__init__» Builtin.Frozenset.updateFrom noKeywords
  generalize hit : @pyIter = it
  wp_walk
  subst hit
  refine wpAny_pyIter_list isl (wpAny_bind (wpAny_runValue ?_))
  have size1 : (s.heap.push (newSetO w)).objs.size = s.heap.objs.size + 1 := Heap.size_push ..
  have apart : b ≠ (s.heap.push (newSetO w)).objs.size := size1 ▸ Nat.ne_of_lt (Nat.lt_succ_of_lt lt)
  have off : s.heap.objs.size ∉ [(s.heap.push (newSetO w)).objs.size, b] := by
    rw [size1]
    intro hm
    rcases List.mem_cons.mp hm with z | z
    · exact absurd z (Nat.ne_of_lt (Nat.lt_succ_self _))
    · exact absurd (List.mem_singleton.mp z) (Nat.ne_of_gt lt)
  have vals : ∀ (i : Nat) (v : Value), items[i]? = some v → ∃ k t, ks[i]? = some k ∧ v = .str k t := fun i v hv => by
    have lt : i < ks.length := len ▸ (Array.getElem?_eq_some_iff.mp hv).1
    obtain ⟨t, e⟩ := StrsAre.at hI (List.getElem?_eq_getElem lt)
    rw [Array.getElem?_toList, hv] at e
    exact ⟨ks[i], t, List.getElem?_eq_getElem lt, Option.some.inj e⟩
  have new : SetTx P w ((s.heap.push (newSetO w)).push { cls := .type "list_iterator", data := .fields #[.ref b, rawInt 0] }) s.heap.objs.size [] := by
    refine ⟨(#[], 0, .fresh 0 0 (!w.params.followText "set-order")), Heap.get?_push_of_some _ at0, Froz.TxOk.nil (by rfl), .refl _, List.nodup_nil, by decide, List.Pairwise.nil, ?_⟩
    show _ ∨ (!w.params.followText "set-order") = true
    cases w.params.followText "set-order"
    · exact .inr rfl
    · exact .inl rfl
  refine setTx_update ((Walks.list (by simp [hh]) _ b apart items).toS) s.heap.objs.size off ks len few vals (items.size - 0) 0 _ (by omega) (Nat.zero_le _) ⟨⟨_, Heap.get?_push_size _ rfl, rfl, rfl⟩, isl.push _⟩ ⟨[], Nat.le_refl 0, new, fun k => by simp⟩ ?_
  rintro ⟨h2, gg, dd, tk, oo⟩ l mv hc R mem
  obtain rfl : gg = s.gens := mv.gens
  obtain rfl : dd = s.drawn := mv.drawn
  obtain rfl : oo = s.os := mv.os
  refine wpAny_pure (show wpAny _ _ (ret Value.none) _ _ _ from wpAny_pure ⟨rfl, fin h2 tk l R (len ▸ hc) mem fun b o e => mv.heap b o (fun hm => ?_) (Heap.get?_push_of_some _ (Heap.get?_push_of_some _ e))⟩)
  have lb := Heap.lt_size e
  rcases List.mem_cons.mp hm with z | z
  · exact absurd z (Nat.ne_of_lt lb)
  · rw [size1] at z
    exact absurd (List.mem_singleton.mp z) (Nat.ne_of_lt (Nat.lt_succ_of_lt lb))
theorem strs_keys {es : List (Int × Value)} (g : ElemsOf (PySem.strKind P w) es) : StrsAre (es.map (·.2)) (es.map keyTx) := by
  induction es with
  | nil => exact .nil
  | cons e es ih =>
    obtain ⟨⟨k, hk, _⟩, _⟩ := g e List.mem_cons_self
    obtain ⟨t, q⟩ := Value.isStrOf_shape hk
    have r := ih fun x hx => g x (List.mem_cons_of_mem _ hx)
    rw [List.map_cons, List.map_cons]
    unfold keyTx
    rw [q]
    exact .cons k t r
theorem strs_perm {vs us : List Value} (p : vs.Perm us) : ∀ {ks : List Str}, StrsAre us ks → ∃ ys, StrsAre vs ys ∧ ys.Perm ks := by
  induction p with
  | nil => intro ks h; exact ⟨ks, h, .refl _⟩
  | cons x _ ih =>
    intro ks h
    cases h with
    | cons k t r =>
      obtain ⟨ys, a, b⟩ := ih r
      exact ⟨k :: ys, .cons k t a, b.cons k⟩
  | swap x y r =>
    intro ks h
    cases h with
    | cons k t r =>
      cases r with
      | cons k2 t2 r => exact ⟨_, .cons k2 t2 (.cons k t r), .swap _ _ _⟩
  | trans _ _ i1 i2 =>
    intro ks h
    obtain ⟨ys, a, b⟩ := i2 h
    obtain ⟨zs, c, d⟩ := i1 a
    exact ⟨zs, c, d.trans b⟩
theorem sorted_setTx {Q : Value → Shared → Prop} (R : SetTx P w s.heap a l) (hh : A.handled = none) (h64 : l.length < 64)
    (hQ : ∀ s' p (out : Array Value) (c : Nat) (ys : List Str), (∀ b o, s.heap.get? b = some o → s'.heap.get? b = some o) → s'.gens = s.gens → s'.os = s.os → s.heap.objs.size ≤ p →
      s'.heap.get? p = some (seqObj "list" out c) → StrsAre out.toList ys → ys.Perm l → sortedS ys = true → Q (.ref p) s') :
    wpAny (model P w) A (call (.builtin "sorted") [.ref a]) Q E s := by
  obtain ⟨⟨es, ep, t⟩, ho, F, pm, nd, few, ris, led⟩ := R
  have hsz : es.size = l.length := F.sz
  refine Calls.call_function_entry kind_sorted plain_sorted entry_sorted (args_sorted1 _) ?_
  unfold Builtin.«sorted»
  refine wpAny_bind (m := checkCount "sorted" 1 1 _) (wpAny_pure ?_)
  refine wpAny_bind (collect_set (A := A.in1) hh ⟨_, ho, rfl, rfl⟩ F.fit (by rw [hsz]; exact few) ris led fun s1 vs k1 hz g1 o1 p1 => ?_)
  have hvl : vs.length = l.length := by rw [p1.length_eq, List.length_map, Array.length_toList]; exact hsz
  obtain ⟨ks, hS, pk⟩ := strs_perm p1 (strs_keys (P := P) (w := w) F.el)
  refine wpAny_bind (wpAny_newList ?_ (by rw [hvl, sizeLine_eq]; omega))
  have hoL : (s1.heap.push (seqObj "list" vs.toArray 0)).get? s1.heap.objs.size = some (seqObj "list" vs.toArray 0) := Heap.get?_push_size _ rfl
  refine wpAny_bind (wpAny_holding (wpAny_call_entry slot_list_sort ⟨_, hoL, rfl⟩ entry_list_sort
    (list_sort_treeK strKind_oneLt hoL hS.keysOf (fun v₁ v₂ rest e => keyKind_strs (by rw [← e]; exact hS)) (by rw [hvl]; exact h64) fun st' hp hs => ⟨_, rfl, ?_⟩) (args_list_sort _)))
  obtain ⟨ys, q1, q2, q3⟩ := sorted_out_str hS hp hs
  obtain ⟨c, hc⟩ := sortedHeap_at (vs := vs) (out := (arrOf st').map (·.2)) hoL
  refine wpAny_pure ⟨_, rfl, hQ _ s1.heap.objs.size _ c ys (fun b u e => ?_) g1 o1 hz hc q1 (q2.trans (pk.trans pm)) q3⟩
  have q := k1 b u e
  have hlt := Heap.lt_size q
  show (sortedHeap (s1.heap.push (seqObj "list" vs.toArray 0)) s1.heap.objs.size vs _).get? b = some u
  rw [sortedHeap_old (Nat.ne_of_lt hlt) (by rw [size_push']; exact Nat.lt_succ_of_lt hlt)]
  exact Heap.get?_push_of_some _ q
end
def SetTxO (P : Program) (w : World) (a : Addr) (l : List Str) : HO := .ext fun h => SetTx P w h a l
theorem setTxO_new {w : World} {P : Program} {H : Hp} {h : Heap} {a : Addr} {l : List Str} (R : SetTx P w h a l) : ObjOk P w H h a (SetTxO P w a l) := by
  have ⟨D, r⟩ := R
  exact ⟨R, ⟨_, r.there⟩, fun h1 h2 p k => SetTx.at p k⟩
def rSetLT (P : Program) (w : World) (K : PySem.W.Frag) : List V → Hp → VK → Prop := fun xs H Q => ∃ (p : Addr) (ks : List Str), xs = [.ref p] ∧ SqL K H p (ks.map V.str) ∧ ks.length ≤ 1000 ∧ ∀ (q : Addr) (l : List Str), H q = none → l.length ≤ ks.length → (∀ k, k ∈ l ↔ k ∈ ks) → Q (.ref q) (upd H q (SetTxO P w q l))
theorem cr_setLT {X : Cx} (hc : X.calm = true) : CallR X (.type "set") (rSetLT X.prog X.w X.K) := by
  intro pins s σ H xs us Q I r h
  obtain ⟨p, ks, rfl, hs, hl, q⟩ := h
  rw [Vals.ref1 r]
  obtain ⟨its, rv, pt, hz⟩ := I.list hs
  refine set_of_texts ks (I.ok.hd hc) (show s.heap.IsList p its.toArray from pt.isList) (strsAre_of rv) (by unfold scanBound; omega) fun h' tk l R1 hcn mem k => ?_
  have hn : H s.heap.objs.size = none := I.hok.fresh (Nat.le_refl _)
  exact ⟨.ref _, upd H s.heap.objs.size (SetTxO X.prog X.w s.heap.objs.size l), I.laid (t' := tk) (fun b u e => k b u e) (Nat.le_refl _) (setTxO_new R1), rfl, q _ l hn hcn mem⟩
def rSortedTx (P : Program) (w : World) : List V → Hp → VK → Prop := fun vs H Q => ∃ (a : Addr) (l : List Str), vs = [V.ref a] ∧ H a = some (SetTxO P w a l) ∧ l.length < 64 ∧
  ∀ (ys : List Str) (p : Addr), ys.Perm l → l.Nodup → sortedS ys = true → H p = none → Q (.ref p) (upd H p (.lst (ys.map V.str)))
theorem cr_sortedTx {X : Cx} (hc : X.calm = true) : CallR X (.builtin "sorted") (rSortedTx X.prog X.w) := by
  intro pins s σ H vs us Q I r h
  obtain ⟨a, l, rfl, ha, h64, q⟩ := h
  have R : SetTx X.prog X.w s.heap a l := (I.hok a _ ha).1
  rw [Vals.ref1 r]
  refine sorted_setTx R (I.ok.hd hc) h64 fun s' p out c ys k g o hp hg hi hs hm => ?_
  have hlen : (ys.map V.str).length ≤ sizeLine := by rw [List.length_map, hs.length_eq, sizeLine_eq]; omega
  have hn : H p = none := I.hok.fresh hp
  have J : Inv X pins σ (upd H p (.lst (ys.map V.str))) { s with heap := s'.heap, gens := s'.gens, drawn := s'.drawn, toks := s'.toks } :=
    I.call (ch := []) (Un.laid k hp hn) (I.hok.laid k hp ⟨hlen, out.toList, c, vals_of_strs hi, hg⟩) (by rw [g]; exact I.bare) (fun _ z => nomatch z)
  have e : s' = { s with heap := s'.heap, gens := s'.gens, drawn := s'.drawn, toks := s'.toks } := by
    cases s'
    cases s
    cases o
    rfl
  obtain ⟨D, TX⟩ := R
  rw [e]
  exact ⟨.ref p, _, J, rfl, q ys p hs TX.nd hm hn⟩
end L2
namespace DL
open PySem PySem.Spec PyProof.Rows L2 RZ
theorem repT {K : PySem.W.Frag} {G : Gh} {S : Hp} : ∀ ns : List Str, RepAll K G S (ns.map V.str) (ns.map D.str)
  | [] => .nil
  | n :: ns => .cons (.str n) (repT ns)
theorem repT_eq {K : PySem.W.Frag} {G : Gh} {S : Hp} : ∀ {ns : List Str} {xs : List V}, RepAll K G S xs (ns.map D.str) → xs = ns.map V.str
  | [], _, r => by
    cases r
    rfl
  | n :: ns, _, r => by
    rw [List.map_cons] at r
    cases r with
    | cons r1 r2 =>
      cases r1
      rw [repT_eq r2]
      rfl
def gSortSetT (ga : GA) : GE := fun ρ w kx k => ga ρ w kx fun ds w1 => ∃ ns : List Str, ds = [.lst (ns.map D.str)] ∧ ns.length < 64 ∧ ∀ ms : List Str, ms.Nodup → sortedS ms = true → (∀ j, j ∈ ms ↔ j ∈ ns) → k (.lst (ms.map D.str)) w1
theorem de_sortSetT {X : Cx} {E : XK} {e : Expr} {ga : GA} {p p2 pos pos2 : Pos} (B : Blt X.mg) (hset : X.mg "set" = none) (hc : X.calm = true) (hg : Gl X "sorted") (hg2 : Gl X "set") (ha : DA X E [e] ga)
    (he : starEach [e] X.env = (false, eval e X.env) :: starEach [] X.env := by rfl) (hpl : (backTo pos2 (starEach [] X.env)).any (·.1) = false := by rfl)
    (he2 : starEach [Expr.Call (.Name "set" p2) [e] [] pos2] X.env = (false, eval (Expr.Call (.Name "set" p2) [e] [] pos2) X.env) :: starEach [] X.env := by rfl) (hpl2 : (backTo pos (starEach [] X.env)).any (·.1) = false := by rfl) :
    DE X E (.Call (.Name "sorted" p) [.Call (.Name "set" p2) [e] [] pos2] [] pos) (gSortSetT ga) := by
  have a := pe_callTy (p := p2) (cr_setLT hc) hg2 hset (by decide +kernel) ha (by decide) (by decide) he hpl
  have b := pe_callB (p := p) (cr_sortedTx hc) hg B.sorted_ (by decide +kernel) (pa_cons a pa_nil he2) (by decide) (by decide) he2 hpl2
  refine pe_imp b ?_
  rintro σ H Q ⟨G, S, ρ, w, kx, k, hr, sr, xl, kl, h⟩
  refine ⟨G, S, ρ, w, kx, _, hr, sr, xl, fun G1 S1 H1 w1 ds vs x1 hr1 rp hq => ?_, h⟩
  obtain ⟨ns, rfl, hn, h2⟩ := hq
  obtain ⟨v, rfl, r⟩ := one_rep rp
  cases r with
  | lst e1 r1 =>
    rename_i a xs
    have := repT_eq r1
    subst this
    refine ⟨a, ns, rfl, .inl (.inl (hr1.same _ _ e1)), by omega, fun q l hq hcn mem => ?_⟩
    refine ⟨q, l, rfl, upd_same, by omega, fun ms t hs nd hm ht => ?_⟩
    obtain ⟨hr2, x2⟩ := hr1.newS hq (SetTxO X.prog X.w q l)
    exact (kl.mono (x1.trans x2)).newL hr2 (repT ms) (h2 ms (hs.nodup_iff.mpr nd) hm fun j => by rw [hs.mem_iff, mem j]) t ht
end DL

namespace L2
open PySem PySem.Spec PyProof.Rows
mutual
inductive EqV (K : PySem.W.Frag) (H : Hp) : Nat → V → V → Prop
  | ref {n : Nat} {a : Addr} : EqV K H n (.ref a) (.ref a)
  | dp {n : Nat} {x y : V} {p : PyData} : Dp K H x p → Dp K H y p → p.canLay0 = true → p.depth + 1 ≤ n → EqV K H n x y
  | tup {n : Nat} {a b : Addr} {xs ys : List V} : SqT K H a xs → SqT K H b ys → EqVs K H n xs ys → EqV K H (n + 1) (.ref a) (.ref b)
  | lst {n : Nat} {a b : Addr} {xs ys : List V} : SqL K H a xs → SqL K H b ys → EqVs K H n xs ys → EqV K H (n + 1) (.ref a) (.ref b)
inductive EqVs (K : PySem.W.Frag) (H : Hp) : Nat → List V → List V → Prop
  | nil {n : Nat} : EqVs K H n [] []
  | cons {n : Nat} {x y : V} {xs ys : List V} : EqV K H n x y → EqVs K H n xs ys → EqVs K H n (x :: xs) (y :: ys)
end
section
variable {X : Cx} {pins : List (Addr × Obj)} {σ : St} {H : Hp} {s : Shared}
theorem EqTree.cast {prog : Program} {w : World} {s : Shared} {n : Nat} {v y : Value} {b c : Bool} (t : PySem.W.EqTree prog w s n v y b) (e : b = c) : PySem.W.EqTree prog w s n v y c := e ▸ t
mutual
theorem eqV_tree (I : Inv X pins σ H s) : ∀ {n : Nat} {x y : V} {v u : Value}, EqV X.K H n x y → RelV x v → RelV y u → PySem.W.EqTree X.prog X.w s n v u true
  | _, _, _, v, u, .ref, r1, r2 => by
    cases r1
    cases r2
    exact .same
  | _, _, _, v, u, .dp (p := p) d1 d2 hc hd, r1, r2 => by
    obtain ⟨as, q1⟩ := Dp.reads I p _ v d1 r1
    obtain ⟨bs, q2⟩ := Dp.reads I p _ u d2 r2
    refine .leaf fun A hu => ?_
    have q := SeqAt.eqAt_reads p p A s v u as bs q1 q2 hc hc (by
      rw [Nat.min_self]
      omega)
    rw [SeqAt.eqv_refl p hc] at q
    exact q
  | _, _, _, v, u, .tup (a := a) (b := b) h1 h2 t, r1, r2 => by
    cases r1
    cases r2
    obtain ⟨i1, v1, p1, _⟩ := I.tuple h1
    obtain ⟨i2, v2, p2, _⟩ := I.tuple h2
    by_cases hab : a = b
    · subst hab
      exact .same
    · obtain ⟨e1, e2⟩ := eqVs_tree I t v1 v2
      have z : i1.toArray.size = i2.toArray.size := by simpa using e1
      exact EqTree.cast (.tuples (e := fun _ => true) hab p1 p2 fun j a1 a2 => by
        have := e2 j (by simpa using a1) (by simpa using a2)
        simpa using this) (by simp [z])
  | _, _, _, v, u, .lst (a := a) (b := b) h1 h2 t, r1, r2 => by
    cases r1
    cases r2
    obtain ⟨i1, v1, p1, _⟩ := I.list h1
    obtain ⟨i2, v2, p2, _⟩ := I.list h2
    by_cases hab : a = b
    · subst hab
      exact .same
    · obtain ⟨e1, e2⟩ := eqVs_tree I t v1 v2
      have z : i1.toArray.size = i2.toArray.size := by simpa using e1
      exact EqTree.cast (.lists (e := fun _ => true) hab p1.isList p2.isList z fun j a1 a2 => by
        have := e2 j (by simpa using a1) (by simpa using a2)
        simpa using this) (by simp)
theorem eqVs_tree (I : Inv X pins σ H s) : ∀ {n : Nat} {xs ys : List V} {vs us : List Value}, EqVs X.K H n xs ys → Vals xs vs → Vals ys us → vs.length = us.length ∧ ∀ j (h1 : j < vs.length) (h2 : j < us.length), PySem.W.EqTree X.prog X.w s n vs[j] us[j] true
  | _, _, _, vs, us, .nil, r1, r2 => by
    cases r1
    cases r2
    exact ⟨rfl, fun j h => absurd h (Nat.not_lt_zero _)⟩
  | _, _, _, vs, us, .cons h t, r1, r2 => by
    cases r1 with
    | cons a1 b1 =>
      cases r2 with
      | cons a2 b2 =>
        obtain ⟨e1, e2⟩ := eqVs_tree I t b1 b2
        refine ⟨congrArg (· + 1) e1, fun j h1 h2 => ?_⟩
        cases j with
        | zero => exact eqV_tree I h a1 a2
        | succ j => exact e2 j (Nat.lt_of_succ_lt_succ h1) (Nat.lt_of_succ_lt_succ h2)
end
def rEqV (K : PySem.W.Frag) : V → V → Hp → VK → Prop := fun x y H Q => ∃ (n : Nat) (a b : Addr) (xs ys : List V), x = .ref a ∧ y = .ref b ∧ SqT K H a xs ∧ SqT K H b ys ∧ EqVs K H n xs ys ∧ n ≤ 60 ∧ Q (.bl true) H
end
end L2
namespace DL
open PySem PySem.Spec PyProof.Rows L2 RZ
mutual
inductive SameD : Nat → D → D → Prop
  | rf {n : Nat} {i : Nat} : SameD n (.rf i) (.rf i)
  | pd {n : Nat} {d : D} {p : PyData} : toPD d = some p → p.canLay0 = true → p.depth + 1 ≤ n → SameD n d d
  | tup {n : Nat} {xs ys : List D} : SameDs n xs ys → SameD (n + 1) (.tup xs) (.tup ys)
  | lst {n : Nat} {xs ys : List D} : SameDs n xs ys → SameD (n + 1) (.lst xs) (.lst ys)
inductive SameDs : Nat → List D → List D → Prop
  | nil {n : Nat} : SameDs n [] []
  | cons {n : Nat} {x y : D} {xs ys : List D} : SameD n x y → SameDs n xs ys → SameDs n (x :: xs) (y :: ys)
end
section
variable {K : PySem.W.Frag} {G : Gh} {S H : Hp}
mutual
theorem same_eqV (h : Same S H) : ∀ {n : Nat} {d e : D} {x y : V}, SameD n d e → Rep K G S x d → Rep K G S y e → EqV K H n x y
  | _, _, _, x, y, .rf, r1, r2 => by
    cases r1 with
    | rf e1 =>
      cases r2 with
      | rf e2 =>
        rw [e1] at e2
        cases e2
        exact .ref
  | _, _, _, x, y, .pd hp hc hd, r1, r2 => .dp (rep_dp h r1 hp) (rep_dp h r2 hp) hc hd
  | _, _, _, x, y, .tup t, r1, r2 => by
    cases r1 with
    | tup e1 q1 =>
      cases r2 with
      | tup e2 q2 => exact .tup (sqT_up h e1) (sqT_up h e2) (sames_eqV h t q1 q2)
  | _, _, _, x, y, .lst t, r1, r2 => by
    cases r1 with
    | lst e1 q1 =>
      cases r2 with
      | lst e2 q2 => exact .lst (.inl (.inl (h _ _ e1))) (.inl (.inl (h _ _ e2))) (sames_eqV h t q1 q2)
theorem sames_eqV (h : Same S H) : ∀ {n : Nat} {ds es : List D} {xs ys : List V}, SameDs n ds es → RepAll K G S xs ds → RepAll K G S ys es → EqVs K H n xs ys
  | _, _, _, xs, ys, .nil, r1, r2 => by
    cases r1
    cases r2
    exact .nil
  | _, _, _, xs, ys, .cons a t, r1, r2 => by
    cases r1 with
    | cons a1 b1 =>
      cases r2 with
      | cons a2 b2 => exact .cons (same_eqV h a a1 a2) (sames_eqV h t b1 b2)
end
end
def eqSD : F2 := fun x y w k => match x, y with
  | .tup xs, .tup ys => (∃ n, n ≤ 60 ∧ SameDs n xs ys) ∧ k (.bl true) w
  | _, _ => False
section
variable {X : Cx} {E : XK} {a b : Expr} {ga gb : GE} {pos : Pos} {kk : Nat} (hr : Room kk X.A)
include hr
end
end DL

namespace DL
open PySem PySem.Spec PyProof.Rows L2 RZ
def SqB (b : Bool) (K : PySem.W.Frag) (H : Hp) (a : Addr) (xs : List V) : Prop := match b with | true => SqT K H a xs | false => SqL K H a xs
def IterB (b : Bool) (h : Heap) (i a : Addr) (k : Nat) : Prop := match b with | true => h.IsTupleIter i a k | false => h.IsListIter i a k
def IsB (b : Bool) (h : Heap) (a : Addr) (vs : Array Value) : Prop := match b with | true => h.IsTuple a vs | false => h.IsList a vs
theorem IterB.at {b : Bool} {h h' : Heap} {i a : Addr} {k : Nat} (t : IterB b h i a k) (g : ∀ o, h.get? i = some o → h'.get? i = some o) : IterB b h' i a k := by
  cases b
  · exact Heap.IsListIter.at t g
  · exact Heap.IsTupleIter.at t g
theorem IterB.obj {b : Bool} {h : Heap} {i a : Addr} {k : Nat} (t : IterB b h i a k) : ∃ o, h.get? i = some o ∧ ∀ v, o.data ≠ .cell v := by
  cases b
  · obtain ⟨o, e, _, d⟩ := t
    exact ⟨o, e, fun v q => by rw [d] at q; cases q⟩
  · obtain ⟨o, e, _, d⟩ := t
    exact ⟨o, e, fun v q => by rw [d] at q; cases q⟩
theorem IsB.lt {b : Bool} {h : Heap} {a : Addr} {vs : Array Value} (t : IsB b h a vs) : a < h.objs.size := by
  cases b
  · obtain ⟨o, e, _⟩ := t
    exact Heap.lt_size e
  · obtain ⟨o, e, _⟩ := t
    exact Heap.lt_size e
theorem IsB.push {b : Bool} {h : Heap} {a : Addr} {vs : Array Value} (t : IsB b h a vs) (o : Obj) : IsB b (h.push o) a vs := by
  cases b
  · exact Heap.IsList.push t o
  · exact Heap.IsTuple.push t o
section
variable {X : Cx} {pins : List (Addr × Obj)} {σ : L2.St} {H : Hp} {s : Shared} {a : Addr} {xs ys : List V}
theorem SqB.vals {b : Bool} (I : Inv X pins σ H s) (h : SqB b X.K H a xs) : ∃ its, Vals xs its ∧ IsB b s.heap a its.toArray := by
  cases b
  · obtain ⟨its, rv, p, _⟩ := I.list h
    exact ⟨its, rv, p.isList⟩
  · obtain ⟨its, rv, p, _⟩ := I.tuple h
    exact ⟨its, rv, p⟩
theorem SqB.inj {b : Bool} (I : Inv X pins σ H s) (h : SqB b X.K H a xs) (h' : SqB b X.K H a ys) : xs = ys := by
  cases b
  · exact I.list_inj h h'
  · exact I.tuple_inj h h'
end
theorem drawsB {prog : Program} {w : World} {A : Around} (hh : A.handled = none) (b : Bool) (it l : Addr) (hne : l ≠ it) (items : Array Value) :
    Draws prog w A it [it, l] items.size (fun i v => items[i]? = some v) (fun i h => IterB b h it l i ∧ IsB b h l items) := by
  cases b
  · exact Draws.list hh it l hne items
  · exact Draws.tuple hh it l hne items
def ItzM (b c : Bool) (K : PySem.W.Frag) (a d : Addr) : It :=
  ⟨fun i H => ∃ (xs ys : List V) (x y : V), SqB b K H a xs ∧ SqB c K H d ys ∧ xs[i]? = some x ∧ ys[i]? = some y,
    fun i H v H' => ∃ T x y, v = .ref T ∧ H T = none ∧ H' = upd H T (.tup [x, y]) ∧ (∀ xs, SqB b K H a xs → xs[i]? = some x) ∧ ∀ ys, SqB c K H d ys → ys[i]? = some y,
    fun i H => ∃ xs ys : List V, SqB b K H a xs ∧ SqB c K H d ys ∧ i ≤ xs.length ∧ i ≤ ys.length ∧ (i = xs.length ∨ i = ys.length)⟩
theorem sep_of {z TI TO i1 i2 a d : Addr} (D : ZipApart z TI TO i1 i2 a d) : ZipSep2 z TI TO i1 i2 [i1, a] [i2, d] where
  TIz := D.TIz
  TOz := D.TOz
  TITO := D.TITO
  TIi1 := D.TIi1
  mem1 := by simp
  zf1 := by simp [D.i1z.symm, D.l1z.symm]
  Tf1 := by simp [D.TOi1, D.l1TO.symm]
  TIi2 := D.TIi2
  mem2 := by simp
  zf2 := by simp [D.i2z.symm, D.l2z.symm]
  Tf2 := by simp [D.TOi2, D.l2TO.symm]
  sep1_2 := by simp [D.i12, D.l2i1.symm]
  sep2_1 := by simp [D.i12.symm, D.l1i2.symm]
theorem turn_zipM {P : Program} {w : World} {K : PySem.W.Frag} {elts : List Expr} {kk : Nat} {tpos : Pos} (b c : Bool) {a d z TI TO i1 i2 : Addr} (D : ZipApart z TI TO i1 i2 a d) :
    Turn P w K (.Tuple elts kk tpos) (ItzM b c K a d) [z, TI, TO, i1, i2] z (fun i h => IsZip h z TI TO .none ∧ IsPair h TI (.ref i1) (.ref i2) ∧ (∃ x y, IsPair h TO x y) ∧ IterB b h i1 a i ∧ IterB c h i2 d i) where
  mem := by simp
  obj := fun i h st e he => by
    obtain ⟨hz, hTI, ⟨x, y, hTO⟩, h1, h2⟩ := st
    simp only [List.mem_cons, List.not_mem_nil, or_false] at he
    rcases he with rfl | rfl | rfl | rfl | rfl
    · exact ⟨_, hz, fun v q => nomatch q⟩
    · exact ⟨_, hTI, fun v q => nomatch q⟩
    · exact ⟨_, hTO, fun v q => nomatch q⟩
    · exact h1.obj
    · exact h2.obj
  keep := fun i h h' st k => by
    obtain ⟨hz, hTI, ⟨x, y, hTO⟩, h1, h2⟩ := st
    exact ⟨k z (by simp) _ hz, k TI (by simp) _ hTI, ⟨x, y, k TO (by simp) _ hTO⟩, h1.at fun o q => k i1 (by simp) o q, h2.at fun o q => k i2 (by simp) o q⟩
  item := by
    intro X hP hw hK hc i pins s σ H E I hf st hg
    subst hP hw hK
    obtain ⟨hz, hTI, ⟨x0, y0, hTO⟩, h1, h2⟩ := st
    obtain ⟨xs, ys, x, y, hqx, hqy, hx, hy⟩ := hg
    obtain ⟨its, rv, p⟩ := SqB.vals I hqx
    obtain ⟨its2, rv2, p2⟩ := SqB.vals I hqy
    obtain ⟨u, hu, ru⟩ := rv.get hx
    obtain ⟨u2, hu2, ru2⟩ := rv2.get hy
    have hh := I.ok.hd hc
    have hzl : z < s.heap.objs.size := Heap.lt_size hz
    have lt1 : i < its.toArray.size := by simpa using (List.getElem?_eq_some_iff.mp hu).1
    have lt2 : i < its2.toArray.size := by simpa using (List.getElem?_eq_some_iff.mp hu2).1
    refine wpAny_pyNext_zipD2_item (sep_of D) (drawsB (A := X.A.in1) hh b i1 a D.l1i1 its.toArray) (drawsB (A := X.A.in1) hh c i2 d D.l2i2 its2.toArray) hz hTI hTO ⟨h1, p⟩ ⟨h2, p2⟩ lt1 lt2 fun v1 v2 h' tk y1 y2 z' TO' s1' s2' hT hsz hk => ?_
    have e1 : v1 = u := by
      rw [List.getElem?_toArray, hu] at y1
      exact (Option.some.inj y1).symm
    have e2 : v2 = u2 := by
      rw [List.getElem?_toArray, hu2] at y2
      exact (Option.some.inj y2).symm
    subst e1
    subst e2
    refine ⟨_, rfl, wpAny_letOwnedTupleGo_zip (s := { s with heap := h', toks := tk }) z' fun h'' z'' sb => ?_⟩
    have hT2 : h''.get? s.heap.objs.size = some { cls := .type "tuple", data := .seq #[v1, v2] } := (sb.2 _ (Nat.ne_of_gt hzl)).trans hT
    have new : ObjOk X.prog X.w (upd H s.heap.objs.size (.tup [x, y])) h'' s.heap.objs.size (.tup [x, y]) :=
      ⟨by show 2 ≤ sizeLine; decide, [v1, v2], .cons ru (.cons ru2 .nil), ⟨_, hT2, rfl, _, rfl⟩⟩
    have off : ∀ e, e ∉ [z, TI, TO, i1, i2] → e ≠ z ∧ e ≠ TI ∧ e ≠ TO ∧ e ≠ i1 ∧ e ≠ i2 := fun e he => by
      simpa only [List.mem_cons, List.not_mem_nil, or_false, not_or] using he
    have I1 : Inv X pins σ (upd H s.heap.objs.size (.tup [x, y])) { s with heap := h'', toks := tk } :=
      I.turnedNew (t' := tk) (ch := [z, TI, TO, i1, i2]) (fun e o hb q => (sb.2 e (off e hb).1).trans (hk e o (off e hb).1 (off e hb).2.2.1 (off e hb).2.2.2.1 (off e hb).2.2.2.2 q)) hf (Nat.le_refl _) new
    refine ⟨.ref s.heap.objs.size, _, I1, rfl, ⟨_, x, y, rfl, I.hok.fresh (Nat.le_refl _), rfl, fun l hl => by rw [SqB.inj I hl hqx]; exact hx, fun l hl => by rw [SqB.inj I hl hqy]; exact hy⟩, ⟨z'', ?_, ⟨v1, v2, ?_⟩, ?_, ?_⟩, fun e hem => ?_⟩
    · exact (sb.2 _ D.TIz).trans (hk _ _ D.TIz D.TITO D.TIi1 D.TIi2 hTI)
    · exact (sb.2 _ D.TOz).trans TO'
    · exact s1'.1.at fun o q => (sb.2 _ D.i1z).trans q
    · exact s2'.1.at fun o q => (sb.2 _ D.i2z).trans q
    · obtain ⟨o1, q1, _⟩ := h1.obj
      obtain ⟨o2, q2, _⟩ := h2.obj
      have hlt : e < s.heap.objs.size := by
        simp only [List.mem_cons, List.not_mem_nil, or_false] at hem
        rcases hem with rfl | rfl | rfl | rfl | rfl
        · exact hzl
        · exact Heap.lt_size hTI
        · exact Heap.lt_size hTO
        · exact Heap.lt_size q1
        · exact Heap.lt_size q2
      rw [upd_ne (Nat.ne_of_lt hlt)]
      exact (hf e hem).1
  done := by
    intro X hP hw hK hc i pins s σ H E I hf st hg
    subst hP hw hK
    obtain ⟨hz, hTI, ⟨x0, y0, hTO⟩, h1, h2⟩ := st
    obtain ⟨xs, ys, hqx, hqy, l1, l2, hend⟩ := hg
    obtain ⟨its, rv, p⟩ := SqB.vals I hqx
    obtain ⟨its2, rv2, p2⟩ := SqB.vals I hqy
    have e1 : its.toArray.size = xs.length := by simpa using rv.length.symm
    have e2 : its2.toArray.size = ys.length := by simpa using rv2.length.symm
    have hh := I.ok.hd hc
    have off : ∀ e, e ∉ [z, TI, TO, i1, i2] → e ≠ z ∧ e ≠ TI ∧ e ≠ TO ∧ e ≠ i1 ∧ e ≠ i2 := fun e he => by
      simpa only [List.mem_cons, List.not_mem_nil, or_false, not_or] using he
    exact wpAny_pyNext_zipD2_end (sep_of D) (drawsB (A := X.A.in1) hh b i1 a D.l1i1 its.toArray) (drawsB (A := X.A.in1) hh c i2 d D.l2i2 its2.toArray) hz hTI hTO ⟨h1, p⟩ ⟨h2, p2⟩ (by rw [e1]; exact l1) (by rw [e2]; exact l2) (by rw [e1, e2]; exact hend) fun h' tk hk =>
      ⟨rfl, I.turnedL (t' := tk) (ch := [z, TI, TO, i1, i2]) (fun e o hb q => hk e o (off e hb).1 (off e hb).2.2.1 (off e hb).2.2.2.1 (off e hb).2.2.2.2 q) hf⟩
  self := fun A i s Q E st h => wpAny_pyIter_zip st.1 h
def iterO (b : Bool) (a : Addr) : Obj := { cls := .type (match b with | true => "tuple_iterator" | false => "list_iterator"), data := .fields #[.ref a, .int 0 0] }
section
variable {prog : Program} {w : World} {A : Around} {E : Value → Shared → Prop} {s : Shared}
theorem iter_B {b : Bool} {t : Addr} {items : Array Value} {Q : Value → Shared → Prop} (ht : IsB b s.heap t items) (hQ : Q (.ref s.heap.objs.size) { s with heap := s.heap.push (iterO b t) }) : wpAny (model prog w) A (pyIter (.ref t)) Q E s := by
  cases b
  · exact wpAny_pyIter_list ht hQ
  · exact wpAny_pyIter_tuple ht hQ
theorem iterO_at {b : Bool} {h : Heap} {i t : Addr} (e : h.get? i = some (iterO b t)) : IterB b h i t 0 := by
  cases b
  · exact ⟨_, e, rfl, rfl⟩
  · exact ⟨_, e, rfl, rfl⟩
abbrev zmH1 (b : Bool) (h : Heap) (a : Addr) : Heap := h.push (iterO b a)
abbrev zmH2 (b c : Bool) (h : Heap) (a d : Addr) : Heap := (zmH1 b h a).push (iterO c d)
abbrev zmH3 (b c : Bool) (h : Heap) (a d : Addr) : Heap := (zmH2 b c h a d).push { cls := .type "tuple", data := .seq #[.ref h.objs.size, .ref (zmH1 b h a).objs.size] }
abbrev zmH4 (b c : Bool) (h : Heap) (a d : Addr) : Heap := (zmH3 b c h a d).push { cls := .type "tuple", data := .seq #[.none, .none] }
abbrev zmH5 (b c : Bool) (h : Heap) (a d : Addr) : Heap := (zmH4 b c h a d).push { cls := .type "zip", data := .fields #[.none, .bool false, .bool false, .ref (zmH2 b c h a d).objs.size, .ref (zmH3 b c h a d).objs.size] }
theorem meets_zipM (b c : Bool) (a d : Addr) (xs ys : Array Value) :
    Meets (Builtin.«zip.__new__» ⟨[.type "zip", .ref a, .ref d], []⟩) (fun _ R s => IsB b s.heap a xs ∧ IsB c s.heap d ys ∧
      R (.ok (.ret (.ref (zmH4 b c s.heap a d).objs.size))) { s with heap := zmH5 b c s.heap a d }) :=
  .of_wp fun prog w A R s h => by
    obtain ⟨hp, g, dr, tk, os⟩ := s; obtain ⟨hl1, hl2, h⟩ := h
    have hsub := sub_zip
    have hL1 : IsB b (Shared.heap ⟨hp, g, dr, tk, os⟩) a xs := hl1
    have hL2 : IsB c (Shared.heap ⟨hp.push (iterO b a), g, dr, tk, os⟩) d ys := IsB.push hl2 _
    wp_walk using iter_B hL1, iter_B hL2
    exact ⟨_, rfl, h⟩
theorem call_zipM (b c : Bool) {a d : Addr} {xs ys : Array Value} {Q : Value → Shared → Prop} (hl1 : IsB b s.heap a xs) (hl2 : IsB c s.heap d ys)
    (h : ∀ h', IsZip h' (s.heap.objs.size + 4) (s.heap.objs.size + 2) (s.heap.objs.size + 3) .none → IsPair h' (s.heap.objs.size + 2) (.ref s.heap.objs.size) (.ref (s.heap.objs.size + 1)) →
      IsPair h' (s.heap.objs.size + 3) .none .none → IterB b h' s.heap.objs.size a 0 → IterB c h' (s.heap.objs.size + 1) d 0 → (∀ e o, s.heap.get? e = some o → h'.get? e = some o) → Q (.ref (s.heap.objs.size + 4)) { s with heap := h' }) :
    wpAny (model prog w) A (call (.type "zip") [.ref a, .ref d]) Q E s := by
  refine callType_new F.called_zip (by decide) (F.typeCall_zip_2 _ _) (F.newCall_zip_2 _ _) (fun obj => F.args_object_init_3 obj _ _) F.entry_zip_new (meets_zipM b c a d xs ys) ⟨hl1, hl2, ?_⟩
  have z1 : (zmH1 b s.heap a).objs.size = s.heap.objs.size + 1 := Heap.size_push ..
  have z2 : (zmH2 b c s.heap a d).objs.size = s.heap.objs.size + 2 := by rw [Heap.size_push, z1]
  have z3 : (zmH3 b c s.heap a d).objs.size = s.heap.objs.size + 3 := by rw [Heap.size_push, z2]
  have z4 : (zmH4 b c s.heap a d).objs.size = s.heap.objs.size + 4 := by rw [Heap.size_push, z3]
  have up : ∀ {h : Heap} {o : Obj} {e : Addr} {u : Obj}, h.get? e = some u → (h.push o).get? e = some u := fun q => Heap.get?_push_of_some _ q
  have g5 : (zmH5 b c s.heap a d).get? (zmH4 b c s.heap a d).objs.size = some _ := Heap.get?_push_size _ rfl
  have g4 : (zmH5 b c s.heap a d).get? (zmH3 b c s.heap a d).objs.size = some _ := up (Heap.get?_push_size _ rfl)
  have g3 : (zmH5 b c s.heap a d).get? (zmH2 b c s.heap a d).objs.size = some _ := up (up (Heap.get?_push_size _ rfl))
  have g2 : (zmH5 b c s.heap a d).get? (zmH1 b s.heap a).objs.size = some (iterO c d) := up (up (up (Heap.get?_push_size _ (by cases c <;> rfl))))
  have g1 : (zmH5 b c s.heap a d).get? s.heap.objs.size = some (iterO b a) := up (up (up (up (Heap.get?_push_size _ (by cases b <;> rfl)))))
  show _ ∧ _
  rw [z2, z3, z4] at g5
  rw [z1, z2] at g3
  rw [z3] at g4
  rw [z1] at g2
  rw [z4]
  exact ⟨⟨_, g5, rfl⟩, h _ g5 g3 g4 (iterO_at g1) (iterO_at g2) fun e o x => up (up (up (up (up x))))⟩
end
def iZipM (b c : Bool) (K : PySem.W.Frag) (ta : TA) : TI := fun σ H R => ta σ H fun vs H1 => ∃ a d xs ys, vs = [.ref a, .ref d] ∧ SqB b K H1 a xs ∧ SqB c K H1 d ys ∧ R (ItzM b c K a d) H1
theorem pi_zipM (b c : Bool) {X : Cx} {e e2 : Expr} {ta : TA} {p pos tpos : Pos} {elts : List Expr} {kk : Nat} (hg : Gl X "zip") (hm : X.mg "zip" = none) (ha : PA X [e, e2] ta)
    (hs : starEach [e, e2] X.env = (false, eval e X.env) :: starEach [e2] X.env := by rfl) (hpl : (backTo pos (starEach [e2] X.env)).any (·.1) = false := by rfl) :
    PI X (.Tuple elts kk tpos) (.Call (.Name "zip" p) [e, e2] [] pos) (iZipM b c X.K ta) := by
  refine ⟨fun pins s σ H R I h => ?_⟩
  refine Call_ (ld_blt I hg hm PyProof.Rows.boot_zip (PyProof.Rows.callWith_type1 (thn (ha.run pos pins s σ H _ I h) fun us s1 ⟨vs, H1, I1, r1, q1⟩ => ?_) hs hpl))
  obtain ⟨a, d, xs, ys, ex, hqx, hqy, q⟩ := q1
  subst ex
  cases r1 with
  | cons r rr =>
    cases rr with
    | cons r' rr =>
      cases rr
      cases r
      cases r'
      obtain ⟨its, rv, p1⟩ := SqB.vals I1 hqx
      obtain ⟨its2, rv2, p2⟩ := SqB.vals I1 hqy
      refine call_zipM b c p1 p2 fun h' hz hTI hTO h1 h2 hk => wpAny_pyIter_zip hz ?_
      have I2 : Inv X pins σ H1 { s1 with heap := h' } := I1.kept (t' := s1.toks) hk
      refine ⟨s1.heap.objs.size + 4, [s1.heap.objs.size + 4, s1.heap.objs.size + 2, s1.heap.objs.size + 3, s1.heap.objs.size, s1.heap.objs.size + 1], _, _, H1, rfl, I2, turn_zipM b c (PySem.W.ktu_apart s1.heap.objs.size a d p1.lt p2.lt), ⟨hz, hTI, ⟨_, _, hTO⟩, h1, h2⟩, fun e hem => ?_, q⟩
      have hle : s1.heap.objs.size ≤ e := by
        simp only [List.mem_cons, List.not_mem_nil, or_false] at hem
        rcases hem with rfl | rfl | rfl | rfl | rfl <;> omega
      exact I1.fpOk hle (I1.hok.fresh hle)
def seqB : Bool → List D → D
  | true, xs => .tup xs
  | false, xs => .lst xs
def giZipM (b c : Bool) (ga : GA) : GI := fun ρ w kx k => ga ρ w kx fun ds w1 => ∃ xs ys, ds = [seqB b xs, seqB c ys] ∧ k (zipD xs ys) (fun _ => True) w1
theorem rep_seqB {K : PySem.W.Frag} {G : Gh} {S : Hp} {b : Bool} {v : V} {ds : List D} (r : Rep K G S v (seqB b ds)) : ∃ a xs, v = .ref a ∧ SqB b K S a xs ∧ RepAll K G S xs ds := by
  cases b
  · cases r with
    | lst e q => exact ⟨_, _, rfl, .inl (.inl e), q⟩
  · cases r with
    | tup e q => exact ⟨_, _, rfl, e, q⟩
theorem sqB_up {K : PySem.W.Frag} {H H' : Hp} {b : Bool} (e : ∀ b o, H b = some o → H' b = some o) {a : Addr} {xs : List V} (h : SqB b K H a xs) : SqB b K H' a xs := by
  cases b
  · unfold SqB SqL at h ⊢
    rcases h with (h | ⟨o, h⟩) | h
    · exact .inl (.inl (e _ _ h))
    · exact .inl (.inr ⟨o, e _ _ h⟩)
    · exact .inr h
  · exact sqT_up e h
theorem iter_zipM {K : PySem.W.Frag} {G : Gh} {S : Hp} (b c : Bool) {a d : Addr} {xs ys : List V} {ds es : List D} (e1 : SqB b K S a xs) (e2 : SqB c K S d ys) (r1 : RepAll K G S xs ds) (r2 : RepAll K G S ys es) : IterOk K (ItzM b c K a d) (zipD ds es) (fun _ => True) G S := by
  intro i G1 S1 w1 H1 x1 hr1 _
  have q1 : SqB b K H1 a xs := sqB_up hr1.same (sqB_up x1.same e1)
  have q2 : SqB c K H1 d ys := sqB_up hr1.same (sqB_up x1.same e2)
  refine ⟨fun d hd => ?_, fun hl => ⟨xs, ys, q1, q2, ?_⟩⟩
  · obtain ⟨d1, d2, g1, g2, rfl⟩ := zip_get hd
    obtain ⟨v1, h1, h2⟩ := r1.get g1
    obtain ⟨v2, h3, h4⟩ := r2.get g2
    refine ⟨⟨xs, ys, v1, v2, q1, q2, h1, h3⟩, fun x H2 y => ?_⟩
    obtain ⟨T, u1, u2, rfl, hT, rfl, y1, y2⟩ := y
    have z1 := y1 xs q1
    have z2 := y2 ys q2
    rw [h1] at z1
    rw [h3] at z2
    cases z1
    cases z2
    exact zip_new hr1 hT (h2.mono x1) (h4.mono x1)
  · have l : min ds.length es.length = i := by
      rw [← hl]
      unfold zipD
      rw [List.length_zipWith]
    rw [r1.length, r2.length]
    omega
section
variable {X : Cx} {E : XK}
theorem di_zipM (b c : Bool) {e e2 : Expr} {ga : GA} {p pos tpos : Pos} {elts : List Expr} {kk : Nat} (B : Blt X.mg) (hg : Gl X "zip") (ha : DA X E [e, e2] ga)
    (hs : starEach [e, e2] X.env = (false, eval e X.env) :: starEach [e2] X.env := by rfl) (hpl : (backTo pos (starEach [e2] X.env)).any (·.1) = false := by rfl) :
    DI X E (.Tuple elts kk tpos) (.Call (.Name "zip" p) [e, e2] [] pos) (giZipM b c ga) := pi_imp (pi_zipM b c hg B.zip_ ha hs hpl) (by
  rintro σ H R ⟨G, S, ρ, w, kx, k, hr, sr, xl, kl, h⟩
  refine ⟨G, S, ρ, w, kx, _, hr, sr, xl, fun G1 S1 H1 w1 ds vs x1 hr1 rp h1 => ?_, h⟩
  obtain ⟨xs, ys, rfl, h2⟩ := h1
  obtain ⟨v, u, rfl, r1, r2⟩ := two_rep rp
  obtain ⟨a, as, rfl, s1, q1⟩ := rep_seqB r1
  obtain ⟨d, bs, rfl, s2, q2⟩ := rep_seqB r2
  exact ⟨a, d, as, bs, rfl, sqB_up hr1.same s1, sqB_up hr1.same s2, kl _ _ _ _ _ _ _ x1 hr1 (iter_zipM b c s1 s2 q1 q2) h2⟩)
def giZipA (ga : GA) : GI := fun ρ w kx k => ∃ b c, giZipM b c ga ρ w kx k
theorem di_zipA {e e2 : Expr} {ga : GA} {p pos tpos : Pos} {elts : List Expr} {kk : Nat} (B : Blt X.mg) (hg : Gl X "zip") (ha : DA X E [e, e2] ga)
    (hs : starEach [e, e2] X.env = (false, eval e X.env) :: starEach [e2] X.env := by rfl) (hpl : (backTo pos (starEach [e2] X.env)).any (·.1) = false := by rfl) :
    DI X E (.Tuple elts kk tpos) (.Call (.Name "zip" p) [e, e2] [] pos) (giZipA ga) := by
  refine ⟨fun pins s σ H R I h => ?_⟩
  obtain ⟨G, S, ρ, w, kx, k, hr, sr, xl, kl, b, c, h⟩ := h
  exact (di_zipM b c B hg ha hs hpl).run pins s σ H R I ⟨G, S, ρ, w, kx, k, hr, sr, xl, kl, h⟩
end
end DL

namespace DL
open PySem PySem.Spec PyProof.Rows L2 RZ
def notinSD : F2 := fun x y w k => match x, y with
  | .str s, .str z => ∃ c, s = ⟨#[c]⟩ ∧ k (.bl (!decide (c ∈ z.cps.toList))) w
  | _, _ => False
section
variable {X : Cx} {E : XK} {a b : Expr} {ga gb : GE} {pos : Pos}
end
end DL

namespace DL
open PySem PySem.Spec PyProof.Rows L2 RZ
mutual
def fitD : D → Bool
  | .non => true
  | .bl _ => true
  | .int i => decide (i.natAbs < 2 ^ 150)
  | .str s => decide (s.length ≤ 150)
  | .lst xs => fitDs xs
  | .tup xs => fitDs xs
  | _ => false
def fitDs : List D → Bool
  | [] => true
  | x :: xs => fitD x && fitDs xs
end
mutual
def szD : D → Nat
  | .lst xs => 1 + szDs xs
  | .tup xs => 1 + szDs xs
  | _ => 1
def szDs : List D → Nat
  | [] => 0
  | x :: xs => szD x + szDs xs
end
def shownD (d : D) : Str := match toPD d with
  | some p => p.shown
  | none => Str.empty
theorem log_150 {i : Int} (h : i.natAbs < 2 ^ 150) : i.natAbs.log2 < 150 := by
  by_cases z : i.natAbs = 0
  · rw [z]
    decide
  · exact (Nat.log2_lt z).mpr h
theorem shown_150 {i : Int} (h : i.natAbs < 2 ^ 150) : (PyData.shown (.int i)).length ≤ 52 := by
  have e := int_text_length_le10 (k := 51) (by decide) (Nat.lt_trans h (by decide))
  show (Str.ofString (toString i)).length ≤ 52
  rw [PySem.ofString_length]
  exact e
mutual
theorem fit_facts : ∀ {d : D} {p : PyData}, fitD d = true → lay d = true → toPD d = some p → p.showable = true ∧ p.leavesShort 52 = true ∧ p.weight + 1 ≤ 151 * szD d
  | .non, _, _, _, e => by cases e; exact ⟨rfl, rfl, by simp [PyData.weight, szD]⟩
  | .bl b, _, _, _, e => by cases e; exact ⟨rfl, rfl, by simp [PyData.weight, szD]⟩
  | .int i, _, h, _, e => by
    cases e
    rw [fitD, decide_eq_true_eq] at h
    have q := log_150 h
    refine ⟨?_, ?_, ?_⟩
    · rw [PyData.showable]
      exact decide_eq_true (by omega)
    · rw [PyData.leavesShort]
      exact decide_eq_true (shown_150 h)
    · rw [PyData.weight, show szD (.int i) = 1 from rfl]
      split <;> omega
  | .str s, _, h, l, e => by
    cases e
    rw [fitD, decide_eq_true_eq] at h
    refine ⟨rfl, PyData.leavesShort_of_canLay0 52 (.str s) l rfl, ?_⟩
    rw [PyData.weight, show szD (.str s) = 1 from rfl]
    have : s.cps.size ≤ 150 := h
    omega
  | .lst xs, _, h, l, e => by
    rw [toPD] at e
    obtain ⟨ps, e1, rfl⟩ := Option.map_eq_some_iff.mp e
    rw [fitD] at h
    rw [lay] at l
    obtain ⟨h1, h2, h3⟩ := fits_facts h l e1
    refine ⟨by rw [PyData.showable]; exact h1, by rw [PyData.leavesShort]; exact h2, ?_⟩
    rw [PyData.weight, szD]
    omega
  | .tup xs, _, h, l, e => by
    rw [toPD] at e
    obtain ⟨ps, e1, rfl⟩ := Option.map_eq_some_iff.mp e
    rw [fitD] at h
    rw [lay] at l
    obtain ⟨h1, h2, h3⟩ := fits_facts h l e1
    refine ⟨by rw [PyData.showable]; exact h1, by rw [PyData.leavesShort]; exact h2, ?_⟩
    rw [PyData.weight, szD]
    omega
  | .rf _, _, h, _, _ => by cases h
  | .st, _, h, _, _ => by cases h
  | .ob _, _, h, _, _ => by cases h
  | .scr _, _, h, _, _ => by cases h
theorem fits_facts : ∀ {ds : List D} {ps : List PyData}, fitDs ds = true → lays ds = true → toPDs ds = some ps → PyData.showableAll ps = true ∧ PyData.leavesShortAll 52 ps = true ∧ PyData.weightAll ps ≤ 151 * szDs ds
  | [], _, _, _, e => by cases e; exact ⟨rfl, rfl, by simp [PyData.weightAll, szDs]⟩
  | x :: xs, _, h, l, e => by
    rw [toPDs] at e
    split at e
    · rename_i p ps e1 e2
      cases e
      rw [fitDs, Bool.and_eq_true] at h
      rw [lays, Bool.and_eq_true] at l
      obtain ⟨a1, a2, a3⟩ := fit_facts h.1 l.1 e1
      obtain ⟨b1, b2, b3⟩ := fits_facts h.2 l.2 e2
      refine ⟨by rw [PyData.showableAll, a1, b1]; rfl, by rw [PyData.leavesShortAll, a2, b2]; rfl, ?_⟩
      rw [PyData.weightAll, szDs]
      omega
    · cases e
end
def rStrP (K : PySem.W.Frag) : List V → Hp → VK → Prop := fun xs H Q => ∃ a p, xs = [.ref a] ∧ Dp K H (.ref a) p ∧ p.canLay0 = true ∧ p.showable = true ∧ p.depth ≤ 20 ∧ p.shown.length ≤ sizeLine ∧ Q (.str p.shown) H
theorem call_strP {X : Cx} (quiet : X.A.guards = some []) (room : X.A.units + 64 < cLine) : CallR X (.type "str") (rStrP X.K) := by
  intro pins s σ H xs us Q I r h
  obtain ⟨a, p, rfl, hd, hc, hs, hp, hz, q⟩ := h
  obtain ⟨u, rfl, ru⟩ := vals1 r
  obtain ⟨as, R⟩ := Dp.reads I p _ u hd ru
  have ru : u = Value.ref a := ru
  subst ru
  exact str_of_reads R hs (PyData.noDict_hsm (PyData.hasDict_of_canLay p hc)) quiet (by omega) (fun _ _ h => h) (fun h' u tk k => ⟨.str _, H, I.kept k, ⟨_, rfl⟩, q⟩) hz
def isSeqD : D → Bool
  | .lst _ => true
  | .tup _ => true
  | _ => false
def fStrP : FB := fun ds w k => match ds with
  | [d] => (isSeqD d = true ∧ lay d = true ∧ fitD d = true ∧ dep d ≤ 20 ∧ szD d ≤ 1000) ∧ k (.str (shownD d)) w
  | _ => False
theorem ok_strP {K : PySem.W.Frag} : CallOk K (rStrP K) fStrP := by
  intro G S H w xs ds k Q hr rx kl h
  unfold fStrP at h
  split at h
  · rename_i d
    obtain ⟨v, rfl, r⟩ := one_rep rx
    obtain ⟨⟨h1, h2, h3, h4, h5⟩, hk⟩ := h
    obtain ⟨p, e, hc, hd⟩ := lay_pd h2
    obtain ⟨f1, f2, f3⟩ := fit_facts h3 h2 e
    have es : shownD d = p.shown := by
      unfold shownD
      rw [e]
    have hz : p.shown.length ≤ sizeLine := by
      have := PyData.shown_le 52 (by decide) p f2
      have : sizeLine = 2 ^ 24 := rfl
      omega
    have hdp := rep_dp hr.same r e
    rw [es] at hk
    cases r with
    | lst a b => exact ⟨_, p, rfl, hdp, hc, f1, by rw [hd]; exact h4, hz, kl.here hr (.str _) hk⟩
    | tup a b => exact ⟨_, p, rfl, hdp, hc, f1, by rw [hd]; exact h4, hz, kl.here hr (.str _) hk⟩
    | _ => cases h1
  · exact h.elim
section
variable {X : Cx} {E : XK} {e : Expr} {es : List Expr} {ga : GA} {p pos : Pos} {kk : Nat}
theorem de_strP (quiet : X.A.guards = some []) (hr : Room kk X.A) (hm : X.mg "str" = none) (hg : Gl X "str") (ha : DA X E (e :: es) ga) (he : starEach (e :: es) X.env = (false, eval e X.env) :: starEach es X.env := by rfl) (hpl : (backTo pos (starEach es X.env)).any (·.1) = false := by rfl) :
    DE X E (.Call (.Name "str" p) (e :: es) [] pos) (gCB fStrP ga) := de_ct (call_strP quiet hr.units) ok_strP hg hm (by decide +kernel) ha (he := he) (hpl := hpl)
end
end DL

namespace DL
open PySem PySem.Calls PySem.Spec PyProof.Rows PyProof.V L2 RZ
def keysV (p d : Addr) : HO := .ext fun h => PySem.W.KdlKeysView h p d
theorem keysV_ok {P : Program} {w : World} {H : Hp} {h : Heap} {p d : Addr} (e : h.get? p = some { cls := .type "dict_keys", data := .fields #[.ref d] }) : ObjOk P w H h p (keysV p d) :=
  ⟨⟨_, e, rfl, rfl⟩, ⟨_, e⟩, fun h1 h2 ⟨o, e1, c1, d1⟩ k => ⟨o, k _ e1, c1, d1⟩⟩
section
variable {X : Cx}
def rKeysK : V → List V → Hp → VK → Prop := fun x xs H Q => ∃ (a : Addr) (kvs : List (Key × V)), x = .ref a ∧ xs = [] ∧ H a = some (.dK kvs) ∧ ∀ p, H p = none → Q (.ref p) (upd H p (keysV p a))
theorem mt_keysK : MtR X "dict.keys" rKeysK := by
  intro pins s σ H x xs v us Q I rx rxs h
  obtain ⟨a, kvs, rfl, rfl, ha, q⟩ := h
  cases rx
  cases rxs
  obtain ⟨hz, hs0, vs, kv, hdo⟩ := I.hok a _ ha
  refine call_meetsIn PySem.F.slot_dict_keys hdo.typeIs PySem.F.entry_dict_keys (PySem.F.args_dict_keys_1 _) (PySem.W.kdl_meets_keys (mixKind X.prog X.w) a hs0) ⟨⟨vs, hdo⟩, ?_⟩
  have hf : H s.heap.objs.size = none := I.hok.fresh (Nat.le_refl _)
  exact ⟨.ref s.heap.objs.size, upd H s.heap.objs.size (keysV s.heap.objs.size a), I.laid (t' := s.toks) (fun b u e => Heap.get?_push_of_some _ e) (Nat.le_refl _) (keysV_ok (Heap.get?_push_size _ rfl)), rfl, q _ hf⟩
def rSortKsK : List V → Hp → VK → Prop := fun xs H Q => ∃ (p a : Addr) (kvs : List (Key × V)) (ks : List Str), xs = [.ref p] ∧ H p = some (keysV p a) ∧ H a = some (.dK kvs) ∧ kvs.map (·.1) = ks.map Sum.inr ∧ ks.length < 64 ∧
  ∀ (ys : List Str) (l : Addr), ys.Perm ks → sortedS ys = true → H l = none → Q (.ref l) (upd H l (.lst (ys.map V.str)))
theorem cr_sortKsK (hc : X.calm = true) : CallR X (.builtin "sorted") rSortKsK := by
  intro pins s σ H xs us Q I rx h
  obtain ⟨p, a, kvs, ks, rfl, hp, ha, hks, h64, q⟩ := h
  obtain rfl := Vals.ref1 rx
  have view : PySem.W.KdlKeysView s.heap p a := (show ObjOk X.prog X.w H s.heap p (keysV p a) from I.hok p _ hp).1
  obtain ⟨hz, lo, vs, rel, dd⟩ := I.hok a _ ha
  obtain ⟨ep, hat⟩ := dd.dictAt
  have hkeys : vs.map (·.1) = ks.map Sum.inr := rel.keys.symm.trans hks
  have hl : vs.length = ks.length := by
    have e := congrArg List.length hkeys
    rw [List.length_map, List.length_map] at e
    exact e
  refine call_function_entry kind_sorted plain_sorted entry_sorted (args_sorted1 _) ?_
  unfold Builtin.«sorted»
  refine wpAny_bind (m := checkCount "sorted" 1 1 _) (wpAny_pure ?_)
  refine wpAny_bind (PySem.W.kdu_collect (A := X.A.in1) (PySem.W.kdl_keys (r := p) (knd := mixKind X.prog X.w) (kvs := vs) (ep := ep)) (I.ok.hd hc) ⟨view, hat⟩ (by rw [hl, sizeLine_eq]; omega) fun h' tk acc hk hacc => ?_)
  have hal : acc.toList.length = ks.length := by rw [Array.length_toList, hacc.1, hl]
  have hS : StrsAre acc.toList ks := strs_at hal fun j v e => by
    obtain ⟨k, x, e1, e2⟩ := hacc.2 j v (by rw [← Array.getElem?_toList]; exact e)
    have e3 : (vs.map (·.1))[j]? = some k := by rw [List.getElem?_map, e1]; rfl
    rw [hkeys, List.getElem?_map] at e3
    cases e4 : ks[j]? with
    | none => rw [e4] at e3; cases e3
    | some y =>
      rw [e4] at e3
      have e5 : Sum.inr y = k := Option.some.inj e3
      subst e5
      obtain ⟨t, ev⟩ := Value.isStrOf_shape (x := y) (v := v) e2
      exact ⟨y, t, rfl, ev⟩
  have I1 : Inv X pins σ H { s with heap := h', toks := tk } := I.kept hk
  refine wpAny_bind (wpAny_newList ?_ (by rw [hal, sizeLine_eq]; omega))
  have hoL : (h'.push (seqObj "list" acc.toList.toArray 0)).get? h'.objs.size = some (seqObj "list" acc.toList.toArray 0) := Heap.get?_push_size _ rfl
  show wpAny _ _ _ _ _ { s with heap := h'.push (seqObj "list" acc.toList.toArray 0), toks := tk }
  refine wpAny_bind (wpAny_holding (wpAny_call_entry slot_list_sort ⟨_, hoL, rfl⟩ entry_list_sort
    (list_sort_treeK strKind_oneLt (s := { s with heap := h'.push (seqObj "list" acc.toList.toArray 0), toks := tk }) hoL hS.keysOf (fun v₁ v₂ rest e => keyKind_strs (by rw [← e]; exact hS)) (by rw [hal]; exact h64) fun st' hp hs => ⟨_, rfl, ?_⟩) (args_list_sort _)))
  obtain ⟨ys, g1, g2, g3⟩ := sorted_out_str hS hp hs
  obtain ⟨e', he'⟩ := sortedHeap_at (vs := acc.toList) (out := (arrOf st').map (·.2)) hoL
  have hlen : (ys.map V.str).length ≤ sizeLine := by
    rw [List.length_map, g2.length_eq, sizeLine_eq]
    omega
  refine wpAny_pure ⟨_, rfl, .ref h'.objs.size, upd H h'.objs.size (.lst (ys.map V.str)), I1.laid (t' := tk) (fun b u e => ?_) (Nat.le_refl _)
    (show ObjOk X.prog X.w _ _ _ (.lst (ys.map V.str)) from ⟨hlen, ((arrOf st').map (·.2)).toList, e', vals_of_strs g1, by rw [Array.toArray_toList]; exact he'⟩), rfl, q ys _ g2 g3 (I1.hok.fresh (Nat.le_refl _))⟩
  have hb : b < h'.objs.size := Heap.lt_size e
  rw [sortedHeap_old (Nat.ne_of_lt hb) (by rw [size_push']; exact Nat.lt_succ_of_lt hb)]
  exact Heap.get?_push_of_some _ e
end
def gSortKeys (go : GE) : GE := fun ρ w kx k => go ρ w kx fun x w1 => rfK x fun i => dkK i w1 fun kvs => ∃ ks : List Str, kvs.map (·.1) = ks.map Sum.inr ∧ ks.length < 64 ∧ ∀ ys : List Str, ys.Perm ks → sortedS ys = true → k (.lst (ys.map D.str)) w1
section
variable {X : Cx} {E : XK} {e : Expr} {ge : GE} {p apos cpos pos : Pos}
theorem de_sortKeys (B : Blt X.mg) (hc : X.calm = true) (hg : Gl X "sorted") (he : DE X E e ge) (hbase : attributeBase e "keys" X.env (eval e X.env) = eval e X.env := by rfl) (hline : (apos.endLine == cpos.line) = true := by rfl)
    (hs : starEach [.Call (.Attribute e "keys" apos) [] [] cpos] X.env = (false, eval (.Call (.Attribute e "keys" apos) [] [] cpos) X.env) :: starEach [] X.env := by rfl) (hpl : (backTo pos (starEach [] X.env)).any (·.1) = false := by rfl) :
    DE X E (.Call (.Name "sorted" p) [.Call (.Attribute e "keys" apos) [] [] cpos] [] pos) (gSortKeys ge) :=
  pe_imp (pe_callB (cr_sortKsK hc) hg B.sorted_ rfl (pa_cons (pe_bm0 F.plainAttrs_dict F.slot_dict_keys F.type_dict_keys mt_keysK he hbase hline) pa_nil hs) (by decide) (by decide) hs hpl) (by
  rintro σ H Q ⟨G, S, ρ, w, kx, k, hr, sr, xl, kl, h⟩
  refine ⟨G, S, ρ, w, kx, _, hr, sr, xl, fun G1 S1 H1 w1 d v x1 hr1 rp h1 => ?_, h⟩
  obtain ⟨a, i, rfl, rfl, ea, h2⟩ := rfK_rep rp h1
  obtain ⟨ds, xs, e2, hs, ha, fr, ks, h3, h4, h5⟩ := dk_get hr1 ea h2
  refine ⟨.inr (.inr (.inl ⟨rfl, .inl ⟨xs, ha⟩⟩)), a, xs, rfl, rfl, ha, fun p hp => ?_⟩
  obtain ⟨hr2, x2⟩ := hr1.newS hp (keysV p a)
  have nap : a ≠ p := fun z => by rw [z, hp] at ha; cases ha
  exact ⟨p, a, xs, ks, rfl, upd_same, by rw [upd_ne nap]; exact ha, (fs_keys fr).trans h3, h4, fun ys l g1 g2 g3 => (kl.mono (x1.trans x2)).newL hr2 (rep_strs ys) (h5 ys g1 g2) l g3⟩)
end
end DL


namespace LW
open PySem PySem.Spec PyProof.Rows L2 RZ DL
local macro_rules | `(tactic| simp! only [$xs,*] $[$loc]?) => `(tactic| simp only [$xs,*, sem0,List.map_cons,List.map_nil,List.length_cons,List.length_nil,gSeq,gNext,gRet,gRetN,gIfS,gSet,gPar,gAsg,gDrop,gVar,gC,gBin,gUn,gB,gTru,gAnd,gOr,gNot,gAndV,gOrV,gNotV,gIf,gChain,gaNil,gaCons,DL.gTup,DL.gLst,gCB,gCall0,gAug,addD_i,addD_s,addD_l,addD_t,subD_i,mulD_i,mulD_l,fdivD_i,modD_i,powD_i,ltD_i,ltD_s,leD_i,gtD_i,geD_i,isD_n,isnotD_n,isNonD_non,isNonD_bl,isNonD_int,isNonD_str,isNonD_lst,isNonD_tup,negD_i,iaddD_i,truD_non,truD_bl,truD_int,truD_str,truD_lst,truD_tup,someK_some,ixD_l,ixD_t,fAbs_i,fInt_i,fInt_b,fMin2_i,fLen_l,fLen_t,fLen_s,fList_l,fList_t,fTuple_l,fTuple_t,optBK_some,fIsi_non,fIsi_bl,fIsi_int,fIsi_str,fIsi_lst,fIsi_tup,List.getElem?_cons_zero,List.getElem?_cons_succ,List.set_cons_zero,List.set_cons_succ,DL.ggName,ggNil0,ggCons1,ggTup2,ggTup3,gFor,giSeq,gLc,gYes,wipeR,true_and,and_true,at_0,at_1,at_2,kit_int_int,kit_bool_int,kit_str_int,kit_non_int,kit_list_int,kit_tuple_int,kit_int_bool,kit_bool_bool,kit_str_bool,kit_non_bool,kit_list_bool,kit_tuple_bool,kit_int_str,kit_bool_str,kit_str_str,kit_non_str,kit_list_str,kit_tuple_str,kit_int_list,kit_bool_list,kit_str_list,kit_non_list,kit_list_list,kit_tuple_list,kit_int_tuple,kit_bool_tuple,kit_str_tuple,kit_non_tuple,kit_list_tuple,kit_tuple_tuple,eqD_i,neD_i,eqD_s,neD_s,eqD_f,neD_f,Nat.zero_add,Nat.reduceAdd,nc0,nc1,nc2,nc3,nc4,nc5,nc6,nc7,nc8,nc9,eq_self,decide_true,decide_false,Int.reduceEq,Int.reduceLT,Int.reduceLE,Int.reduceNeg,Bool.not_true,Bool.not_false,Bool.false_eq_true,if_true,if_false,↓reduceIte,false_and,and_false,List.all_cons,List.all_nil,List.any_cons,List.any_nil,id_eq,Bool.and_true,Bool.true_and,Bool.or_false,Bool.false_or,Bool.and_false,Bool.false_and,gCut,eqD_b,neD_b,giZip,reduceCtorEq,Bool.true_eq_false,Bool.false_eq_true,gRevL,gSl,goNone,goSome,slD_l,ne_eq,not_false_eq_true,not_true_eq_false,gBM,isTy_l,isTy_s,new_at,new_set,isTy_new,cellK_new,append_new,popAt_new,gFrz_eq,frzK_new,fLen_new,fTuple_new,ixD_new,slA_l,slA_t,slA_new,addTD_t,addCD_l,mulCD_l,isbD_b,isnotbD_b,mSplitC_s,gLstC,gTr,ggSub,lstK_l,lstK_r,addLD_eq] $[$loc]?)
def topS (i : Nat) : Stmt := PySem.Challenge.pw_royaltree_k75_statements_bent_in_both.main.body.getD i (.Pass ⟨0, 0, 0, 0⟩)


theorem fmod_nat (x m : Nat) : (x : Int).fmod (m : Int) = ((x % m : Nat) : Int) := by
  rw [Int.fmod_eq_emod_of_nonneg _ (by omega)]
  rfl
def sg (t b : Int) : Int := if b < 0 then -(Int.gcd t b : Int) else (Int.gcd t b : Int)
def frT (t b : Int) : Int := t / sg t b
def frB (t b : Int) : Int := b / sg t b
structure IsFr (t b p q : Int) : Prop where
  pos : 0 < q
  cop : Int.gcd p q = 1
  eq : p * b = t * q
theorem gcd_pos {t b : Int} (h : b ≠ 0) : 0 < Int.gcd t b := Int.gcd_pos_of_ne_zero_right t h
theorem sg_dvd (t b : Int) : sg t b ∣ t ∧ sg t b ∣ b := by
  unfold sg
  split
  · exact ⟨Int.neg_dvd.mpr (Int.gcd_dvd_left t b), Int.neg_dvd.mpr (Int.gcd_dvd_right t b)⟩
  · exact ⟨Int.gcd_dvd_left t b, Int.gcd_dvd_right t b⟩
theorem sg_ne {t b : Int} (h : b ≠ 0) : sg t b ≠ 0 := by
  have := gcd_pos (t := t) h
  unfold sg
  split <;> omega
theorem fr_mul (t b : Int) : frT t b * sg t b = t ∧ frB t b * sg t b = b := ⟨Int.ediv_mul_cancel (sg_dvd t b).1, Int.ediv_mul_cancel (sg_dvd t b).2⟩
theorem fr_is {t b : Int} (h : b ≠ 0) : IsFr t b (frT t b) (frB t b) := by
  obtain ⟨e1, e2⟩ := fr_mul t b
  have g0 := gcd_pos (t := t) h
  have ns := sg_ne (t := t) h
  refine ⟨?_, ?_, ?_⟩
  · by_cases hb : b < 0
    · have hs : sg t b < 0 := by
        unfold sg
        rw [if_pos hb]
        omega
      refine Int.pos_of_mul_neg_right ?_ hs |> fun z => z
      rw [Int.mul_comm, e2]
      exact hb
    · have hs : 0 < sg t b := by
        unfold sg
        rw [if_neg hb]
        omega
      refine Int.pos_of_mul_pos_right ?_ hs |> fun z => z
      rw [Int.mul_comm, e2]
      omega
  · have e : Int.gcd t b = Int.gcd (frT t b) (frB t b) * (sg t b).natAbs := by
      have q : Int.gcd (frT t b * sg t b) (frB t b * sg t b) = Int.gcd (frT t b) (frB t b) * (sg t b).natAbs := Int.gcd_mul_right _ _ _
      rw [e1, e2] at q
      exact q
    have e3 : (sg t b).natAbs = Int.gcd t b := by
      unfold sg
      split <;> omega
    rw [e3] at e
    have : Int.gcd (frT t b) (frB t b) * Int.gcd t b = 1 * Int.gcd t b := by omega
    exact Nat.eq_of_mul_eq_mul_right g0 this
  · have : frT t b * b * sg t b = t * frB t b * sg t b := by
      calc frT t b * b * sg t b = (frT t b * sg t b) * b := by ac_rfl
        _ = t * b := by rw [e1]
        _ = t * (frB t b * sg t b) := by rw [e2]
        _ = t * frB t b * sg t b := by ac_rfl
    exact Int.eq_of_mul_eq_mul_right ns this
theorem dvd_cop {q p r : Int} (h : q ∣ p * r) (c : Int.gcd q p = 1) : q ∣ r := by
  have h1 : q.natAbs ∣ p.natAbs * r.natAbs := by
    rw [← Int.natAbs_mul]
    exact Int.natAbs_dvd_natAbs.mpr h
  have c1 : Nat.Coprime q.natAbs p.natAbs := c
  exact Int.natAbs_dvd_natAbs.mp (c1.dvd_of_dvd_mul_left h1)
theorem fr_unique {t b p q p' q' : Int} (hb : b ≠ 0) (h : IsFr t b p q) (h' : IsFr t b p' q') : p = p' ∧ q = q' := by
  have c : p * q' = p' * q := by
    have : p * q' * b = p' * q * b := by
      calc p * q' * b = (p * b) * q' := by ac_rfl
        _ = t * q * q' := by rw [h.eq]
        _ = (t * q') * q := by ac_rfl
        _ = (p' * b) * q := by rw [h'.eq]
        _ = p' * q * b := by ac_rfl
    exact Int.eq_of_mul_eq_mul_right hb this
  have d1 : q ∣ q' := by
    have : q ∣ p * q' := ⟨p', by rw [c, Int.mul_comm]⟩
    exact dvd_cop this (by rw [Int.gcd_comm]; exact h.cop)
  have d2 : q' ∣ q := by
    have : q' ∣ p' * q := ⟨p, by rw [← c, Int.mul_comm]⟩
    exact dvd_cop this (by rw [Int.gcd_comm]; exact h'.cop)
  have e : q = q' := Int.dvd_antisymm (Int.le_of_lt h.pos) (Int.le_of_lt h'.pos) d1 d2
  refine ⟨?_, e⟩
  subst e
  have := h.pos
  exact Int.eq_of_mul_eq_mul_right (by omega) c
theorem fr_eq {t b p q : Int} (hb : b ≠ 0) (h : IsFr t b p q) : frT t b = p ∧ frB t b = q := fr_unique hb (fr_is hb) h
theorem IsFr.self {p q : Int} (h1 : 0 < q) (h2 : Int.gcd p q = 1) : IsFr p q p q := ⟨h1, h2, rfl⟩
theorem fr_le {t b : Int} (hb : b ≠ 0) : (frT t b).natAbs ≤ t.natAbs ∧ (frB t b).natAbs ≤ b.natAbs := by
  obtain ⟨e1, e2⟩ := fr_mul t b
  have ns := sg_ne (t := t) hb
  have h1 : 1 ≤ (sg t b).natAbs := by omega
  have f1 := congrArg Int.natAbs e1
  have f2 := congrArg Int.natAbs e2
  rw [Int.natAbs_mul] at f1 f2
  constructor
  · calc (frT t b).natAbs = (frT t b).natAbs * 1 := by omega
      _ ≤ (frT t b).natAbs * (sg t b).natAbs := Nat.mul_le_mul_left _ h1
      _ = t.natAbs := f1
  · calc (frB t b).natAbs = (frB t b).natAbs * 1 := by omega
      _ ≤ (frB t b).natAbs * (sg t b).natAbs := Nat.mul_le_mul_left _ h1
      _ = b.natAbs := f2
theorem sg_abs (t b : Int) : (sg t b).natAbs = Int.gcd t b := by
  unfold sg
  split <;> omega
theorem gcd_le {t b : Int} (hb : b ≠ 0) : Int.gcd t b ≤ b.natAbs := Nat.le_of_dvd (by omega) (Int.natAbs_dvd_natAbs.mpr (Int.gcd_dvd_right t b) |> fun z => by simpa using z)
theorem log_ok {n : Nat} (h : n < 2 ^ 4000) : n.log2 < 9000 := Nat.lt_trans (PySem.Flt.log2_lt_of (by decide) h) (by decide)
theorem fdiv_dvd {t s : Int} (h : s ∣ t) : t.fdiv s = t / s := Int.fdiv_eq_ediv_of_dvd h

def sp__law_take : GF := gTake
def sp__law_begin : GF := gBegin
abbrev s__law_begin : Stmt := topS 19
theorem sc__law_begin : FnScope ["_law_script", "_law_cells"] ["_law_script"] (defScope s__law_begin) := ⟨rfl, rfl, rfl, by decide +kernel, rfl, by decide +kernel, by decide +kernel⟩

theorem ok__law_begin {P : Program} {w : World} {K : PySem.W.Frag} {mg : Str → Option Value} {base : Heap} (T : DefAt K mg "_law_begin" s__law_begin ["_law_script"]) (B : Blt mg) : FnAt P w K mg base CX0 1 "_law_begin" 1 gBegin := by
  have nd := sc__law_begin.nd
  refine T.mk0 fun f fd F => F.ok sc__law_begin (fun vs H Q E h => ?_) (fun cdv A outer s H vs Q E hr h => ?_)
  · obtain ⟨G, S, ds, w, kx, k, h1, h2, h3, _⟩ := h
    rw [h3.length, h1]
    rfl
  · obtain ⟨G, S, ds, w, kx, k, h1, h2, h3, h4, h5, ns, rfl, hn, hk⟩ := h
    obtain ⟨v, rfl, r⟩ := one_rep h3
    cases r with
    | scr hS =>
      rename_i a
      have hS1 := h2.same.seq hS
      refine ⟨_, pss_cons (ps_set (i := 1) nd rfl (by first | exact Or.inl rfl | exact Or.inr rfl) (pe_callTy call_list_of (by rfl) B.list_ (by decide +kernel) (pa_cons (pe_slice sl_list (pv 0) po_none (po_some pe_int)) pa_nil)))
        (pss_cons (ps_if (pt_cmpR (op_eqD hr.units) (pv 1) (pe_lst pa_nil) (nomark _)) (pss_one (ps_set (i := 1) nd rfl (by first | exact Or.inl rfl | exact Or.inr rfl) (pe_lst (pa_cons pe_int pa_nil)))) pss_nil)
        (pss_one (ps_ret (pe_disp (pps_cons pe_str (pv 1) (pps_cons pe_str pe_int pps_nil)) (by rfl) (by rfl) (by intro z; cases z) (by decide))))), ?_⟩
      -- list(script[:63])
      refine ⟨.ref a, rfl, 63, rfl, a, ns.map V.int, rfl, hS1, fun c1 n1 => ?_⟩
      refine ⟨c1, _, rfl, .inl (.inl (.inl upd_same)), fun c n2 => ?_⟩
      have cv : cutV (ns.map V.int) none (some 63) = (ns.take 63).map V.int := by
        unfold cutV
        rw [HT.sIx_none, show (some (63 : Int)) = some ((63 : Nat) : Int) from rfl, HT.sIx_nat, List.drop_zero, List.map_take, List.length_map, Nat.sub_zero]
        rcases Nat.le_total 63 ns.length with hle | hle
        · rw [Nat.min_eq_left hle]
        · rw [Nat.min_eq_right hle, List.take_of_length_le (by rw [List.length_map]; exact Nat.le_refl _), List.take_of_length_le (by rw [List.length_map]; exact hle)]
      rw [cv] at n2 ⊢
      have hlen : (ns.take 63).length ≤ 63 := by
        rw [List.length_take]
        exact Nat.min_le_left _ _
      clear cv
      generalize ns.take 63 = l at n2 hlen ⊢
      have nc1 : H c1 = none := n1
      have nc : (upd H c1 (.lst (l.map V.int))) c = none := n2
      have nc0 : H c = none := by
        rw [upd_ne] at nc
        · exact nc
        · intro z
          rw [z, upd_same] at nc
          cases nc
      -- the same heap but the copies
      have fin : ∀ (H3 : Hp) (c : Addr) (cells : List Int), Same H H3 → H c = none → H3 c = some (.lst (cells.map V.int)) → cells ≠ [] → cells.length ≤ 63 → HR K G S w H3 →
          (tRet (tDisp [(tC (.str "cells"), tVar 1), (tC (.str "turn"), tC (.int 0))])) { nx := fun _ H' => Q .non H', rt := Q } [some (.ref a), some (.ref c)] H3 := by
        intro H3 c cells sm hc0 hc3 hne hl63 hr3 p hp
        refine ⟨.ref c, rfl, upd_same, [(.inr "cells", .ref c), (.inr "turn", .int 0)], rfl, (by show 2 ≤ 15; decide), ?_⟩
        have em : mergeK [] [((Sum.inr ("cells" : Str) : Key), V.ref c), ((Sum.inr ("turn" : Str) : Key), V.int 0)] = stKv c 0 := by
          show putK (putK [] (Sum.inr ("cells" : Str) : Key) (V.ref c)) (Sum.inr ("turn" : Str) : Key) (V.int 0) = stKv c 0
          rw [putK_new (V.ref c) (valV_nil), List.nil_append, putK_new (V.int 0) (by rw [valV_neg key_ne, valV_nil])]
          rfl
        have ncp : c ≠ p := ne_of_none hc3 hp
        have e1 : upd (upd H3 p (.dK [])) p (.dK (mergeK [] [((Sum.inr ("cells" : Str) : Key), V.ref c), ((Sum.inr ("turn" : Str) : Key), V.int 0)])) = upd H3 p (.dK (stKv c 0)) := by
          rw [upd_upd, em]
        show Q (.ref p) (upd (upd H3 p (.dK [])) p (.dK (mergeK [] [((Sum.inr ("cells" : Str) : Key), V.ref c), ((Sum.inr ("turn" : Str) : Key), V.int 0)])))
        rw [e1]
        have hr4 := (hr3.push (o := .dK (stKv c 0)) hp).1
        -- out of the frame again
        have hr5 : HR K G S w (upd H3 p (.dK (stKv c 0))) := ⟨hr4.same, hr4.len, hr4.nod, fun i b cc e1 e2 => by
            have q := hr3.cell i b cc e1 e2
            exact q.mono (Ext.refl _ _) (upd_ne (fun z => hr3.freshAl hp (z ▸ List.mem_of_getElem? e1))) q.sNone, ⟨hr4.st.1, fun b cc e => by
            obtain ⟨y1, y2, y3, y4, y5, y6, y7⟩ := hr4.st.2 b cc e
            exact ⟨y1, y2, y3, y4, y5, fun q hq => y6 q (List.mem_cons_of_mem _ hq), y7⟩⟩, fun q hq => by
            obtain ⟨y1, y2, y3⟩ := hr3.fr q hq
            exact ⟨y1, y2, by rw [upd_ne (hr3.freshFr hp q hq)]; exact y3⟩⟩
        obtain ⟨hr6, x6⟩ := hr5.made hn (c := c) (a := p) (cells := cells) (by rw [upd_ne ncp]; exact hc3) ⟨h2.freshS hc0, h2.freshAl hc0, h2.freshFr hc0⟩ upd_same ⟨hr3.freshS hp, hr3.freshAl hp, hr3.freshFr hp⟩ ncp.symm hne hl63
        exact h5 _ _ _ _ _ _ x6 hr6 (.st rfl) hk
      have hrN : ∀ {H3 : Hp} {p : Addr} {o : HO}, HR K G S w H3 → H3 p = none → HR K G S w (upd H3 p o) := fun {H3 p o} hr3 hp => by
        have hr4 := (hr3.push (o := o) hp).1
        exact ⟨hr4.same, hr4.len, hr4.nod, fun i b cc e1 e2 => by
            have q := hr3.cell i b cc e1 e2
            exact q.mono (Ext.refl _ _) (upd_ne (fun z => hr3.freshAl hp (z ▸ List.mem_of_getElem? e1))) q.sNone, ⟨hr4.st.1, fun b cc e => by
            obtain ⟨y1, y2, y3, y4, y5, y6, y7⟩ := hr4.st.2 b cc e
            exact ⟨y1, y2, y3, y4, y5, fun q hq => y6 q (List.mem_cons_of_mem _ hq), y7⟩⟩, fun q hq => by
            obtain ⟨y1, y2, y3⟩ := hr3.fr q hq
            exact ⟨y1, y2, by rw [upd_ne (hr3.freshFr hp q hq)]; exact y3⟩⟩
      have hr1 := hrN (o := .lst (l.map V.int)) h2 nc1
      have hr2 := hrN (o := .lst (l.map V.int)) hr1 nc
      have sm1 : Same H (upd (upd H c1 (.lst (l.map V.int))) c (.lst (l.map V.int))) := fun b o e => by
        rw [upd_ne (ne_of_none e nc0), upd_ne (ne_of_none e nc1)]
        exact e
      have dp : ∀ (l : List Int) (H3 : Hp) (b : Addr), H3 b = some (.lst (l.map V.int)) → Dp K H3 (.ref b) (.list (l.map PyData.int)) := fun l H3 b e => by
        refine .lst (.inl (.inl e)) ?_
        clear e
        induction l with
        | nil => exact .nil
        | cons x r ih => exact .cons (.int x) ih
      -- cells == []
      refine ⟨.ref c, rfl, Nat.zero_le _, fun e n3 => ?_⟩
      have nce : c ≠ e := fun z => by
        have q := n3
        rw [← z, upd_same] at q
        cases q
      have hc3 : (upd (upd (upd H c1 (.lst (l.map V.int))) c (.lst (l.map V.int))) e (.lst [])) c = some (.lst (l.map V.int)) := by
        rw [upd_ne nce, upd_same]
      have hr3 := hrN (o := .lst []) hr2 n3
      have sm2 : Same H (upd (upd (upd H c1 (.lst (l.map V.int))) c (.lst (l.map V.int))) e (.lst [])) := fun b o eb => by
        rw [upd_ne (ne_of_none (sm1 b o eb) n3)]
        exact sm1 b o eb
      refine ⟨_, _, dp l _ c hc3, dp [] _ e upd_same, ?_, rfl, _, rfl, ?_⟩
      · exact shaped_ints _
      · cases l with
        | nil =>
          refine iteT ⟨by decide, fun d n4 => ?_⟩
          refine fin _ d [7] (fun b o eb => ?_) ?_ upd_same (by intro z; cases z) (by decide) (hrN hr3 n4)
          · rw [upd_ne (ne_of_none (sm2 b o eb) n4)]
            exact sm2 b o eb
          · cases q : H d with
            | none => rfl
            | some o =>
              have := sm2 d o q
              rw [n4] at this
              cases this
        | cons x r =>
          exact iteF (fin _ c (x :: r) sm2 nc0 hc3 (by intro z; cases z) hlen hr3)

abbrev s__law_take : Stmt := topS 20
theorem sc__law_take : FnScope ["_law_state", "_law_many", "_law_turn", "_law_place", "_law_cell", "_law_digit", "_law_mixed"] ["_law_state", "_law_many"] (defScope s__law_take) := ⟨rfl, rfl, rfl, by decide +kernel, rfl, by decide +kernel, by decide +kernel⟩

theorem ok__law_take {P : Program} {w : World} {K : PySem.W.Frag} {mg : Str → Option Value} {base : Heap} (T : DefAt K mg "_law_take" s__law_take ["_law_state", "_law_many"]) (B : Blt mg) : FnAt P w K mg base CX0 1 "_law_take" 2 gTake := by
  have nd := sc__law_take.nd
  refine T.mk0 fun f fd F => F.ok sc__law_take (fun vs H Q E h => ?_) (fun cdv A outer s H vs Q E hr h => ?_)
  · obtain ⟨G, S, ds, w, kx, k, h1, h2, h3, _⟩ := h
    rw [h3.length, h1]
    rfl
  · obtain ⟨G, S, ds, w, kx, k, h1, h2, h3, h4, h5, m, n, rfl, ⟨hm0, hm9⟩, hn, hk⟩ := h
    obtain ⟨v, u, rfl, r1, r2⟩ := two_rep h3
    cases r2
    cases r1 with
    | st hst =>
      rename_i a c
      obtain ⟨z1, z2, z3, z4, z5, z6, cells, turn, ha, hc, hne, hl63, ht0, htn⟩ := h2.st.2 a c hst
      rw [hn] at htn
      have htn' : turn + ((n + 1 : Nat) : Int) ≤ 1000000000 := htn
      have hu := hu_of hr
      have ha' : H a = some (.dK (stKv c turn)) := ha
      refine ⟨_, pss_cons (ps_set (i := 2) nd rfl (by first | exact Or.inl rfl | exact Or.inr rfl) (pe_op op_add (pe_dget hu (pv 0) pe_str (fun _ _ => rfl)) pe_int))
        (pss_cons (ps_dput hu (pv 0) pe_str (pv 2) (by rfl))
        (pss_cons (ps_set (i := 3) nd rfl (by first | exact Or.inl rfl | exact Or.inr rfl) (pe_op op_mod (pv 2) (pe_callB call_len_seq (by rfl) B.len_ PySem.boot_len (pa_cons (pe_dget hu (pv 0) pe_str (fun _ _ => rfl)) pa_nil))))
        (pss_cons (ps_set (i := 4) nd rfl (by first | exact Or.inl rfl | exact Or.inr rfl) (pe_ix ix_list (pe_dget hu (pv 0) pe_str (fun _ _ => rfl)) (pv 3) (fun _ _ => rfl)))
        (pss_cons (ps_if (pt_cmpR op_ge (pv 4) (pe_op op_pow pe_int pe_int) (nomark _))
          (pss_cons (ps_asg (pe_callB call_divmodW (by rfl) B.divmod_ (by decide +kernel) (pa_cons (pv 4) (pa_cons (pv 1) pa_nil))) (pg_tup rfl (pgs_cons (pg_sub (pe_dget hu (pv 0) pe_str (fun _ _ => rfl)) (pv 3) set_list) (pgs_cons (pg_name (i := 5) nd rfl (by first | exact Or.inl rfl | exact Or.inr rfl)) pgs_nil))))
            (pss_one (ps_ret (pv 5)))) pss_nil)
        (pss_cons (ps_set (i := 6) nd rfl (by first | exact Or.inl rfl | exact Or.inr rfl) (pe_op op_mod (pe_op op_mulX (pe_op op_add (pe_op op_add (pe_op op_mod (pv 4) pe_int) (pe_op op_mulX (pe_op op_mulX (pv 2) (pv 2)) pe_int)) pe_int) pe_int) pe_int))
        (pss_cons (ps_set (i := 6) nd rfl (by first | exact Or.inl rfl | exact Or.inr rfl) (pe_op op_mod (pe_op op_mulX (pv 6) (pv 6)) pe_int))
        (pss_one (ps_ret (pe_op op_mod (pe_op op_fdiv (pe_op op_mod (pe_op op_mulX (pe_op op_add (pv 6) (pe_op op_mulX (pv 2) pe_int)) pe_int) pe_int) pe_int) (pv 1)))))))))), ?_⟩
      have gT : DGet H a (.str "turn") (some (.int turn)) := by
        have q := DGet.k (k := .inr "turn") ha'
        rw [st_turn] at q
        exact q
      -- turn = state['turn'] + 1; state['turn'] = turn
      refine ⟨.ref a, rfl, a, .int turn, rfl, gT, turn, 1, rfl, rfl, ?_⟩
      refine ⟨.int (turn + 1), rfl, .ref a, rfl, a, _, rfl, DPut.k (k := .inr "turn") ha' (by show 2 < sizeLine; decide), ?_⟩
      rw [st_put]
      have hr1 : HR K G S ⟨w.M, some n⟩ (upd H a (.dK (stKv c (turn + 1)))) := h2.drawn hst (fun b b1 _ => upd_ne b1) upd_same (by rw [upd_ne (Ne.symm z3)]; exact hc) hne hl63 (by omega) (by omega)
      have ea1 : (upd H a (.dK (stKv c (turn + 1)))) a = some (.dK (stKv c (turn + 1))) := upd_same
      have ec1 : (upd H a (.dK (stKv c (turn + 1)))) c = some (.lst (cells.map V.int)) := by
        rw [upd_ne (Ne.symm z3)]
        exact hc
      generalize upd H a (.dK (stKv c (turn + 1))) = H1 at hr1 ea1 ec1
      have gC : ∀ {H2 : Hp}, H2 a = some (.dK (stKv c (turn + 1))) → DGet H2 a (.str "cells") (some (.ref c)) := fun {H2} e => by
        have q := DGet.k (k := .inr "cells") e
        rw [st_cells] at q
        exact q
      have hlc : 0 < cells.length := List.length_pos_iff.mpr hne
      -- place = turn % len(state['cells'])
      refine ⟨.int (turn + 1), rfl, .ref a, rfl, a, _, rfl, gC ea1, c, _, rfl, .inl (.inl (.inl ec1)), turn + 1, _, rfl, rfl, by rw [List.length_map]; omega, ?_⟩
      rw [List.length_map]
      obtain ⟨j, hj, hjl⟩ : ∃ j : Nat, (turn + 1) % (cells.length : Int) = (j : Int) ∧ j < cells.length := by
        have p1 := Int.emod_nonneg (turn + 1) (b := (cells.length : Int)) (by omega)
        have p2 := Int.emod_lt_of_pos (turn + 1) (b := (cells.length : Int)) (by omega)
        exact ⟨((turn + 1) % (cells.length : Int)).toNat, by omega, by omega⟩
      dsimp only
      rw [hj]
      have hcj : (cells.map V.int)[j]? = some (.int cells[j]) := by
        rw [List.getElem?_map, List.getElem?_eq_getElem hjl]
        rfl
      generalize hcell : cells[j] = cell at hcj
      -- cell = state['cells'][place]
      refine ⟨.ref a, rfl, a, _, rfl, gC ea1, .int (j : Int), rfl, c, _, (j : Int), _, rfl, rfl, .inl (.inl ec1), atI_nat hcj, ?_⟩
      refine ⟨.int cell, rfl, 10, 18, rfl, rfl, ⟨by decide, by decide, by decide⟩, cell, _, rfl, rfl, _, rfl, ite2 (fun _ => ?_) (fun _ => ?_)⟩
      · -- a digit
        refine ⟨.int cell, rfl, .int m, rfl, cell, m, rfl, ⟨hm0, PyProof.noPylong_of_log2 hm9⟩, fun p hp => ?_⟩
        obtain ⟨hr2, x2⟩ := hr1.newS hp (.tup [.int (cell / m), .int (cell % m)])
        have nap : a ≠ p := ne_of_none ea1 hp
        have ncp : c ≠ p := ne_of_none ec1 hp
        have ea2 : (upd H1 p (.tup [.int (cell / m), .int (cell % m)])) a = some (.dK (stKv c (turn + 1))) := by
          rw [upd_ne nap]
          exact ea1
        have ec2 : (upd H1 p (.tup [.int (cell / m), .int (cell % m)])) c = some (.lst (cells.map V.int)) := by
          rw [upd_ne ncp]
          exact ec1
        have ep2 : (upd H1 p (.tup [.int (cell / m), .int (cell % m)])) p = some (.tup [.int (cell / m), .int (cell % m)]) := upd_same
        refine ⟨p, [.int (cell / m), .int (cell % m)], rfl, .inl (.inl upd_same), rfl, ?_⟩
        generalize upd H1 p (.tup [.int (cell / m), .int (cell % m)]) = H2 at hr2 ea2 ec2 ep2
        refine ⟨_, _, rfl, .ref a, rfl, a, _, rfl, gC ea2, .int (j : Int), rfl, c, _, (j : Int), j, rfl, rfl, ec2, ?_, ?_⟩
        · show L2.ixN _ (j : Int) = some j
          unfold L2.ixN
          rw [if_pos (by omega), if_pos (by rw [List.length_map]; omega)]
          rfl
        refine ⟨_, _, rfl, rfl, .int (cell % m), rfl, ?_⟩
        have es : (cells.map V.int).set j (.int (cell / m)) = (cells.set j (cell / m)).map V.int := by rw [List.map_set]
        have hst2 : (⟨G.al, G.st, G.fr⟩ : Gh).st = some (a, c) := hst
        have hr3 : HR K G (upd S p (.tup [.int (cell / m), .int (cell % m)])) ⟨w.M, some n⟩ (upd H2 c (.lst ((cells.set j (cell / m)).map V.int))) :=
          hr2.drawn hst (fun b _ b2 => upd_ne b2) (by rw [upd_ne z3]; exact ea2) upd_same (by intro z; have := congrArg List.length z; rw [List.length_set] at this; simp at this; exact hne this) (by rw [List.length_set]; exact hl63) (by omega) (by omega)
        rw [es]
        exact h5 _ _ _ _ _ _ x2 hr3 (.int _) (hk _ (Int.emod_nonneg _ (by omega)) (Int.emod_lt_of_pos _ hm0))
      · have a0 := Int.emod_nonneg cell (b := 2147483629) (by decide)
        have a1 := Int.emod_lt_of_pos cell (b := 2147483629) (by decide)
        have t1 : (turn + 1).natAbs < 2 ^ 30 := by omega
        have t2 : ((turn + 1) * (turn + 1)).natAbs < 2 ^ 60 := wide_lt (a := 30) (b := 30) t1 t1
        have t3 : ((turn + 1) * (turn + 1) * 7919).natAbs < 2 ^ 73 := wide_lt (a := 60) (b := 13) t2 (by decide)
        refine ⟨.int cell, rfl, cell, 2147483629, rfl, rfl, (by show (0 : Int) < 2147483629; decide), .int (turn + 1), rfl, .int (turn + 1), rfl, turn + 1, turn + 1, rfl, rfl, mulx_ok t1 t1 (by decide), _, 7919, rfl, rfl, mulx_ok (a := 60) (b := 13) t2 (by decide) (by decide), _, _, rfl, rfl, _, 11, rfl, rfl, _, 48271, rfl, rfl, mulx_ok (a := 75) (b := 16) ?_ (by decide) (by decide), _, 2147483647, rfl, rfl, (by show (0 : Int) < 2147483647; decide), ?_⟩
        · generalize cell % 2147483629 = A at a0 a1 ⊢
          generalize (turn + 1) * (turn + 1) * 7919 = B at t3 ⊢
          omega
        dsimp only
        have b0 := Int.emod_nonneg ((cell % 2147483629 + (turn + 1) * (turn + 1) * 7919 + 11) * 48271) (b := 2147483647) (by decide)
        have b1 := Int.emod_lt_of_pos ((cell % 2147483629 + (turn + 1) * (turn + 1) * 7919 + 11) * 48271) (b := 2147483647) (by decide)
        generalize (cell % 2147483629 + (turn + 1) * (turn + 1) * 7919 + 11) * 48271 % 2147483647 = M1 at b0 b1 ⊢
        refine ⟨.int M1, rfl, .int M1, rfl, M1, M1, rfl, rfl, mulx_ok (a := 32) (b := 32) (by omega) (by omega) (by decide), _, 2147483587, rfl, rfl, (by show (0 : Int) < 2147483587; decide), ?_⟩
        dsimp only
        have c0 := Int.emod_nonneg (M1 * M1) (b := 2147483587) (by decide)
        have c1 := Int.emod_lt_of_pos (M1 * M1) (b := 2147483587) (by decide)
        generalize M1 * M1 % 2147483587 = M2 at c0 c1 ⊢
        refine ⟨.int M2, rfl, .int (turn + 1), rfl, turn + 1, 104729, rfl, rfl, mulx_ok (b := 17) t1 (by decide) (by decide), M2, _, rfl, rfl, _, 39373, rfl, rfl, mulx_ok (a := 64) (b := 16) (by omega) (by decide) (by decide), _, 2147483629, rfl, rfl, (by show (0 : Int) < 2147483629; decide), _, 64, rfl, rfl, ⟨by decide, by decide⟩, .int m, rfl, _, m, rfl, rfl, hm0, ?_⟩
        exact h5 _ _ _ _ _ _ (Ext.refl _ _) hr1 (.int _) (hk _ (Int.emod_nonneg _ (by omega)) (Int.emod_lt_of_pos _ hm0))

abbrev Qp := Int × Int
def fD (x : Qp) : D := .tup [.int x.1, .int x.2]
structure Fr (x : Qp) : Prop where
  pos : 0 < x.2
  cop : Int.gcd x.1 x.2 = 1
def norm (t b : Int) : Qp := (frT t b, frB t b)
def Lt2 (a : Nat) (x : Qp) : Prop := x.1.natAbs < 2 ^ a ∧ x.2.natAbs < 2 ^ a
theorem fr_norm {t b : Int} (h : b ≠ 0) : Fr (norm t b) := ⟨(fr_is h).pos, (fr_is h).cop⟩
theorem norm_eq {t b : Int} (h : b ≠ 0) : (norm t b).1 * b = t * (norm t b).2 := (fr_is h).eq
theorem norm_of {t b : Int} {x : Qp} (h : b ≠ 0) (hx : Fr x) (e : x.1 * b = t * x.2) : norm t b = x := by
  obtain ⟨h1, h2⟩ := fr_eq h ⟨hx.pos, hx.cop, e⟩
  exact Prod.ext h1 h2
theorem norm_self {x : Qp} (hx : Fr x) : norm x.1 x.2 = x := norm_of (by have := hx.pos; omega) hx rfl
theorem norm_cross {t b t' b' : Int} (h : b ≠ 0) (h' : b' ≠ 0) (e : t * b' = t' * b) : norm t b = norm t' b' := by
  refine norm_of h (fr_norm h') ?_
  have e2 := norm_eq (t := t') h'
  refine Int.eq_of_mul_eq_mul_right h' ?_
  calc (norm t' b').1 * b * b' = (norm t' b').1 * b' * b := by ac_rfl
    _ = t' * (norm t' b').2 * b := by rw [e2]
    _ = t' * b * (norm t' b').2 := by ac_rfl
    _ = t * b' * (norm t' b').2 := by rw [e]
    _ = t * (norm t' b').2 * b' := by ac_rfl
theorem fr_inj {x y : Qp} (hx : Fr x) (hy : Fr y) (e : x.1 * y.2 = y.1 * x.2) : x = y := by
  rw [← norm_self hx, ← norm_self hy]
  exact norm_cross (by have := hx.pos; omega) (by have := hy.pos; omega) e
theorem norm_lt {t b : Int} {a : Nat} (h : b ≠ 0) (ht : t.natAbs < 2 ^ a) (hb : b.natAbs < 2 ^ a) : Lt2 a (norm t b) := ⟨Nat.lt_of_le_of_lt (fr_le h).1 ht, Nat.lt_of_le_of_lt (fr_le h).2 hb⟩
theorem Lt2.mono {a c : Nat} {x : Qp} (h : Lt2 a x) (l : a ≤ c) : Lt2 c x := ⟨Nat.lt_of_lt_of_le h.1 (Nat.pow_le_pow_right (by decide) l), Nat.lt_of_lt_of_le h.2 (Nat.pow_le_pow_right (by decide) l)⟩
theorem nat_mono {n a c : Nat} (h : n < 2 ^ a) (l : a ≤ c) : n < 2 ^ c := Nat.lt_of_lt_of_le h (Nat.pow_le_pow_right (by decide) l)
theorem add_lt {x y : Int} {a : Nat} (hx : x.natAbs < 2 ^ a) (hy : y.natAbs < 2 ^ a) : (x + y).natAbs < 2 ^ (a + 1) := by
  rw [Nat.pow_succ]
  omega
section
variable {x y : Qp} {w : Wd} {k : KD} {t : GGs} {r : Rho} {kr : Rho → Wd → Prop} {n : String}
theorem ixD_f0 : ixD (fD x) (.int 0) w k = k (.int x.1) w := rfl
theorem ixD_f1 : ixD (fD x) (.int 1) w k = k (.int x.2) w := rfl
theorem ggTup_f : DL.ggTup 2 t (fD x) r w kr = t [.int x.1, .int x.2] r w kr := by
  show (2 = 2 ∧ t [.int x.1, .int x.2] r w kr) = _
  simp
theorem fIsi_f : fIsi [fD x, .ob (.ty n)] w k = optBK (kitB "tuple" n) (fun b => k (.bl b) w) := rfl
theorem fLen_f : fLen [fD x] w k = k (.int 2) w := rfl
theorem eqD_ff : eqD (fD x) (fD y) w k = k (.bl (decide (x = y))) w := by
  unfold fD
  rw [eqD_f]
  congr 2
  rw [Bool.eq_iff_iff]
  simp [Prod.ext_iff]
theorem neD_ff : neD (fD x) (fD y) w k = k (.bl (!decide (x = y))) w := by
  unfold fD
  rw [neD_f]
  congr 3
  rw [Bool.eq_iff_iff]
  simp [Prod.ext_iff]
end
def Pb : List Qp → Int
  | [] => 1
  | x :: xs => x.2 * Pb xs
def Nt : List Qp → Int
  | [] => 0
  | x :: xs => x.1 * Pb xs + x.2 * Nt xs
theorem Pb_pos : ∀ {xs : List Qp}, (∀ x ∈ xs, Fr x) → 0 < Pb xs
  | [], _ => by decide
  | x :: xs, h => Int.mul_pos (h x List.mem_cons_self).pos (Pb_pos fun y hy => h y (List.mem_cons_of_mem _ hy))
theorem Pb_ne {xs : List Qp} (h : ∀ x ∈ xs, Fr x) : Pb xs ≠ 0 := by
  have := Pb_pos h
  omega
theorem Pb_app : ∀ (xs ys : List Qp), Pb (xs ++ ys) = Pb xs * Pb ys
  | [], ys => by simp [Pb]
  | x :: xs, ys => by
    show x.2 * Pb (xs ++ ys) = x.2 * Pb xs * Pb ys
    rw [Pb_app xs ys, Int.mul_assoc]
theorem Nt_app : ∀ (xs ys : List Qp), Nt (xs ++ ys) = Nt xs * Pb ys + Pb xs * Nt ys
  | [], ys => by simp [Nt, Pb]
  | x :: xs, ys => by
    show x.1 * Pb (xs ++ ys) + x.2 * Nt (xs ++ ys) = (x.1 * Pb xs + x.2 * Nt xs) * Pb ys + x.2 * Pb xs * Nt ys
    rw [Pb_app, Nt_app, Int.add_mul, Int.mul_add]
    have e1 : x.1 * (Pb xs * Pb ys) = x.1 * Pb xs * Pb ys := by ac_rfl
    have e2 : x.2 * (Nt xs * Pb ys) = x.2 * Nt xs * Pb ys := by ac_rfl
    have e3 : x.2 * (Pb xs * Nt ys) = x.2 * Pb xs * Nt ys := by ac_rfl
    rw [e1, e2, e3, Int.add_assoc]
def sumQ (xs : List Qp) : Qp := norm (Nt xs) (Pb xs)
theorem fr_sum {xs : List Qp} (h : ∀ x ∈ xs, Fr x) : Fr (sumQ xs) := fr_norm (Pb_ne h)
theorem sumQ_nil : sumQ [] = (0, 1) := norm_of (by decide) ⟨by decide, by decide⟩ rfl
theorem sumQ_snoc {xs : List Qp} {x : Qp} (h : ∀ y ∈ xs, Fr y) (hx : Fr x) : norm ((sumQ xs).1 * x.2 + x.1 * (sumQ xs).2) ((sumQ xs).2 * x.2) = sumQ (xs ++ [x]) := by
  have hp := (fr_sum h).pos
  have hxp := hx.pos
  have e := norm_eq (t := Nt xs) (Pb_ne h)
  have n1 : (sumQ xs).2 * x.2 ≠ 0 := Int.mul_ne_zero (by omega) (by omega)
  have n2 : Pb (xs ++ [x]) ≠ 0 := by
    rw [Pb_app]
    show Pb xs * (x.2 * 1) ≠ 0
    rw [Int.mul_one]
    exact Int.mul_ne_zero (Pb_ne h) (by omega)
  refine norm_cross n1 n2 ?_
  rw [Pb_app, Nt_app]
  show ((sumQ xs).1 * x.2 + x.1 * (sumQ xs).2) * (Pb xs * (x.2 * 1)) = (Nt xs * (x.2 * 1) + Pb xs * (x.1 * 1 + x.2 * 0)) * ((sumQ xs).2 * x.2)
  have e' : (sumQ xs).1 * Pb xs = Nt xs * (sumQ xs).2 := e
  rw [Int.mul_one, Int.mul_one, Int.mul_zero, Int.add_zero, Int.add_mul, Int.add_mul]
  have a1 : (sumQ xs).1 * x.2 * (Pb xs * x.2) = Nt xs * x.2 * ((sumQ xs).2 * x.2) := by
    calc (sumQ xs).1 * x.2 * (Pb xs * x.2) = (sumQ xs).1 * Pb xs * (x.2 * x.2) := by ac_rfl
      _ = Nt xs * (sumQ xs).2 * (x.2 * x.2) := by rw [e']
      _ = Nt xs * x.2 * ((sumQ xs).2 * x.2) := by ac_rfl
  have a2 : x.1 * (sumQ xs).2 * (Pb xs * x.2) = Pb xs * x.1 * ((sumQ xs).2 * x.2) := by ac_rfl
  rw [a1, a2]
def subQ (y x : Qp) : Qp := norm (y.1 * x.2 - x.1 * y.2) (x.2 * y.2)
def mulQ (x y : Qp) : Qp := norm (x.1 * y.1) (x.2 * y.2)
def divQ (x y : Qp) : Qp := norm (x.1 * y.2) (x.2 * y.1)
def FrB (a : Nat) (xs : List Qp) : Prop := ∀ x ∈ xs, Fr x ∧ Lt2 a x

def Big (x : Int) : Prop := x.natAbs < 2 ^ 4000
def sp_divisor_of : GF := fun ds w _ k => ∃ a b : Int, ds = [.int a, .int b] ∧ k (.int (Int.gcd a b)) w
abbrev s_divisor_of : Stmt := topS 1
theorem sc_divisor_of : FnScope ["one", "other"] ["one", "other"] (defScope s_divisor_of) := ⟨rfl, rfl, rfl, by decide +kernel, rfl, by decide +kernel, by decide +kernel⟩
def g_divisor_of : GS := (gSeq (gPar 0 1 (gaCons (gCB fAbs (gaCons (gVar 0) gaNil)) (gaCons (gCB fAbs (gaCons (gVar 1) gaNil)) gaNil)))
  (gSeq (gWhile (gB (gBin gtD (gVar 1) (gC (.int 0)))) (gPar 0 1 (gaCons (gVar 1) (gaCons (gBin modD (gVar 0) (gVar 1)) gaNil))))
  (gRet (gVar 0))))
theorem w_divisor_of {P : Program} {w : World} {K : PySem.W.Frag} {mg : Str → Option Value} {base : Heap} (T : DefAt K mg "divisor_of" s_divisor_of ["one", "other"]) (B : Blt mg) : FnAt P w K mg base CX0 1 "divisor_of" 2 (sem0 2 g_divisor_of) := by
  have nd := sc_divisor_of.nd
  exact T.fn0 sc_divisor_of (fun f cdv A outer s H E hr => (dss_cons (ds_par (i := 0) (j := 1) rfl nd rfl rfl (by decide) rfl rfl (da_cons (de_abs B (by rfl) (da_cons (de_var 0) da_nil)) (da_cons (de_abs B (by rfl) (da_cons (de_var 1) da_nil)) da_nil)) (by rfl))
  (dss_cons (ds_while PassesOwn.never (dt_gt (de_var 1) de_int) (dss_one (ds_par (i := 0) (j := 1) rfl nd rfl rfl (by decide) rfl rfl (da_cons (de_var 1) (da_cons (de_mod (de_var 0) (de_var 1)) da_nil)) (by rfl))))
  (dss_one (ds_ret (de_var 0))))))

theorem v_divisor_of : ∀ ds w kx k, sp_divisor_of ds w kx k → sem0 2 g_divisor_of ds w kx k := by
  rintro ds w kx k ⟨a, b, rfl, hk⟩
  have e : rho 2 [D.int a, D.int b] = [some (.int a), some (.int b)] := rfl
  simp! only [g_divisor_of, e]
  refine ⟨fun m ρ w' => ∃ x y : Nat, ρ = [some (.int x), some (.int y)] ∧ Nat.gcd x y = Int.gcd a b ∧ m = y ∧ w' = w, ⟨_, a.natAbs, b.natAbs, rfl, rfl, rfl, rfl⟩, ?_⟩
  rintro m ρ w' ⟨x, y, rfl, hg, rfl, rfl⟩
  simp! only [id_eq]
  refine ite2 (fun h => ?_) (fun h => ?_)
  · have h0 : 0 < m := by simpa using h
    refine ⟨by omega, x % m, Nat.mod_lt _ h0, m, x % m, by rw [fmod_nat], ?_, rfl⟩
    rw [← hg, Nat.gcd_comm x m, Nat.gcd_rec m x, Nat.gcd_comm]
  · have h0 : m = 0 := by
      have : ¬ 0 < m := by simpa using h
      omega
    subst h0
    rw [Nat.gcd_zero_right] at hg
    rw [hg]
    exact hk
theorem ok_divisor_of {P : Program} {w : World} {K : PySem.W.Frag} {mg : Str → Option Value} {base : Heap} (T : DefAt K mg "divisor_of" s_divisor_of ["one", "other"]) (B : Blt mg) : FnAt P w K mg base CX0 1 "divisor_of" 2 sp_divisor_of := (w_divisor_of T B ).imp v_divisor_of

def sp_fraction_of : GF := fun ds w _ k => ∃ t b : Int, ds = [.int t, .int b] ∧ (b ≠ 0 ∧ Big b) ∧ k (fD (norm t b)) w
abbrev s_fraction_of : Stmt := topS 2
theorem sc_fraction_of : FnScope ["top", "below", "divisor"] ["top", "below"] (defScope s_fraction_of) := ⟨rfl, rfl, rfl, by decide +kernel, rfl, by decide +kernel, by decide +kernel⟩
def g_fraction_of : GS := (gSeq (gSet 2 (gCall0 2 sp_divisor_of (gaCons (gVar 0) (gaCons (gVar 1) gaNil))))
  (gCut (gIfS (gB (gBin ltD (gVar 1) (gC (.int 0)))) (gSet 2 (gUn negD (gVar 2))) gNext)
  (gRet (gTup (gaCons (gBin fdivD (gVar 0) (gVar 2)) (gaCons (gBin fdivD (gVar 1) (gVar 2)) gaNil))))))
theorem w_fraction_of {P : Program} {w : World} {K : PySem.W.Frag} {mg : Str → Option Value} {base : Heap} (T : DefAt K mg "fraction_of" s_fraction_of ["top", "below"]) (B : Blt mg) (F_divisor_of : FnAt P w K mg base CX0 1 "divisor_of" 2 sp_divisor_of) : FnAt P w K mg base CX0 2 "fraction_of" 2 (sem0 3 g_fraction_of) := by
  have nd := sc_fraction_of.nd
  exact T.fn0 sc_fraction_of (fun f cdv A outer s H E hr => (dss_cons (ds_set (i := 2) nd rfl (by first | exact Or.inl rfl | exact Or.inr rfl) (de_call0 F_divisor_of hr (by rfl) (da_cons (de_var 0) (da_cons (de_var 1) da_nil))))
  (dss_cut (ds_if (dt_lt (de_var 1) de_int) (dss_one (ds_set (i := 2) nd rfl (by first | exact Or.inl rfl | exact Or.inr rfl) (de_neg (de_var 2)))) dss_nil)
  (dss_one (ds_ret (de_tup (da_cons (de_fdiv (de_var 0) (de_var 2)) (da_cons (de_fdiv (de_var 1) (de_var 2)) da_nil))))))))

theorem v_fraction_of : ∀ ds w kx k, sp_fraction_of ds w kx k → sem0 3 g_fraction_of ds w kx k := by
  rintro ds w kx k ⟨t, b, rfl, ⟨hb, hB⟩, hk⟩
  have e : rho 3 [D.int t, D.int b] = [some (.int t), some (.int b), none] := rfl
  have g0 := gcd_pos (t := t) hb
  have gl : (Int.gcd t b).log2 < 9000 := log_ok (Nat.lt_of_le_of_lt (gcd_le hb) hB)
  obtain ⟨d1, d2⟩ := sg_dvd t b
  obtain ⟨ns, nl⟩ : sg t b ≠ 0 ∧ (sg t b).natAbs.log2 < 9000 := ⟨sg_ne hb, by rw [sg_abs]; exact gl⟩
  simp! only [g_fraction_of, e, sp_divisor_of]
  refine ⟨t, b, rfl, fun ρ w' => ρ = [some (.int t), some (.int b), some (.int (sg t b))] ∧ w' = w, ?_, ?_⟩
  · refine ite2 (fun h => ⟨?_, rfl⟩) (fun h => ⟨?_, rfl⟩)
    · unfold sg
      rw [if_pos (by simpa using h)]
    · unfold sg
      rw [if_neg (by simpa using h)]
  · rintro ρ w' ⟨rfl, rfl⟩
    simp! only [id_eq]
    exact ⟨⟨ns, nl⟩, ⟨ns, nl⟩, by decide, by rw [fdiv_dvd d1, fdiv_dvd d2]; exact hk⟩
theorem ok_fraction_of {P : Program} {w : World} {K : PySem.W.Frag} {mg : Str → Option Value} {base : Heap} (T : DefAt K mg "fraction_of" s_fraction_of ["top", "below"]) (B : Blt mg) (F_divisor_of : FnAt P w K mg base CX0 1 "divisor_of" 2 sp_divisor_of) : FnAt P w K mg base CX0 2 "fraction_of" 2 sp_fraction_of := (w_fraction_of T B F_divisor_of).imp v_fraction_of


def sp_sum_of : GF := fun ds w _ k => ∃ (xs : List Qp) (a : Nat), ds = [.lst (xs.map fD)] ∧ (FrB a xs ∧ (a + 1) * (xs.length + 1) ≤ 3990) ∧ k (fD (sumQ xs)) w
abbrev s_sum_of : Stmt := topS 3
theorem sc_sum_of : FnScope ["parts", "found", "top", "below"] ["parts"] (defScope s_sum_of) := ⟨rfl, rfl, rfl, by decide +kernel, rfl, by decide +kernel, by decide +kernel⟩
def g_sum_of : GS := (gSeq (gSet 1 (gTup (gaCons (gC (.int 0)) (gaCons (gC (.int 1)) gaNil))))
  (gSeq (gFor (giSeq (gVar 0)) (ggTup 2 (ggCons (ggName 2) (ggCons (ggName 3) ggNil))) (gSet 1 (gCall0 2 sp_fraction_of (gaCons (gBin addD (gBin mulD (gBin ixD (gVar 1) (gC (.int 0))) (gVar 3)) (gBin mulD (gVar 2) (gBin ixD (gVar 1) (gC (.int 1))))) (gaCons (gBin mulD (gBin ixD (gVar 1) (gC (.int 1))) (gVar 3)) gaNil)))))
  (gRet (gVar 1))))
theorem w_sum_of {P : Program} {w : World} {K : PySem.W.Frag} {mg : Str → Option Value} {base : Heap} (T : DefAt K mg "sum_of" s_sum_of ["parts"]) (B : Blt mg) (F_fraction_of : FnAt P w K mg base CX0 2 "fraction_of" 2 sp_fraction_of) : FnAt P w K mg base CX0 3 "sum_of" 1 (sem0 4 g_sum_of) := by
  have nd := sc_sum_of.nd
  exact T.fn0 sc_sum_of (fun f cdv A outer s H E hr => (dss_cons (ds_set (i := 1) nd rfl (by first | exact Or.inl rfl | exact Or.inr rfl) (de_tup (da_cons de_int (da_cons de_int da_nil))))
  (dss_cons (ds_for PassesOwn.never rfl (di_seq (de_var 0)) (dg_tup rfl (dgs_cons (dg_name (i := 2) nd rfl (by first | exact Or.inl rfl | exact Or.inr rfl)) (dgs_cons (dg_name (i := 3) nd rfl (by first | exact Or.inl rfl | exact Or.inr rfl)) dgs_nil))) (dss_one (ds_set (i := 1) nd rfl (by first | exact Or.inl rfl | exact Or.inr rfl) (de_call0 F_fraction_of hr (by rfl) (da_cons (de_add (de_mul (de_ix (de_var 1) de_int) (de_var 3)) (de_mul (de_var 2) (de_ix (de_var 1) de_int))) (da_cons (de_mul (de_ix (de_var 1) de_int) (de_var 3)) da_nil))))))
  (dss_one (ds_ret (de_var 1))))))

theorem sum_lt {a : Nat} : ∀ {n : Nat} {xs : List Qp}, xs.length = n → FrB a xs → Lt2 ((a + 1) * n + 1) (sumQ xs)
  | 0, xs, hl, _ => by
    have : xs = [] := List.length_eq_zero_iff.mp hl
    subst this
    rw [sumQ_nil]
    exact ⟨by show 0 < 2 ^ _; exact Nat.pow_pos (by decide), by
      show 1 < 2 ^ ((a + 1) * 0 + 1)
      rw [Nat.mul_zero]
      decide⟩
  | n + 1, xs, hl, h => by
    obtain ⟨ys, x, rfl⟩ : ∃ ys x, xs = ys ++ [x] := by
      have : xs ≠ [] := fun z => by rw [z] at hl; cases hl
      exact ⟨xs.dropLast, xs.getLast this, (List.dropLast_concat_getLast this).symm⟩
    have hy : FrB a ys := fun z hz => h z (List.mem_append_left _ hz)
    obtain ⟨fx, lx⟩ := h x (by simp)
    have hl' : ys.length = n := by simpa using hl
    have ih := sum_lt hl' hy
    have fy := fr_sum fun z hz => (hy z hz).1
    rw [← sumQ_snoc (fun z hz => (hy z hz).1) fx]
    have e : (a + 1) * (n + 1) + 1 = ((a + 1) * n + 1 + a) + 1 := by rw [Nat.mul_succ]; omega
    have b1 := wide_lt ih.1 lx.2
    have b2 := wide_lt lx.1 ih.2
    rw [Nat.add_comm a] at b2
    have b3 := wide_lt ih.2 lx.2
    refine norm_lt (Int.mul_ne_zero (by have := fy.pos; omega) (by have := fx.pos; omega)) ?_ ?_
    · rw [e]
      exact add_lt b1 b2
    · exact nat_mono b3 (by omega)
theorem v_sum_of : ∀ ds w kx k, sp_sum_of ds w kx k → sem0 4 g_sum_of ds w kx k := by
  rintro ds w kx k ⟨xs, a, rfl, ⟨hF, hz⟩, hk⟩
  have e : rho 4 [D.lst (xs.map fD)] = [some (.lst (xs.map fD)), none, none, none] := rfl
  simp! only [g_sum_of, e, sp_fraction_of]
  refine ⟨by decide, fun rem ρ w' => w' = w ∧ ∃ ys zs a b, xs = ys ++ zs ∧ rem = zs.map fD ∧ ρ = [some (.lst (xs.map fD)), some (fD (sumQ ys)), a, b], ⟨rfl, [], xs, none, none, rfl, rfl, by rw [sumQ_nil]; rfl⟩, ?_, ?_⟩
  · rintro ρ w' ⟨rfl, ys, zs, a, b, e1, e2, rfl⟩
    have : zs = [] := by simpa using e2.symm
    subst this
    rw [List.append_nil] at e1
    subst e1
    simp! only [id_eq]
    exact hk
  · rintro x rem ρ w' ⟨rfl, ys, zs, a0, b0, e1, e2, rfl⟩
    cases zs with
    | nil => cases e2
    | cons z zs =>
      rw [List.map_cons] at e2
      injection e2 with e2 e3
      subst e2
      subst e3
      subst e1
      have hy : FrB a ys := fun q hq => hF q (List.mem_append_left _ hq)
      obtain ⟨fz, lz⟩ := hF z (by simp)
      have fy := fr_sum fun q hq => (hy q hq).1
      have ly := sum_lt rfl hy
      have hle : (a + 1) * ys.length + 1 + a + 1 ≤ 3990 := by
        have h1 : (a + 1) * (ys.length + 1 + 1) ≤ (a + 1) * ((ys ++ z :: zs).length + 1) := Nat.mul_le_mul_left _ (by simp)
        rw [Nat.mul_succ, Nat.mul_succ] at h1
        omega
      simp! only [ixD_f0, ixD_f1, ggTup_f, fIsi_f, fLen_f, eqD_ff, neD_ff]
      have m1 := mulx_ok ly.1 lz.2 (by omega)
      have m2 := mulx_ok lz.1 ly.2 (by omega)
      have m3 := mulx_ok ly.2 lz.2 (by omega)
      have n0 : (sumQ ys).2 * z.2 ≠ 0 := Int.mul_ne_zero (by have := fy.pos; omega) (by have := fz.pos; omega)
      refine ⟨m1, m2, m3, _, _, rfl, ⟨n0, nat_mono (wide_lt ly.2 lz.2) (by omega)⟩, ?_⟩
      rw [sumQ_snoc (fun q hq => (hy q hq).1) fz]
      exact ⟨rfl, ys ++ [z], zs, _, _, by simp, rfl, rfl⟩
theorem ok_sum_of {P : Program} {w : World} {K : PySem.W.Frag} {mg : Str → Option Value} {base : Heap} (T : DefAt K mg "sum_of" s_sum_of ["parts"]) (B : Blt mg) (F_fraction_of : FnAt P w K mg base CX0 2 "fraction_of" 2 sp_fraction_of) : FnAt P w K mg base CX0 3 "sum_of" 1 sp_sum_of := (w_sum_of T B F_fraction_of).imp v_sum_of


theorem lt_sl {n : Nat} (h : n ≤ 100000) : n < sizeLine := Nat.lt_of_le_of_lt h (by decide)
theorem le_sl {n : Nat} (h : n ≤ 100000) : n ≤ sizeLine := Nat.le_of_lt (lt_sl h)

def lessQ (x y : Qp) : Bool := decide (x.1 * y.2 < y.1 * x.2)
def sp_is_less : GF := fun ds w _ k => ∃ x y : Qp, ds = [fD x, fD y] ∧ (Lt2 4000 x ∧ Lt2 4000 y) ∧ k (.bl (lessQ x y)) w
abbrev s_is_less : Stmt := topS 4
theorem sc_is_less : FnScope ["one", "other"] ["one", "other"] (defScope s_is_less) := ⟨rfl, rfl, rfl, by decide +kernel, rfl, by decide +kernel, by decide +kernel⟩
def g_is_less : GS := (gRet (gBin ltD (gBin mulD (gBin ixD (gVar 0) (gC (.int 0))) (gBin ixD (gVar 1) (gC (.int 1)))) (gBin mulD (gBin ixD (gVar 1) (gC (.int 0))) (gBin ixD (gVar 0) (gC (.int 1))))))
theorem w_is_less {P : Program} {w : World} {K : PySem.W.Frag} {mg : Str → Option Value} {base : Heap} (T : DefAt K mg "is_less" s_is_less ["one", "other"]) (B : Blt mg) : FnAt P w K mg base CX0 1 "is_less" 2 (sem0 2 g_is_less) := by
  have nd := sc_is_less.nd
  exact T.fn0 sc_is_less (fun f cdv A outer s H E hr => (dss_one (ds_ret (de_lt (de_mul (de_ix (de_var 0) de_int) (de_ix (de_var 1) de_int)) (de_mul (de_ix (de_var 1) de_int) (de_ix (de_var 0) de_int))))))

theorem v_is_less : ∀ ds w kx k, sp_is_less ds w kx k → sem0 2 g_is_less ds w kx k := by
  rintro ds w kx k ⟨x, y, rfl, ⟨lx, ly⟩, hk⟩
  have e : rho 2 [fD x, fD y] = [some (fD x), some (fD y)] := rfl
  simp! only [g_is_less, e, ixD_f0, ixD_f1, ggTup_f, fIsi_f, fLen_f, eqD_ff, neD_ff]
  exact ⟨mulx_ok lx.1 ly.2 (by decide), mulx_ok ly.1 lx.2 (by decide), hk⟩
theorem ok_is_less {P : Program} {w : World} {K : PySem.W.Frag} {mg : Str → Option Value} {base : Heap} (T : DefAt K mg "is_less" s_is_less ["one", "other"]) (B : Blt mg) : FnAt P w K mg base CX0 1 "is_less" 2 sp_is_less := (w_is_less T B ).imp v_is_less


end LW

namespace LW
open PySem PySem.Spec PyProof.Rows L2 RZ DL
local macro_rules | `(tactic| simp! only [$xs,*] $[$loc]?) => `(tactic| simp only [$xs,*, sem0,List.map_cons,List.map_nil,List.length_cons,List.length_nil,gSeq,gNext,gRet,gRetN,gIfS,gSet,gPar,gAsg,gDrop,gVar,gC,gBin,gUn,gB,gTru,gAnd,gOr,gNot,gAndV,gOrV,gNotV,gIf,gChain,gaNil,gaCons,DL.gTup,DL.gLst,gCB,gCall0,gAug,addD_i,addD_s,addD_l,addD_t,subD_i,mulD_i,mulD_l,fdivD_i,modD_i,powD_i,ltD_i,ltD_s,leD_i,gtD_i,geD_i,isD_n,isnotD_n,isNonD_non,isNonD_bl,isNonD_int,isNonD_str,isNonD_lst,isNonD_tup,negD_i,iaddD_i,truD_non,truD_bl,truD_int,truD_str,truD_lst,truD_tup,someK_some,ixD_l,ixD_t,fAbs_i,fInt_i,fInt_b,fMin2_i,fLen_l,fLen_t,fLen_s,fList_l,fList_t,fTuple_l,fTuple_t,optBK_some,fIsi_non,fIsi_bl,fIsi_int,fIsi_str,fIsi_lst,fIsi_tup,List.getElem?_cons_zero,List.getElem?_cons_succ,List.set_cons_zero,List.set_cons_succ,DL.ggName,ggNil0,ggCons1,ggTup2,ggTup3,gFor,giSeq,gLc,gYes,wipeR,true_and,and_true,at_0,at_1,at_2,kit_int_int,kit_bool_int,kit_str_int,kit_non_int,kit_list_int,kit_tuple_int,kit_int_bool,kit_bool_bool,kit_str_bool,kit_non_bool,kit_list_bool,kit_tuple_bool,kit_int_str,kit_bool_str,kit_str_str,kit_non_str,kit_list_str,kit_tuple_str,kit_int_list,kit_bool_list,kit_str_list,kit_non_list,kit_list_list,kit_tuple_list,kit_int_tuple,kit_bool_tuple,kit_str_tuple,kit_non_tuple,kit_list_tuple,kit_tuple_tuple,eqD_i,neD_i,eqD_s,neD_s,eqD_f,neD_f,Nat.zero_add,Nat.reduceAdd,nc0,nc1,nc2,nc3,nc4,nc5,nc6,nc7,nc8,nc9,eq_self,decide_true,decide_false,Int.reduceEq,Int.reduceLT,Int.reduceLE,Int.reduceNeg,Bool.not_true,Bool.not_false,Bool.false_eq_true,if_true,if_false,↓reduceIte,false_and,and_false,List.all_cons,List.all_nil,List.any_cons,List.any_nil,id_eq,Bool.and_true,Bool.true_and,Bool.or_false,Bool.false_or,Bool.and_false,Bool.false_and,gCut,eqD_b,neD_b,giZip,reduceCtorEq,Bool.true_eq_false,Bool.false_eq_true,gRevL,gSl,goNone,goSome,slD_l,ne_eq,not_false_eq_true,not_true_eq_false,gBM,isTy_l,isTy_s,new_at,new_set,isTy_new,cellK_new,append_new,popAt_new,gFrz_eq,frzK_new,fLen_new,fTuple_new,ixD_new,slA_l,slA_t,slA_new,addTD_t,addCD_l,mulCD_l,isbD_b,isnotbD_b,mSplitC_s,gLstC,gTr,ggSub,lstK_l,lstK_r,addLD_eq] $[$loc]?)


mutual
def anyD (M : List Cell) : D → Bool
  | .non => true
  | .bl _ => true
  | .int i => decide (i.natAbs < 2 ^ 600)
  | .str s => PyData.strOk s && decide (s.length ≤ 100)
  | .lst xs => anyDs M xs && decide (xs.length ≤ 1000)
  | .tup xs => anyDs M xs && decide (xs.length ≤ 1000)
  | .rf i => (match M[i]? with | some (.dk _) => true | _ => false)
  | .st => false
  | .ob _ => false
  | .scr _ => false
def anyDs (M : List Cell) : List D → Bool
  | [] => true
  | x :: xs => anyD M x && anyDs M xs
end
theorem anyDs_iff {M : List Cell} : ∀ {xs : List D}, anyDs M xs = true ↔ ∀ x ∈ xs, anyD M x = true
  | [] => by simp [anyDs]
  | x :: xs => by rw [anyDs, Bool.and_eq_true, anyDs_iff, List.forall_mem_cons]
theorem any_tup {M : List Cell} {xs : List D} (h : anyD M (.tup xs) = true) : (∀ x ∈ xs, anyD M x = true) ∧ xs.length ≤ 1000 := by
  rw [anyD, Bool.and_eq_true, anyDs_iff, decide_eq_true_eq] at h
  exact h
theorem any_lst {M : List Cell} {xs : List D} (h : anyD M (.lst xs) = true) : (∀ x ∈ xs, anyD M x = true) ∧ xs.length ≤ 1000 := by
  rw [anyD, Bool.and_eq_true, anyDs_iff, decide_eq_true_eq] at h
  exact h
theorem any_str {M : List Cell} {s : Str} (h : anyD M (.str s) = true) : PyData.strOk s = true ∧ s.length ≤ 100 := by
  rw [anyD, Bool.and_eq_true, decide_eq_true_eq] at h
  exact h
def isI : D → Bool
  | .int _ => true
  | .bl _ => true
  | _ => false
def isBl : D → Bool
  | .bl _ => true
  | _ => false
def isS : D → Bool
  | .str _ => true
  | _ => false
def isT : D → Bool
  | .tup _ => true
  | _ => false
def isL : D → Bool
  | .lst _ => true
  | .tup _ => true
  | _ => false
def isLs : D → Bool
  | .lst _ => true
  | _ => false
theorem any_rf {w : Wd} {i : Nat} (h : anyD w.M (.rf i) = true) : ∃ kvs, w.M[i]? = some (.dk kvs) := by
  unfold anyD at h
  split at h
  · rename_i kvs e
    exact ⟨kvs, e⟩
  · cases h
theorem tyD_rf {w : Wd} {i : Nat} (h : anyD w.M (.rf i) = true) : tyD (.rf i) w = some "dict" := by
  obtain ⟨kvs, e⟩ := any_rf h
  unfold tyD
  simp only [e]
section
variable {w : Wd} {k : KD} {x : D}
theorem isi_int (h : anyD w.M x = true) : fIsi [x, .ob (.ty "int")] w k = k (.bl (isI x)) w := by
  cases x with
  | rf i =>
    show (match tyD (.rf i) w with | some t => (match kitB t "int" with | some b => k (.bl b) w | none => False) | none => False) = _
    rw [tyD_rf h]
    simp only [kit_dict_int]
    rfl
  | st => cases h
  | ob v => cases h
  | scr ns => cases h
  | _ => simp! only [id_eq]; rfl
theorem isi_bool (h : anyD w.M x = true) : fIsi [x, .ob (.ty "bool")] w k = k (.bl (isBl x)) w := by
  cases x with
  | rf i =>
    show (match tyD (.rf i) w with | some t => (match kitB t "bool" with | some b => k (.bl b) w | none => False) | none => False) = _
    rw [tyD_rf h]
    simp only [kit_dict_bool]
    rfl
  | st => cases h
  | ob v => cases h
  | scr ns => cases h
  | _ => simp! only [id_eq]; rfl
theorem isi_str (h : anyD w.M x = true) : fIsi [x, .ob (.ty "str")] w k = k (.bl (isS x)) w := by
  cases x with
  | rf i =>
    show (match tyD (.rf i) w with | some t => (match kitB t "str" with | some b => k (.bl b) w | none => False) | none => False) = _
    rw [tyD_rf h]
    simp only [show kitB "dict" "str" = some false by decide +kernel]
    rfl
  | st => cases h
  | ob v => cases h
  | scr ns => cases h
  | _ => simp! only [id_eq]; rfl
theorem isi_tup (h : anyD w.M x = true) : fIsi [x, .ob (.ty "tuple")] w k = k (.bl (isT x)) w := by
  cases x with
  | rf i =>
    show (match tyD (.rf i) w with | some t => (match kitB t "tuple" with | some b => k (.bl b) w | none => False) | none => False) = _
    rw [tyD_rf h]
    simp only [show kitB "dict" "tuple" = some false by decide +kernel]
    rfl
  | st => cases h
  | ob v => cases h
  | scr ns => cases h
  | _ => simp! only [id_eq]; rfl
theorem isi_lt (h : anyD w.M x = true) : fIsLT [x, .tup [.ob (.ty "list"), .ob (.ty "tuple")]] w k = k (.bl (isL x)) w := by
  cases x with
  | rf i =>
    show (match tyD (.rf i) w with | some t => (if t = "list" ∨ t = "tuple" then k (.bl true) w else if t = "NoneType" ∨ t = "bool" ∨ t = "int" ∨ t = "str" ∨ t = "dict" then k (.bl false) w else False) | none => False) = _
    rw [tyD_rf h]
    simp [isL]
  | st => cases h
  | ob v => cases h
  | scr ns => cases h
  | _ => simp [fIsLT, tyD, isL]
end
theorem all_map {α : Type} {xs : List α} {p : α → Bool} {w : Wd} {k : KD} (hk : k (.bl (xs.all p)) w) : fAll [.lst (xs.map fun x => D.bl (p x))] w k := by
  have e : ∀ xs : List α, DL.allBl (xs.map fun x => D.bl (p x)) = some (xs.map p) := fun xs => by
    induction xs with
    | nil => rfl
    | cons x l ih =>
      rw [List.map_cons, DL.allBl, ih]
      rfl
  unfold fAll
  simp only [e]
  rw [List.all_map]
  exact hk
def wholeB : D → Bool
  | .int _ => true
  | _ => false
def frcB : D → Bool
  | .tup [.int a, .int b] => decide (0 < b) && decide (Int.gcd a b = 1)
  | _ => false
theorem frc_i {a b : Int} : frcB (.tup [.int a, .int b]) = (decide (0 < b) && decide (Int.gcd a b = 1)) := rfl
theorem frc_len {xs : List D} (h : ¬ (xs.length : Int) = 2) : frcB (.tup xs) = false := by
  unfold frcB
  split
  · rename_i e
    injection e with e
    subst e
    exact absurd rfl h
  · rfl
def small : Str := "abcdefghijklmnopqrstuvwxyz"
def nameB : D → Bool
  | .str s => decide (1 ≤ s.length) && decide (s.length ≤ 8) && s.cps.toList.all fun c => decide (c ∈ small.cps.toList)
  | _ => false
def natB : D → Bool
  | .int i => decide (0 ≤ i)
  | _ => false
def stB : D → Bool
  | .tup [n, a, b, c, d, e, f, g, h] => nameB n && (frcB a && frcB b && frcB e && frcB f) && (natB c && natB d && natB g && natB h)
  | _ => false
theorem frc_int {a b : Int} : frcB (.tup [.int a, .int b]) = true ↔ Fr (a, b) := by
  unfold frcB
  rw [Bool.and_eq_true, decide_eq_true_eq, decide_eq_true_eq]
  exact ⟨fun h => ⟨h.1, h.2⟩, fun h => ⟨h.pos, h.cop⟩⟩
theorem norm_iff {a b : Int} (hb : 0 < b) : (norm a b = (a, b)) ↔ Int.gcd a b = 1 := by
  have hn : b ≠ 0 := by omega
  constructor
  · intro h
    have := (fr_norm (t := a) hn).cop
    rw [h] at this
    exact this
  · intro h
    exact norm_self (x := (a, b)) ⟨hb, h⟩
theorem eq_fD {a b : Int} {w : Wd} {k : KD} (hb : 0 < b) : eqD (fD (norm a b)) (.tup [.int a, .int b]) w k = k (.bl (decide (Int.gcd a b = 1))) w := by
  show eqD (fD (norm a b)) (fD (a, b)) w k = _
  rw [eqD_ff]
  congr 2
  exact decide_eq_decide.mpr (norm_iff hb)
theorem big600 {b : Int} (h : b.natAbs < 2 ^ 600) : Big b := nat_mono h (by decide)
def sp_is_whole : GF := fun ds w _ k => ∃ x : D, ds = [x] ∧ anyD w.M x = true ∧ k (.bl (wholeB x)) w
abbrev s_is_whole : Stmt := topS 11
theorem sc_is_whole : FnScope ["thing"] ["thing"] (defScope s_is_whole) := ⟨rfl, rfl, rfl, by decide +kernel, rfl, by decide +kernel, by decide +kernel⟩
def g_is_whole : GS := (gRet (gAndV (gCB fIsi (gaCons (gVar 0) (gaCons (gC (.ob (.ty "int"))) gaNil))) (gNotV (gCB fIsi (gaCons (gVar 0) (gaCons (gC (.ob (.ty "bool"))) gaNil))))))
theorem w_is_whole {P : Program} {w : World} {K : PySem.W.Frag} {mg : Str → Option Value} {base : Heap} (T : DefAt K mg "is_whole" s_is_whole ["thing"]) (B : Blt mg) : FnAt P w K mg base CX0 1 "is_whole" 1 (sem0 1 g_is_whole) := by
  have nd := sc_is_whole.nd
  exact T.fn0 sc_is_whole (fun f cdv A outer s H E hr => (dss_one (ds_ret (de_and (de_isi B (by rfl) (da_cons (de_var 0) (da_cons (de_type (by rfl) B.int_ (by decide +kernel)) da_nil))) (de_one (de_not (de_isi B (by rfl) (da_cons (de_var 0) (da_cons (de_type (by rfl) B.bool_ (by decide +kernel)) da_nil)))))))))

theorem v_is_whole : ∀ ds w kx k, sp_is_whole ds w kx k → sem0 1 g_is_whole ds w kx k := by
  rintro ds w kx k ⟨x, rfl, h, hk⟩
  have e : rho 1 [x] = [some x] := rfl
  simp! only [g_is_whole, e, isi_int h, isi_bool h]
  cases x <;> exact hk
theorem ok_is_whole {P : Program} {w : World} {K : PySem.W.Frag} {mg : Str → Option Value} {base : Heap} (T : DefAt K mg "is_whole" s_is_whole ["thing"]) (B : Blt mg) : FnAt P w K mg base CX0 1 "is_whole" 1 sp_is_whole := (w_is_whole T B ).imp v_is_whole

def pairB : D → Bool
  | .tup [.int _, .int _] => true
  | _ => false
theorem two_of {xs : List D} (h : (xs.length : Int) = 2) : ∃ a b, xs = [a, b] := by
  match xs with
  | [a, b] => exact ⟨a, b, rfl⟩
  | [] => simp at h
  | [_] => simp at h
  | _ :: _ :: _ :: _ => simp at h; omega
def sp_is_told_fraction : GF := fun ds w _ k => ∃ x : D, ds = [x] ∧ anyD w.M x = true ∧ k (.bl (frcB x)) w
abbrev s_is_told_fraction : Stmt := topS 12
theorem sc_is_told_fraction : FnScope ["thing", "part"] ["thing"] (defScope s_is_told_fraction) := ⟨rfl, rfl, rfl, by decide +kernel, rfl, by decide +kernel, by decide +kernel⟩
def g_is_told_fraction : GS := (gSeq (gIfS (gOr (gNot (gTru (gCB fIsi (gaCons (gVar 0) (gaCons (gC (.ob (.ty "tuple"))) gaNil))))) (gOr (gB (gBin neD (gCB fLen (gaCons (gVar 0) gaNil)) (gC (.int 2)))) (gNot (gTru (gCB fAll (gaCons (gLc (giSeq (gVar 0)) (ggName 1) gYes (gCall0 1 sp_is_whole (gaCons (gVar 1) gaNil)) [1]) gaNil)))))) (gRet (gC (.bl false))) gNext)
  (gRet (gAndV (gBin gtD (gBin ixD (gVar 0) (gC (.int 1))) (gC (.int 0))) (gBin eqD (gCall0 2 sp_fraction_of (gaCons (gBin ixD (gVar 0) (gC (.int 0))) (gaCons (gBin ixD (gVar 0) (gC (.int 1))) gaNil))) (gVar 0)))))
theorem w_is_told_fraction {P : Program} {w : World} {K : PySem.W.Frag} {mg : Str → Option Value} {base : Heap} (T : DefAt K mg "is_told_fraction" s_is_told_fraction ["thing"]) (B : Blt mg) (F_fraction_of : FnAt P w K mg base CX0 2 "fraction_of" 2 sp_fraction_of) (F_is_whole : FnAt P w K mg base CX0 1 "is_whole" 1 sp_is_whole) : FnAt P w K mg base CX0 3 "is_told_fraction" 1 (sem0 2 g_is_told_fraction) := by
  have nd := sc_is_told_fraction.nd
  exact T.fn0 sc_is_told_fraction (fun f cdv A outer s H E hr => (dss_cons (ds_if (dt_w (dw_or (dt_not (dt_truth (de_isi B (by rfl) (da_cons (de_var 0) (da_cons (de_type (by rfl) B.tuple_ (by decide +kernel)) da_nil))))) (dw_or (dt_ne hr (de_len B (by rfl) (da_cons (de_var 0) da_nil)) de_int) (dw_or1 (dt_not (dt_truth (de_all B rfl (by rfl) (da_cons (de_lc (own := [("part", 1)]) (us := [1]) rfl nd (di_seq (de_var 0)) (blkOk_by (N := ["thing", "part"]) (sc := defScope s_is_told_fraction) (by decide +kernel)) (by decide) (fun _ _ _ _ _ => (dg_name (i := 1) nd rfl (by first | exact Or.inl rfl | exact Or.inr rfl))) (fun _ _ _ _ _ => dts_nil) (fun _ _ _ _ _ => (de_call0 F_is_whole hr (by rfl) (da_cons (de_var 1) da_nil)))) da_nil)))))))) (dss_one (ds_ret de_bl)) dss_nil)
  (dss_one (ds_ret (de_and (de_gt (de_ix (de_var 0) de_int) de_int) (de_one (de_eq hr (de_call0 F_fraction_of hr (by rfl) (da_cons (de_ix (de_var 0) de_int) (da_cons (de_ix (de_var 0) de_int) da_nil))) (de_var 0))))))))

theorem v_is_told_fraction : ∀ ds w kx k, sp_is_told_fraction ds w kx k → sem0 2 g_is_told_fraction ds w kx k := by
  rintro ds w kx k ⟨x, rfl, h, hk⟩
  have e : rho 2 [x] = [some x, none] := rfl
  simp! only [g_is_told_fraction, e, isi_tup h]
  cases x with
  | tup xs =>
    simp! only [isT]
    by_cases hl : (xs.length : Int) = 2
    · rw [decide_eq_true hl]
      obtain ⟨a, b, rfl⟩ := two_of hl
      have h := (any_tup h).1
      simp! only [id_eq]
      refine lc_ty id (fun z => .bl (wholeB z)) [a, b] trivial (by simp) (fun z hz k' hk' => ?_) ?_
      · simp! only [sp_is_whole]
        exact ⟨z, rfl, h z hz, hk'⟩
      refine all_map ?_
      simp! only [id_eq]
      cases a with
      | int a =>
        cases b with
        | int b =>
          simp! only [wholeB, sp_fraction_of]
          by_cases hb : 0 < b
          · have hB : b.natAbs < 2 ^ 600 := by simpa [anyD] using h (.int b) (by simp)
            rw [decide_eq_true hb]
            simp! only [id_eq]
            refine ⟨a, b, rfl, ⟨by omega, big600 hB⟩, ?_⟩
            rw [eq_fD hb]
            rw [frc_i, decide_eq_true hb, Bool.true_and] at hk
            exact hk
          · rw [decide_eq_false hb]
            simp! only [id_eq]
            rw [frc_i, decide_eq_false hb, Bool.false_and] at hk
            exact hk
        | _ => simp! only [wholeB]; exact hk
      | _ => simp! only [wholeB]; exact hk
    · rw [decide_eq_false hl]
      simp! only [id_eq]
      rw [frc_len hl] at hk
      exact hk
  | _ => simp! only [isT]; exact hk
theorem ok_is_told_fraction {P : Program} {w : World} {K : PySem.W.Frag} {mg : Str → Option Value} {base : Heap} (T : DefAt K mg "is_told_fraction" s_is_told_fraction ["thing"]) (B : Blt mg) (F_fraction_of : FnAt P w K mg base CX0 2 "fraction_of" 2 sp_fraction_of) (F_is_whole : FnAt P w K mg base CX0 1 "is_whole" 1 sp_is_whole) : FnAt P w K mg base CX0 3 "is_told_fraction" 1 sp_is_told_fraction := (w_is_told_fraction T B F_fraction_of F_is_whole).imp v_is_told_fraction

def sp_is_told_name : GF := fun ds w _ k => ∃ x : D, ds = [x] ∧ anyD w.M x = true ∧ k (.bl (nameB x)) w
abbrev s_is_told_name : Stmt := topS 13
theorem sc_is_told_name : FnScope ["thing", "sign"] ["thing"] (defScope s_is_told_name) := ⟨rfl, rfl, rfl, by decide +kernel, rfl, by decide +kernel, by decide +kernel⟩
def g_is_told_name : GS := (gRet (gAndV (gCB fIsi (gaCons (gVar 0) (gaCons (gC (.ob (.ty "str"))) gaNil))) (gAndV (gChain leD leD (gC (.int 1)) (gCB fLen (gaCons (gVar 0) gaNil)) (gC (.int (8)))) (gCB fAll (gaCons (gLc (giStr (gVar 0)) (ggName 1) gYes (gBin inSD (gVar 1) (gC (.str "abcdefghijklmnopqrstuvwxyz"))) [1]) gaNil)))))
theorem w_is_told_name {P : Program} {w : World} {K : PySem.W.Frag} {mg : Str → Option Value} {base : Heap} (T : DefAt K mg "is_told_name" s_is_told_name ["thing"]) (B : Blt mg) {t_MOST_NAME : Tok} (c_MOST_NAME : mg "MOST_NAME" = some (.int (8) t_MOST_NAME)) {t_SMALL : Tok} (c_SMALL : mg "SMALL" = some (.str "abcdefghijklmnopqrstuvwxyz" t_SMALL)) : FnAt P w K mg base CX0 1 "is_told_name" 1 (sem0 2 g_is_told_name) := by
  have nd := sc_is_told_name.nd
  exact T.fn0 sc_is_told_name (fun f cdv A outer s H E hr => (dss_one (ds_ret (de_and (de_isi B (by rfl) (da_cons (de_var 0) (da_cons (de_type (by rfl) B.str_ (by decide +kernel)) da_nil))) (de_and (de_chain op_le ok_leD op_le ok_leD de_int (de_len B (by rfl) (da_cons (de_var 0) da_nil)) (de_gint (by rfl) c_MOST_NAME)) (de_one (de_all B rfl (by rfl) (da_cons (de_lc (own := [("sign", 1)]) (us := [1]) rfl nd (di_str (de_var 0)) (blkOk_by (N := ["thing", "sign"]) (sc := defScope s_is_told_name) (by decide +kernel)) (by decide) (fun _ _ _ _ _ => (dg_name (i := 1) nd rfl (by first | exact Or.inl rfl | exact Or.inr rfl))) (fun _ _ _ _ _ => dts_nil) (fun _ _ _ _ _ => (de_inS (de_var 1) (de_gstr (by rfl) c_SMALL)))) da_nil))))))))

theorem v_is_told_name : ∀ ds w kx k, sp_is_told_name ds w kx k → sem0 2 g_is_told_name ds w kx k := by
  rintro ds w kx k ⟨x, rfl, h, hk⟩
  have e : rho 2 [x] = [some x, none] := rfl
  simp! only [g_is_told_name, e, giStr, inSD, isi_str h]
  cases x with
  | str s =>
    simp! only [isS]
    have hn : nameB (.str s) = (decide (1 ≤ s.length) && decide (s.length ≤ 8) && s.cps.toList.all fun c => decide (c ∈ small.cps.toList)) := rfl
    rw [hn] at hk
    by_cases h1 : (1 : Int) ≤ (s.length : Int) ∧ (s.length : Int) ≤ 8
    · rw [decide_eq_true (show 1 ≤ s.length by omega), decide_eq_true (show s.length ≤ 8 by omega), Bool.true_and, Bool.true_and] at hk
      rw [decide_eq_true h1.1]
      simp! only [id_eq]
      rw [decide_eq_true h1.2]
      simp! only [id_eq]
      refine ⟨lt_sl (by omega) |> Nat.le_of_lt, ?_⟩
      refine lc_ty (fun c => D.str ⟨#[c]⟩) (fun c => D.bl (decide (c ∈ small.cps.toList))) s.cps.toList trivial (by
        have : s.cps.toList.length = s.length := Array.length_toList
        omega) (fun c hc k' hk' => ?_) ?_
      · simp! only [inSD]
        exact ⟨c, rfl, hk'⟩
      · refine all_map ?_
        exact hk
    · have hf : (decide (1 ≤ s.length) && decide (s.length ≤ 8)) = false := by
        rw [Bool.and_eq_false_iff, decide_eq_false_iff_not, decide_eq_false_iff_not]
        omega
      rw [hf, Bool.false_and] at hk
      by_cases h2 : (1 : Int) ≤ (s.length : Int)
      · rw [decide_eq_true h2]
        simp! only [id_eq]
        rw [decide_eq_false (show ¬ (s.length : Int) ≤ 8 by omega)]
        simp! only [id_eq]
        exact ⟨le_sl (by have := (any_str h).2; omega), hk⟩
      · rw [decide_eq_false h2]
        simp! only [id_eq]
        exact ⟨le_sl (by have := (any_str h).2; omega), hk⟩
  | _ => simp! only [isS]; exact hk
theorem ok_is_told_name {P : Program} {w : World} {K : PySem.W.Frag} {mg : Str → Option Value} {base : Heap} (T : DefAt K mg "is_told_name" s_is_told_name ["thing"]) (B : Blt mg) {t_MOST_NAME : Tok} (c_MOST_NAME : mg "MOST_NAME" = some (.int (8) t_MOST_NAME)) {t_SMALL : Tok} (c_SMALL : mg "SMALL" = some (.str "abcdefghijklmnopqrstuvwxyz" t_SMALL)) : FnAt P w K mg base CX0 1 "is_told_name" 1 sp_is_told_name := (w_is_told_name T B  c_MOST_NAME c_SMALL).imp v_is_told_name

theorem nine_of {xs : List D} (h : (xs.length : Int) = 9) : ∃ n a b c d e f g i, xs = [n, a, b, c, d, e, f, g, i] := by
  match xs with
  | [n, a, b, c, d, e, f, g, i] => exact ⟨n, a, b, c, d, e, f, g, i, rfl⟩
  | [] => simp at h
  | [_] => simp at h
  | [_, _] => simp at h
  | [_, _, _] => simp at h
  | [_, _, _, _] => simp at h
  | [_, _, _, _, _] => simp at h
  | [_, _, _, _, _, _] => simp at h
  | [_, _, _, _, _, _, _] => simp at h
  | [_, _, _, _, _, _, _, _] => simp at h
  | _ :: _ :: _ :: _ :: _ :: _ :: _ :: _ :: _ :: _ :: _ => simp at h; omega
theorem st_len {xs : List D} (h : ¬ (xs.length : Int) = 9) : stB (.tup xs) = false := by
  unfold stB
  split
  · rename_i e
    injection e with e
    subst e
    exact absurd rfl h
  · rfl
section
variable {n a b c d e f g i : D}
theorem st_i1 : atI [n, a, b, c, d, e, f, g, i] 1 = some a := rfl
theorem st_i2 : atI [n, a, b, c, d, e, f, g, i] 2 = some b := rfl
theorem st_i3 : atI [n, a, b, c, d, e, f, g, i] 3 = some c := rfl
theorem st_i4 : atI [n, a, b, c, d, e, f, g, i] 4 = some d := rfl
theorem st_i5 : atI [n, a, b, c, d, e, f, g, i] 5 = some e := rfl
theorem st_i6 : atI [n, a, b, c, d, e, f, g, i] 6 = some f := rfl
theorem st_i7 : atI [n, a, b, c, d, e, f, g, i] 7 = some g := rfl
theorem st_i8 : atI [n, a, b, c, d, e, f, g, i] 8 = some i := rfl
end
def sp_is_statement : GF := fun ds w _ k => ∃ x : D, ds = [x] ∧ anyD w.M x = true ∧ k (.bl (stB x)) w
abbrev s_is_statement : Stmt := topS 14
theorem sc_is_statement : FnScope ["thing", "place"] ["thing"] (defScope s_is_statement) := ⟨rfl, rfl, rfl, by decide +kernel, rfl, by decide +kernel, by decide +kernel⟩
def g_is_statement : GS := (gSeq (gIfS (gOr (gNot (gTru (gCB fIsi (gaCons (gVar 0) (gaCons (gC (.ob (.ty "tuple"))) gaNil))))) (gOr (gB (gBin neD (gCB fLen (gaCons (gVar 0) gaNil)) (gC (.int (9))))) (gNot (gTru (gCall0 1 sp_is_told_name (gaCons (gBin ixD (gVar 0) (gC (.int 0))) gaNil)))))) (gRet (gC (.bl false))) gNext)
  (gSeq (gIfS (gNot (gTru (gCB fAll (gaCons (gLc (giSeq (gTup (gaCons (gC (.int 1)) (gaCons (gC (.int 2)) (gaCons (gC (.int 5)) (gaCons (gC (.int 6)) gaNil)))))) (ggName 1) gYes (gCall0 1 sp_is_told_fraction (gaCons (gBin ixD (gVar 0) (gVar 1)) gaNil)) [1]) gaNil)))) (gRet (gC (.bl false))) gNext)
  (gRet (gCB fAll (gaCons (gLc (giSeq (gTup (gaCons (gC (.int 3)) (gaCons (gC (.int 4)) (gaCons (gC (.int 7)) (gaCons (gC (.int 8)) gaNil)))))) (ggName 1) gYes (gAndV (gCall0 1 sp_is_whole (gaCons (gBin ixD (gVar 0) (gVar 1)) gaNil)) (gBin geD (gBin ixD (gVar 0) (gVar 1)) (gC (.int 0)))) [1]) gaNil)))))
theorem w_is_statement {P : Program} {w : World} {K : PySem.W.Frag} {mg : Str → Option Value} {base : Heap} (T : DefAt K mg "is_statement" s_is_statement ["thing"]) (B : Blt mg) (F_is_told_name : FnAt P w K mg base CX0 1 "is_told_name" 1 sp_is_told_name) (F_is_told_fraction : FnAt P w K mg base CX0 3 "is_told_fraction" 1 sp_is_told_fraction) (F_is_whole : FnAt P w K mg base CX0 1 "is_whole" 1 sp_is_whole) {t_PIECES : Tok} (c_PIECES : mg "PIECES" = some (.int (9) t_PIECES)) : FnAt P w K mg base CX0 4 "is_statement" 1 (sem0 2 g_is_statement) := by
  have nd := sc_is_statement.nd
  exact T.fn0 sc_is_statement (fun f cdv A outer s H E hr => (dss_cons (ds_if (dt_w (dw_or (dt_not (dt_truth (de_isi B (by rfl) (da_cons (de_var 0) (da_cons (de_type (by rfl) B.tuple_ (by decide +kernel)) da_nil))))) (dw_or (dt_ne hr (de_len B (by rfl) (da_cons (de_var 0) da_nil)) (de_gint (by rfl) c_PIECES)) (dw_or1 (dt_not (dt_truth (de_call0 F_is_told_name hr (by rfl) (da_cons (de_ix (de_var 0) de_int) da_nil)))))))) (dss_one (ds_ret de_bl)) dss_nil)
  (dss_cons (ds_if (dt_not (dt_truth (de_all B rfl (by rfl) (da_cons (de_lc (own := [("place", 1)]) (us := [1]) rfl nd (di_seq (de_tup (da_cons de_int (da_cons de_int (da_cons de_int (da_cons de_int da_nil)))))) (blkOk_by (N := ["thing", "place"]) (sc := defScope s_is_statement) (by decide +kernel)) (by decide) (fun _ _ _ _ _ => (dg_name (i := 1) nd rfl (by first | exact Or.inl rfl | exact Or.inr rfl))) (fun _ _ _ _ _ => dts_nil) (fun _ _ _ _ _ => (de_call0 F_is_told_fraction hr (by rfl) (da_cons (de_ix (de_var 0) (de_var 1)) da_nil)))) da_nil)))) (dss_one (ds_ret de_bl)) dss_nil)
  (dss_one (ds_ret (de_all B rfl (by rfl) (da_cons (de_lc (own := [("place", 1)]) (us := [1]) rfl nd (di_seq (de_tup (da_cons de_int (da_cons de_int (da_cons de_int (da_cons de_int da_nil)))))) (blkOk_by (N := ["thing", "place"]) (sc := defScope s_is_statement) (by decide +kernel)) (by decide) (fun _ _ _ _ _ => (dg_name (i := 1) nd rfl (by first | exact Or.inl rfl | exact Or.inr rfl))) (fun _ _ _ _ _ => dts_nil) (fun _ _ _ _ _ => (de_and (de_call0 F_is_whole hr (by rfl) (da_cons (de_ix (de_var 0) (de_var 1)) da_nil)) (de_one (de_ge (de_ix (de_var 0) (de_var 1)) de_int))))) da_nil)))))))

theorem v_is_statement : ∀ ds w kx k, sp_is_statement ds w kx k → sem0 2 g_is_statement ds w kx k := by
  rintro ds w kx k ⟨x, rfl, h, hk⟩
  have e : rho 2 [x] = [some x, none] := rfl
  simp! only [g_is_statement, e, isi_tup h, sp_is_told_name, sp_is_told_fraction, sp_is_whole]
  cases x with
  | tup xs =>
    simp! only [isT]
    by_cases hl : (xs.length : Int) = 9
    · obtain ⟨n, a, b, c, d, e1, f, g, i, rfl⟩ := nine_of hl
      have h := (any_tup h).1
      rw [decide_eq_true hl]
      simp! only [id_eq]
      refine ⟨n, rfl, h n (by simp), ?_⟩
      have hs : stB (.tup [n, a, b, c, d, e1, f, g, i]) = (nameB n && (frcB a && frcB b && frcB e1 && frcB f) && (natB c && natB d && natB g && natB i)) := rfl
      rw [hs] at hk
      cases hn : nameB n with
      | false =>
        rw [hn, Bool.false_and, Bool.false_and] at hk
        simp! only [id_eq]
        exact hk
      | true =>
        rw [hn, Bool.true_and] at hk
        simp! only [id_eq]
        refine ⟨by decide, ?_⟩
        refine lc_ty (fun p : Int × D => .int p.1) (fun p => .bl (frcB p.2)) [(1, a), (2, b), (5, e1), (6, f)] trivial (by simp) (fun p hp k' hk' => ?_) ?_
        · simp only [List.mem_cons, List.not_mem_nil, or_false] at hp
          rcases hp with rfl | rfl | rfl | rfl
          · simp! only [sp_is_told_fraction, st_i1]
            exact ⟨_, rfl, h a (by simp), hk'⟩
          · simp! only [sp_is_told_fraction, st_i2]
            exact ⟨_, rfl, h b (by simp), hk'⟩
          · simp! only [sp_is_told_fraction, st_i5]
            exact ⟨_, rfl, h e1 (by simp), hk'⟩
          · simp! only [sp_is_told_fraction, st_i6]
            exact ⟨_, rfl, h f (by simp), hk'⟩
        refine all_map ?_
        have q4 : ([(1, a), (2, b), (5, e1), (6, f)] : List (Int × D)).all (fun p => frcB p.2) = (frcB a && frcB b && frcB e1 && frcB f) := by simp [Bool.and_assoc]
        rw [q4]
        cases h4 : (frcB a && frcB b && frcB e1 && frcB f) with
        | false =>
          rw [h4, Bool.false_and] at hk
          simp! only [id_eq]
          exact hk
        | true =>
          rw [h4, Bool.true_and] at hk
          simp! only [id_eq]
          refine ⟨by decide, ?_⟩
          refine lc_ty (fun p : Int × D => .int p.1) (fun p => .bl (natB p.2)) [(3, c), (4, d), (7, g), (8, i)] trivial (by simp) (fun p hp k' hk' => ?_) ?_
          · have nat : ∀ z : D, anyD w.M z = true → k' (.bl (natB z)) w → ∃ y, [z] = [y] ∧ anyD w.M y = true ∧ (match D.bl (wholeB y) with | .bl true => geD z (.int 0) w k' | .bl false => k' (.bl false) w | x => False) := fun z hz hq => ⟨z, rfl, hz, by
              cases z with
              | int j => exact hq
              | _ => exact hq⟩
            simp only [List.mem_cons, List.not_mem_nil, or_false] at hp
            rcases hp with rfl | rfl | rfl | rfl
            · simp! only [sp_is_whole, st_i3]
              exact nat _ (h c (by simp)) hk'
            · simp! only [sp_is_whole, st_i4]
              exact nat _ (h d (by simp)) hk'
            · simp! only [sp_is_whole, st_i7]
              exact nat _ (h g (by simp)) hk'
            · simp! only [sp_is_whole, st_i8]
              exact nat _ (h i (by simp)) hk'
          refine all_map ?_
          have q5 : ([(3, c), (4, d), (7, g), (8, i)] : List (Int × D)).all (fun p => natB p.2) = (natB c && natB d && natB g && natB i) := by simp [Bool.and_assoc]
          rw [q5]
          exact hk
    · rw [decide_eq_false hl]
      simp! only [id_eq]
      rw [st_len hl] at hk
      exact hk
  | _ => simp! only [isT]; exact hk
theorem ok_is_statement {P : Program} {w : World} {K : PySem.W.Frag} {mg : Str → Option Value} {base : Heap} (T : DefAt K mg "is_statement" s_is_statement ["thing"]) (B : Blt mg) (F_is_told_name : FnAt P w K mg base CX0 1 "is_told_name" 1 sp_is_told_name) (F_is_told_fraction : FnAt P w K mg base CX0 3 "is_told_fraction" 1 sp_is_told_fraction) (F_is_whole : FnAt P w K mg base CX0 1 "is_whole" 1 sp_is_whole) {t_PIECES : Tok} (c_PIECES : mg "PIECES" = some (.int (9) t_PIECES)) : FnAt P w K mg base CX0 4 "is_statement" 1 sp_is_statement := (w_is_statement T B F_is_told_name F_is_told_fraction F_is_whole c_PIECES).imp v_is_statement

def nm0 : D → Str
  | .tup (.str s :: _) => s
  | _ => Str.empty
def ltS (x y : Str) : Bool := decide (x.cps.toList < y.cps.toList)
def upB : List Str → Bool
  | x :: y :: r => ltS x y && upB (y :: r)
  | _ => true
def seqL : D → List D
  | .lst xs => xs
  | .tup xs => xs
  | _ => []
def areB (x : D) : Bool := isL x && ((seqL x).all stB && upB ((seqL x).map nm0))
theorem st_form {x : D} (h : stB x = true) : ∃ s a b c d e f g i, x = .tup [.str s, a, b, c, d, e, f, g, i] ∧ frcB a = true ∧ frcB b = true ∧ frcB e = true ∧ frcB f = true ∧ natB c = true ∧ natB d = true ∧ natB g = true ∧ natB i = true ∧ nameB (.str s) = true := by
  unfold stB at h
  split at h
  · rename_i n a b c d e f g i
    rw [Bool.and_eq_true, Bool.and_eq_true, Bool.and_eq_true, Bool.and_eq_true, Bool.and_eq_true, Bool.and_eq_true, Bool.and_eq_true, Bool.and_eq_true] at h
    obtain ⟨⟨h1, ⟨⟨h2, h3⟩, h4⟩, h5⟩, ⟨⟨h6, h7⟩, h8⟩, h9⟩ := h
    cases n with
    | str s => exact ⟨s, a, b, c, d, e, f, g, i, rfl, h2, h3, h4, h5, h6, h7, h8, h9, h1⟩
    | _ => cases h1
  · cases h
theorem up_zip : ∀ xs : List D, (zipD xs (xs.drop 1)).all (fun p => match p with | .tup [x, y] => ltS (nm0 x) (nm0 y) | _ => true) = upB (xs.map nm0)
  | [] => rfl
  | [_] => rfl
  | x :: y :: r => by
    have ih := up_zip (y :: r)
    show (ltS (nm0 x) (nm0 y) && (zipD (y :: r) ((y :: r).drop 1)).all _) = (ltS (nm0 x) (nm0 y) && upB ((y :: r).map nm0))
    rw [ih]
theorem zip_form {xs ys : List D} {z : D} (h : z ∈ zipD xs ys) : ∃ x y, z = .tup [x, y] ∧ x ∈ xs ∧ y ∈ ys := by
  unfold zipD at h
  obtain ⟨i, hi, e⟩ := List.mem_iff_getElem.mp h
  rw [List.getElem_zipWith] at e
  exact ⟨_, _, e.symm, List.getElem_mem _, List.getElem_mem _⟩
def sp_are_statements : GF := fun ds w _ k => ∃ x : D, ds = [x] ∧ anyD w.M x = true ∧ k (.bl (areB x)) w
abbrev s_are_statements : Stmt := topS 15
theorem sc_are_statements : FnScope ["thing", "one", "other"] ["thing"] (defScope s_are_statements) := ⟨rfl, rfl, rfl, by decide +kernel, rfl, by decide +kernel, by decide +kernel⟩
def g_are_statements : GS := (gSeq (gIfS (gOr (gNot (gTru (gCB fIsLT (gaCons (gVar 0) (gaCons (gTup (gaCons (gC (.ob (.ty "list"))) (gaCons (gC (.ob (.ty "tuple"))) gaNil))) gaNil))))) (gNot (gTru (gCB fAll (gaCons (gLc (giSeq (gVar 0)) (ggName 1) gYes (gCall0 1 sp_is_statement (gaCons (gVar 1) gaNil)) [1]) gaNil))))) (gRet (gC (.bl false))) gNext)
  (gRet (gCB fAll (gaCons (gLc (giZipA (gaCons (gVar 0) (gaCons (gSl slA (gVar 0) (goSome (gC (.int 1))) goNone) gaNil))) (ggTup 2 (ggCons (ggName 1) (ggCons (ggName 2) ggNil))) gYes (gBin ltD (gBin ixD (gVar 1) (gC (.int 0))) (gBin ixD (gVar 2) (gC (.int 0)))) [1, 2]) gaNil))))
theorem w_are_statements {P : Program} {w : World} {K : PySem.W.Frag} {mg : Str → Option Value} {base : Heap} (T : DefAt K mg "are_statements" s_are_statements ["thing"]) (B : Blt mg) (F_is_statement : FnAt P w K mg base CX0 4 "is_statement" 1 sp_is_statement) : FnAt P w K mg base CX0 5 "are_statements" 1 (sem0 3 g_are_statements) := by
  have nd := sc_are_statements.nd
  exact T.fn0 sc_are_statements (fun f cdv A outer s H E hr => (dss_cons (ds_if (dt_w (dw_or (dt_not (dt_truth (de_isLT B (by rfl) (da_cons (de_var 0) (da_cons (de_tup (da_cons (de_type (by rfl) B.list_ (by decide +kernel)) (da_cons (de_type (by rfl) B.tuple_ (by decide +kernel)) da_nil))) da_nil))))) (dw_or1 (dt_not (dt_truth (de_all B rfl (by rfl) (da_cons (de_lc (own := [("one", 1)]) (us := [1]) rfl nd (di_seq (de_var 0)) (blkOk_by (N := ["thing", "one", "other"]) (sc := defScope s_are_statements) (by decide +kernel)) (by decide) (fun _ _ _ _ _ => (dg_name (i := 1) nd rfl (by first | exact Or.inl rfl | exact Or.inr rfl))) (fun _ _ _ _ _ => dts_nil) (fun _ _ _ _ _ => (de_call0 F_is_statement hr (by rfl) (da_cons (de_var 1) da_nil)))) da_nil))))))) (dss_one (ds_ret de_bl)) dss_nil)
  (dss_one (ds_ret (de_all B rfl (by rfl) (da_cons (de_lc (own := [("one", 1), ("other", 2)]) (us := [1, 2]) rfl nd (di_zipA B (by rfl) (da_cons (de_var 0) (da_cons (de_slA (de_var 0) (do_some de_int) do_none) da_nil))) (blkOk_by (N := ["thing", "one", "other"]) (sc := defScope s_are_statements) (by decide +kernel)) (by decide) (fun _ _ _ _ _ => (dg_tup rfl (dgs_cons (dg_name (i := 1) nd rfl (by first | exact Or.inl rfl | exact Or.inr rfl)) (dgs_cons (dg_name (i := 2) nd rfl (by first | exact Or.inl rfl | exact Or.inr rfl)) dgs_nil)))) (fun _ _ _ _ _ => dts_nil) (fun _ _ _ _ _ => (de_lt (de_ix (de_var 1) de_int) (de_ix (de_var 2) de_int)))) da_nil))))))

theorem seq_of {x : D} (h : isL x = true) : ∃ b xs, x = seqB b xs ∧ seqL x = xs := by
  cases x with
  | lst xs => exact ⟨false, xs, rfl, rfl⟩
  | tup xs => exact ⟨true, xs, rfl, rfl⟩
  | _ => cases h
theorem any_seq {M : List Cell} {b : Bool} {xs : List D} (h : anyD M (seqB b xs) = true) : (∀ x ∈ xs, anyD M x = true) ∧ xs.length ≤ 1000 := by
  cases b
  · exact any_lst h
  · exact any_tup h
theorem v_are_statements : ∀ ds w kx k, sp_are_statements ds w kx k → sem0 3 g_are_statements ds w kx k := by
  rintro ds w kx k ⟨x, rfl, h, hk⟩
  have e : rho 3 [x] = [some x, none, none] := rfl
  simp! only [g_are_statements, e, isi_lt h, giZipA, giZipM, sp_is_statement]
  unfold areB at hk
  cases hx : isL x with
  | false =>
    rw [hx, Bool.false_and] at hk
    simp! only [id_eq]
    exact ⟨by decide, hk⟩
  | true =>
    obtain ⟨b, xs, rfl, e2⟩ := seq_of hx
    obtain ⟨ha, hl⟩ := any_seq h
    rw [hx, e2, Bool.true_and] at hk
    simp! only [id_eq]
    refine ⟨by decide, ?_⟩
    have first : ∀ (K : KD), K (.lst (xs.map fun z => D.bl (stB z))) w → ∃ P : List D → List D → Wd → Prop, P xs [] w ∧ LcS (ggName 1) gYes (gCall0 1 sp_is_statement (gaCons (gVar 1) gaNil)) (fun _ => True) [some (seqB b xs), none, none] K P := fun K hK => by
      have q := lc_ty (gt := ggName 1) (ge := gCall0 1 sp_is_statement (gaCons (gVar 1) gaNil)) (Ok := fun _ => True) (ρ := [some (seqB b xs), none, none]) (k := K) (w := w) id (fun z => .bl (stB z)) xs trivial (by omega) (fun z hz k' hk' => by
        simp! only [sp_is_statement]
        exact ⟨z, rfl, ha z hz, hk'⟩) hK
      rw [List.map_id] at q
      exact q
    have second : (xs.all stB = true) → ∃ P : List D → List D → Wd → Prop, P (zipD xs (xs.drop 1)) [] w ∧ LcS (ggTup 2 (ggCons (ggName 1) (ggCons (ggName 2) ggNil))) gYes (gBin ltD (gBin ixD (gVar 1) (gC (D.int 0))) (gBin ixD (gVar 2) (gC (D.int 0)))) (fun _ => True) [some (seqB b xs), none, none] (fun x w1 => fAll [x] w1 k) P := fun hs => by
      have hs : ∀ z ∈ xs, stB z = true := List.all_eq_true.mp hs
      have q := lc_ty (gt := ggTup 2 (ggCons (ggName 1) (ggCons (ggName 2) ggNil))) (ge := gBin ltD (gBin ixD (gVar 1) (gC (D.int 0))) (gBin ixD (gVar 2) (gC (D.int 0)))) (Ok := fun _ => True) (ρ := [some (seqB b xs), none, none]) (k := fun x w1 => fAll [x] w1 k) (w := w)
        id (fun z => .bl (match z with | .tup [x, y] => ltS (nm0 x) (nm0 y) | _ => true)) (zipD xs (xs.drop 1)) trivial (by
          unfold zipD
          rw [List.length_zipWith]
          omega) (fun z hz k' hk' => by
        obtain ⟨x, y, rfl, hx, hy⟩ := zip_form hz
        obtain ⟨s1, a1, b1, c1, d1, e1, f1, g1, i1, rfl, _⟩ := st_form (hs x hx)
        obtain ⟨s2, a2, b2, c2, d2, e2, f2, g2, i2, rfl, _⟩ := st_form (hs y (List.mem_of_mem_drop hy))
        simp! only [id_eq]
        exact hk') (all_map (by
        rw [up_zip]
        have : xs.all stB = true := List.all_eq_true.mpr hs
        rw [this, Bool.true_and] at hk
        exact hk))
      rw [List.map_id] at q
      exact q
    cases b
    all_goals
      simp! only [seqB]
      refine first _ (all_map ?_)
      cases hs : xs.all stB with
      | false =>
        rw [hs, Bool.false_and] at hk
        simp! only [id_eq]
        exact hk
      | true =>
        simp! only [id_eq]
        have hc : ∀ ys : List D, DL.cutD ys (some 1) none = ys.drop 1 := fun ys => by
          unfold DL.cutD
          rw [HT.sIx_none, show (some (1 : Int)) = some ((1 : Nat) : Int) from rfl, HT.sIx_nat]
          cases ys with
          | nil => rfl
          | cons y ys =>
            rw [List.length_cons, Nat.min_eq_left (by omega), List.take_of_length_le (by rw [List.length_drop, List.length_cons]; exact Nat.le_refl _)]
        first
          | exact ⟨false, false, xs, _, rfl, by rw [hc]; exact second hs⟩
          | exact ⟨true, true, xs, _, rfl, by rw [hc]; exact second hs⟩
theorem ok_are_statements {P : Program} {w : World} {K : PySem.W.Frag} {mg : Str → Option Value} {base : Heap} (T : DefAt K mg "are_statements" s_are_statements ["thing"]) (B : Blt mg) (F_is_statement : FnAt P w K mg base CX0 4 "is_statement" 1 sp_is_statement) : FnAt P w K mg base CX0 5 "are_statements" 1 sp_are_statements := (w_are_statements T B F_is_statement).imp v_are_statements


end LW

namespace LW
open PySem PySem.Spec PyProof.Rows L2 RZ DL
local macro_rules | `(tactic| simp! only [$xs,*] $[$loc]?) => `(tactic| simp only [$xs,*, sem0,List.map_cons,List.map_nil,List.length_cons,List.length_nil,gSeq,gNext,gRet,gRetN,gIfS,gSet,gPar,gAsg,gDrop,gVar,gC,gBin,gUn,gB,gTru,gAnd,gOr,gNot,gAndV,gOrV,gNotV,gIf,gChain,gaNil,gaCons,DL.gTup,DL.gLst,gCB,gCall0,gAug,addD_i,addD_s,addD_l,addD_t,subD_i,mulD_i,mulD_l,fdivD_i,modD_i,powD_i,ltD_i,ltD_s,leD_i,gtD_i,geD_i,isD_n,isnotD_n,isNonD_non,isNonD_bl,isNonD_int,isNonD_str,isNonD_lst,isNonD_tup,negD_i,iaddD_i,truD_non,truD_bl,truD_int,truD_str,truD_lst,truD_tup,someK_some,ixD_l,ixD_t,fAbs_i,fInt_i,fInt_b,fMin2_i,fLen_l,fLen_t,fLen_s,fList_l,fList_t,fTuple_l,fTuple_t,optBK_some,fIsi_non,fIsi_bl,fIsi_int,fIsi_str,fIsi_lst,fIsi_tup,List.getElem?_cons_zero,List.getElem?_cons_succ,List.set_cons_zero,List.set_cons_succ,DL.ggName,ggNil0,ggCons1,ggTup2,ggTup3,gFor,giSeq,gLc,gYes,wipeR,true_and,and_true,at_0,at_1,at_2,kit_int_int,kit_bool_int,kit_str_int,kit_non_int,kit_list_int,kit_tuple_int,kit_int_bool,kit_bool_bool,kit_str_bool,kit_non_bool,kit_list_bool,kit_tuple_bool,kit_int_str,kit_bool_str,kit_str_str,kit_non_str,kit_list_str,kit_tuple_str,kit_int_list,kit_bool_list,kit_str_list,kit_non_list,kit_list_list,kit_tuple_list,kit_int_tuple,kit_bool_tuple,kit_str_tuple,kit_non_tuple,kit_list_tuple,kit_tuple_tuple,eqD_i,neD_i,eqD_s,neD_s,eqD_f,neD_f,Nat.zero_add,Nat.reduceAdd,nc0,nc1,nc2,nc3,nc4,nc5,nc6,nc7,nc8,nc9,eq_self,decide_true,decide_false,Int.reduceEq,Int.reduceLT,Int.reduceLE,Int.reduceNeg,Bool.not_true,Bool.not_false,Bool.false_eq_true,if_true,if_false,↓reduceIte,false_and,and_false,List.all_cons,List.all_nil,List.any_cons,List.any_nil,id_eq,Bool.and_true,Bool.true_and,Bool.or_false,Bool.false_or,Bool.and_false,Bool.false_and,gCut,eqD_b,neD_b,giZip,reduceCtorEq,Bool.true_eq_false,Bool.false_eq_true,gRevL,gSl,goNone,goSome,slD_l,ne_eq,not_false_eq_true,not_true_eq_false,gBM,isTy_l,isTy_s,new_at,new_set,isTy_new,cellK_new,append_new,popAt_new,gFrz_eq,frzK_new,fLen_new,fTuple_new,ixD_new,slA_l,slA_t,slA_new,addTD_t,addCD_l,mulCD_l,isbD_b,isnotbD_b,mSplitC_s,gLstC,gTr,ggSub,lstK_l,lstK_r,addLD_eq] $[$loc]?)


structure St where
  nm : Str
  ea : Qp
  fr : Qp
  wo : Int
  pa : Int
  op : Qp
  ke : Qp
  wr : Int
  ad : Int
def stD (s : St) : D := .tup [.str s.nm, fD s.ea, fD s.fr, .int s.wo, .int s.pa, fD s.op, fD s.ke, .int s.wr, .int s.ad]
structure StOk (s : St) : Prop where
  nm : nameB (.str s.nm) = true
  ea : Fr s.ea ∧ Lt2 600 s.ea
  fr : Fr s.fr ∧ Lt2 600 s.fr
  op : Fr s.op ∧ Lt2 600 s.op
  ke : Fr s.ke ∧ Lt2 600 s.ke
  wo : 0 ≤ s.wo ∧ s.wo.natAbs < 2 ^ 600
  pa : 0 ≤ s.pa ∧ s.pa.natAbs < 2 ^ 600
  wr : 0 ≤ s.wr
  ad : 0 ≤ s.ad
def tqD : D → Qp
  | .tup [.int a, .int b] => (a, b)
  | _ => (0, 1)
def tiD : D → Int
  | .int i => i
  | _ => 0
def tsD : D → Str
  | .str s => s
  | _ => Str.empty
def toSt : D → St
  | .tup [n, a, b, c, d, e, f, g, i] => ⟨tsD n, tqD a, tqD b, tiD c, tiD d, tqD e, tqD f, tiD g, tiD i⟩
  | _ => ⟨Str.empty, (0, 1), (0, 1), 0, 0, (0, 1), (0, 1), 0, 0⟩
theorem frc_form {M : List Cell} {x : D} (h : frcB x = true) (ha : anyD M x = true) : x = fD (tqD x) ∧ Fr (tqD x) ∧ Lt2 600 (tqD x) := by
  unfold frcB at h
  split at h
  · rename_i a b
    have q := (any_tup ha).1
    have q1 : a.natAbs < 2 ^ 600 := by simpa [anyD] using q (.int a) (by simp)
    have q2 : b.natAbs < 2 ^ 600 := by simpa [anyD] using q (.int b) (by simp)
    exact ⟨rfl, frc_int.mp h, q1, q2⟩
  · cases h
theorem nat_form {M : List Cell} {x : D} (h : natB x = true) (ha : anyD M x = true) : x = .int (tiD x) ∧ 0 ≤ tiD x ∧ (tiD x).natAbs < 2 ^ 600 := by
  cases x with
  | int i =>
    have q : i.natAbs < 2 ^ 600 := by simpa [anyD] using ha
    exact ⟨rfl, of_decide_eq_true h, q⟩
  | _ => cases h
theorem st_typed {M : List Cell} {x : D} (h : stB x = true) (ha : anyD M x = true) : x = stD (toSt x) ∧ StOk (toSt x) := by
  obtain ⟨s, a, b, c, d, e, f, g, i, rfl, h1, h2, h3, h4, h5, h6, h7, h8, h9⟩ := st_form h
  have q := (any_tup ha).1
  obtain ⟨a1, a2, a3⟩ := frc_form h1 (q a (by simp))
  obtain ⟨b1, b2, b3⟩ := frc_form h2 (q b (by simp))
  obtain ⟨e1, e2, e3⟩ := frc_form h3 (q e (by simp))
  obtain ⟨f1, f2, f3⟩ := frc_form h4 (q f (by simp))
  obtain ⟨c1, c2, c3⟩ := nat_form h5 (q c (by simp))
  obtain ⟨d1, d2, d3⟩ := nat_form h6 (q d (by simp))
  obtain ⟨g1, g2, g3⟩ := nat_form h7 (q g (by simp))
  obtain ⟨i1, i2, i3⟩ := nat_form h8 (q i (by simp))
  refine ⟨?_, ⟨h9, ⟨a2, a3⟩, ⟨b2, b3⟩, ⟨e2, e3⟩, ⟨f2, f3⟩, ⟨c2, c3⟩, ⟨d2, d3⟩, g2, i2⟩⟩
  show D.tup [.str s, a, b, c, d, e, f, g, i] = .tup [.str s, fD (tqD a), fD (tqD b), .int (tiD c), .int (tiD d), fD (tqD e), fD (tqD f), .int (tiD g), .int (tiD i)]
  rw [← a1, ← b1, ← e1, ← f1, ← c1, ← d1, ← g1, ← i1]
def goQ (x y : St) : Bool :=
  decide (sumQ [y.op, y.ke] = sumQ [x.op, x.ke, y.ea, (-y.wo - y.pa, 1)]) && (!decide (y.fr.1 < 0) && !lessQ x.ke y.fr && !decide (y.ke.1 < 0) && lessQ y.op (1, 1)) && (decide (y.pa = 0) || (decide (y.wr = 0) && decide (y.ad = 0)))
theorem fr_int (i : Int) : Fr (i, 1) := ⟨by show (0 : Int) < 1; decide, by show Int.gcd i 1 = 1; rw [Int.gcd_one]⟩
theorem sum_five (x y z : Qp) (a b : Int) : sumQ [x, y, z, (-a, 1), (-b, 1)] = sumQ [x, y, z, (-a - b, 1)] := by
  have e1 : Pb [x, y, z, (-a, 1), (-b, 1)] = Pb [x, y, z, (-a - b, 1)] := by simp [Pb]
  have e2 : Nt [x, y, z, (-a, 1), (-b, 1)] = Nt [x, y, z, (-a - b, 1)] := by simp [Nt, Pb, Int.sub_eq_add_neg]
  unfold sumQ
  rw [e1, e2]
theorem lt_one {a : Nat} : Lt2 (a + 1) (1, 1) := ⟨by show 1 < 2 ^ (a + 1); exact Nat.one_lt_two_pow (by omega), by show 1 < 2 ^ (a + 1); exact Nat.one_lt_two_pow (by omega)⟩
theorem lt_nought {a : Nat} : Lt2 (a + 1) (0, 1) := ⟨Nat.pow_pos (by decide), by show 1 < 2 ^ (a + 1); exact Nat.one_lt_two_pow (by omega)⟩
theorem lt_int {a : Nat} {i : Int} (h : i.natAbs < 2 ^ (a + 1)) : Lt2 (a + 1) (i, 1) := ⟨h, by show 1 < 2 ^ (a + 1); exact Nat.one_lt_two_pow (by omega)⟩
theorem frB_cons {a : Nat} {x : Qp} {xs : List Qp} (h : Fr x ∧ Lt2 a x) (t : FrB a xs) : FrB a (x :: xs) := fun y hy => by
  rcases List.mem_cons.mp hy with rfl | hy
  · exact h
  · exact t y hy
theorem frB_nil {a : Nat} : FrB a [] := fun _ h => nomatch h
theorem frI {a : Nat} {i : Int} (h : i.natAbs < 2 ^ (a + 1)) : Fr (i, 1) ∧ Lt2 (a + 1) (i, 1) := ⟨fr_int i, lt_int h⟩
theorem fr600 {x : Qp} (h : Fr x ∧ Lt2 600 x) : Fr x ∧ Lt2 601 x := ⟨h.1, h.2.mono (by decide)⟩
def sp_goes_on : GF := fun ds w _ k => ∃ x y : St, ds = [stD x, stD y] ∧ (StOk x ∧ StOk y) ∧ k (.bl (goQ x y)) w
abbrev s_goes_on : Stmt := topS 16
theorem sc_goes_on : FnScope ["one", "other", "person", "earned", "freed", "worked", "paid", "here", "kept", "wrong", "advance"] ["one", "other"] (defScope s_goes_on) := ⟨rfl, rfl, rfl, by decide +kernel, rfl, by decide +kernel, by decide +kernel⟩
def g_goes_on : GS := (gSeq (gAsg (gVar 1) (ggTup 9 (ggCons (ggName 2) (ggCons (ggName 3) (ggCons (ggName 4) (ggCons (ggName 5) (ggCons (ggName 6) (ggCons (ggName 7) (ggCons (ggName 8) (ggCons (ggName 9) (ggCons (ggName 10) ggNil)))))))))))
  (gSeq (gIfS (gB (gBin neD (gCall0 1 sp_sum_of (gaCons (DL.gLst (gaCons (gVar 7) (gaCons (gVar 8) gaNil))) gaNil)) (gCall0 1 sp_sum_of (gaCons (DL.gLst (gaCons (gBin ixD (gVar 0) (gC (.int 5))) (gaCons (gBin ixD (gVar 0) (gC (.int 6))) (gaCons (gVar 3) (gaCons (gTup (gaCons (gUn negD (gVar 5)) (gaCons (gC (.int 1)) gaNil))) (gaCons (gTup (gaCons (gUn negD (gVar 6)) (gaCons (gC (.int 1)) gaNil))) gaNil)))))) gaNil)))) (gRet (gC (.bl false))) gNext)
  (gSeq (gIfS (gOr (gTru (gCall0 2 sp_is_less (gaCons (gVar 4) (gaCons (gC (.tup [.int 0, .int 1])) gaNil)))) (gOr (gTru (gCall0 2 sp_is_less (gaCons (gBin ixD (gVar 0) (gC (.int 6))) (gaCons (gVar 4) gaNil)))) (gOr (gTru (gCall0 2 sp_is_less (gaCons (gVar 8) (gaCons (gC (.tup [.int 0, .int 1])) gaNil)))) (gNot (gTru (gCall0 2 sp_is_less (gaCons (gVar 7) (gaCons (gC (.tup [.int 1, .int 1])) gaNil)))))))) (gRet (gC (.bl false))) gNext)
  (gRet (gOrV (gBin eqD (gVar 6) (gC (.int 0))) (gAndV (gBin eqD (gVar 9) (gC (.int 0))) (gBin eqD (gVar 10) (gC (.int 0)))))))))
theorem w_goes_on {P : Program} {w : World} {K : PySem.W.Frag} {mg : Str → Option Value} {base : Heap} (T : DefAt K mg "goes_on" s_goes_on ["one", "other"]) (B : Blt mg) (F_sum_of : FnAt P w K mg base CX0 3 "sum_of" 1 sp_sum_of) (F_is_less : FnAt P w K mg base CX0 1 "is_less" 2 sp_is_less) (c_NOUGHT : TupG K mg "NOUGHT" [0, 1]) (c_ONE : TupG K mg "ONE" [1, 1]) : FnAt P w K mg base CX0 4 "goes_on" 2 (sem0 11 g_goes_on) := by
  have nd := sc_goes_on.nd
  exact T.fn0 sc_goes_on (fun f cdv A outer s H E hr => (dss_cons (ds_asg (de_var 1) (dg_tup rfl (dgs_cons (dg_name (i := 2) nd rfl (by first | exact Or.inl rfl | exact Or.inr rfl)) (dgs_cons (dg_name (i := 3) nd rfl (by first | exact Or.inl rfl | exact Or.inr rfl)) (dgs_cons (dg_name (i := 4) nd rfl (by first | exact Or.inl rfl | exact Or.inr rfl)) (dgs_cons (dg_name (i := 5) nd rfl (by first | exact Or.inl rfl | exact Or.inr rfl)) (dgs_cons (dg_name (i := 6) nd rfl (by first | exact Or.inl rfl | exact Or.inr rfl)) (dgs_cons (dg_name (i := 7) nd rfl (by first | exact Or.inl rfl | exact Or.inr rfl)) (dgs_cons (dg_name (i := 8) nd rfl (by first | exact Or.inl rfl | exact Or.inr rfl)) (dgs_cons (dg_name (i := 9) nd rfl (by first | exact Or.inl rfl | exact Or.inr rfl)) (dgs_cons (dg_name (i := 10) nd rfl (by first | exact Or.inl rfl | exact Or.inr rfl)) dgs_nil)))))))))))
  (dss_cons (ds_if (dt_ne hr (de_call0 F_sum_of hr (by rfl) (da_cons (de_lst (da_cons (de_var 7) (da_cons (de_var 8) da_nil))) da_nil)) (de_call0 F_sum_of hr (by rfl) (da_cons (de_lst (da_cons (de_ix (de_var 0) de_int) (da_cons (de_ix (de_var 0) de_int) (da_cons (de_var 3) (da_cons (de_tup (da_cons (de_neg (de_var 5)) (da_cons de_int da_nil))) (da_cons (de_tup (da_cons (de_neg (de_var 6)) (da_cons de_int da_nil))) da_nil)))))) da_nil))) (dss_one (ds_ret de_bl)) dss_nil)
  (dss_cons (ds_if (dt_w (dw_or (dt_truth (de_call0 F_is_less hr (by rfl) (da_cons (de_var 4) (da_cons (de_gtup (by rfl) c_NOUGHT) da_nil)))) (dw_or (dt_truth (de_call0 F_is_less hr (by rfl) (da_cons (de_ix (de_var 0) de_int) (da_cons (de_var 4) da_nil)))) (dw_or (dt_truth (de_call0 F_is_less hr (by rfl) (da_cons (de_var 8) (da_cons (de_gtup (by rfl) c_NOUGHT) da_nil)))) (dw_or1 (dt_not (dt_truth (de_call0 F_is_less hr (by rfl) (da_cons (de_var 7) (da_cons (de_gtup (by rfl) c_ONE) da_nil)))))))))) (dss_one (ds_ret de_bl)) dss_nil)
  (dss_one (ds_ret (de_or (de_eq hr (de_var 6) de_int) (de_one (de_and (de_eq hr (de_var 9) de_int) (de_one (de_eq hr (de_var 10) de_int)))))))))))

theorem stD_tup {q : GGs} {ρ : Rho} {w : Wd} {kr : Rho → Wd → Prop} {s : St} : DL.ggTup 9 q (stD s) ρ w kr = q [.str s.nm, fD s.ea, fD s.fr, .int s.wo, .int s.pa, fD s.op, fD s.ke, .int s.wr, .int s.ad] ρ w kr := by
  show (9 = 9 ∧ q [.str s.nm, fD s.ea, fD s.fr, .int s.wo, .int s.pa, fD s.op, fD s.ke, .int s.wr, .int s.ad] ρ w kr) = _
  simp
theorem less_nought (x : Qp) : lessQ x (0, 1) = decide (x.1 < 0) := by
  unfold lessQ
  rw [Int.mul_one, Int.zero_mul]
section
variable {s : St} {w : Wd} {k : KD}
theorem stD1 : ixD (stD s) (.int 1) w k = k (fD s.ea) w := rfl
theorem stD2 : ixD (stD s) (.int 2) w k = k (fD s.fr) w := rfl
theorem stD3 : ixD (stD s) (.int 3) w k = k (.int s.wo) w := rfl
theorem stD4 : ixD (stD s) (.int 4) w k = k (.int s.pa) w := rfl
theorem stD5 : ixD (stD s) (.int 5) w k = k (fD s.op) w := rfl
theorem stD6 : ixD (stD s) (.int 6) w k = k (fD s.ke) w := rfl
theorem stD7 : ixD (stD s) (.int 7) w k = k (.int s.wr) w := rfl
theorem stD8 : ixD (stD s) (.int 8) w k = k (.int s.ad) w := rfl
end
theorem goQ_sum {x y : St} (h : ¬ sumQ [y.op, y.ke] = sumQ [x.op, x.ke, y.ea, (-y.wo - y.pa, 1)]) : goQ x y = false := by
  unfold goQ
  rw [decide_eq_false h]
  rfl
theorem goQ_mid {x y : St} (h : (!decide (y.fr.1 < 0) && !lessQ x.ke y.fr && !decide (y.ke.1 < 0) && lessQ y.op (1, 1)) = false) : goQ x y = false := by
  unfold goQ
  rw [h, Bool.and_false, Bool.false_and]
theorem goQ_end {x y : St} (h1 : sumQ [y.op, y.ke] = sumQ [x.op, x.ke, y.ea, (-y.wo - y.pa, 1)]) (h2 : (!decide (y.fr.1 < 0) && !lessQ x.ke y.fr && !decide (y.ke.1 < 0) && lessQ y.op (1, 1)) = true) : goQ x y = (decide (y.pa = 0) || (decide (y.wr = 0) && decide (y.ad = 0))) := by
  unfold goQ
  rw [decide_eq_true h1, h2]
  rfl
theorem v_goes_on : ∀ ds w kx k, sp_goes_on ds w kx k → sem0 11 g_goes_on ds w kx k := by
  rintro ds w kx k ⟨x, y, rfl, ⟨hx, hy⟩, hk⟩
  have e : rho 11 [stD x, stD y] = [some (stD x), some (stD y), none, none, none, none, none, none, none, none, none] := rfl
  simp! only [g_goes_on, e, sp_sum_of, sp_is_less, stD_tup, stD5, stD6]
  refine ⟨by decide, [y.op, y.ke], 600, rfl, ⟨frB_cons hy.op (frB_cons hy.ke frB_nil), (by simp)⟩, by decide, by decide, by decide, [x.op, x.ke, y.ea, (-y.wo, 1), (-y.pa, 1)], 601, rfl,
    ⟨frB_cons (fr600 hx.op) (frB_cons (fr600 hx.ke) (frB_cons (fr600 hy.ea) (frB_cons (frI (a := 600) (by have := hy.wo.2; rw [Nat.pow_succ]; omega)) (frB_cons (frI (a := 600) (by have := hy.pa.2; rw [Nat.pow_succ]; omega)) frB_nil)))), (by simp)⟩, ?_⟩
  rw [neD_ff, sum_five]
  have lo : ∀ {z : Qp}, Fr z ∧ Lt2 600 z → Lt2 4000 z := fun h => h.2.mono (by decide)
  by_cases h1 : sumQ [y.op, y.ke] = sumQ [x.op, x.ke, y.ea, (-y.wo - y.pa, 1)]
  · rw [decide_eq_true h1]
    simp! only [id_eq]
    refine ⟨y.fr, (0, 1), rfl, ⟨lo hy.fr, lt_nought⟩, ?_⟩
    rw [less_nought]
    have mid : ∀ b : Bool, (!decide (y.fr.1 < 0) && !lessQ x.ke y.fr && !decide (y.ke.1 < 0) && lessQ y.op (1, 1)) = b → b = false → k (.bl false) w := fun b h hb => by
      rw [goQ_mid (h.trans hb)] at hk
      exact hk
    cases c1 : decide (y.fr.1 < 0) with
    | true =>
      simp! only [id_eq]
      exact mid _ rfl (by rw [c1]; rfl)
    | false =>
      simp! only [id_eq]
      refine ⟨x.ke, y.fr, rfl, ⟨lo hx.ke, lo hy.fr⟩, ?_⟩
      cases c2 : lessQ x.ke y.fr with
      | true =>
        simp! only [id_eq]
        exact mid _ rfl (by rw [c1, c2]; rfl)
      | false =>
        simp! only [id_eq]
        refine ⟨y.ke, (0, 1), rfl, ⟨lo hy.ke, lt_nought⟩, ?_⟩
        rw [less_nought]
        cases c3 : decide (y.ke.1 < 0) with
        | true =>
          simp! only [id_eq]
          exact mid _ rfl (by rw [c1, c2, c3]; rfl)
        | false =>
          simp! only [id_eq]
          refine ⟨y.op, (1, 1), rfl, ⟨lo hy.op, lt_one⟩, ?_⟩
          cases c4 : lessQ y.op (1, 1) with
          | false =>
            simp! only [id_eq]
            exact mid _ rfl (by rw [c1, c2, c3, c4]; rfl)
          | true =>
            rw [goQ_end h1 (by rw [c1, c2, c3, c4]; rfl)] at hk
            simp! only [id_eq]
            cases q1 : decide (y.pa = 0) with
            | true =>
              rw [q1, Bool.true_or] at hk
              simp! only [id_eq]
              exact hk
            | false =>
              rw [q1, Bool.false_or] at hk
              simp! only [id_eq]
              cases q2 : decide (y.wr = 0) with
              | true =>
                rw [q2, Bool.true_and] at hk
                simp! only [id_eq]
                exact hk
              | false =>
                rw [q2, Bool.false_and] at hk
                simp! only [id_eq]
                exact hk
  · rw [decide_eq_false h1]
    simp! only [id_eq]
    rw [goQ_sum h1] at hk
    exact hk
theorem ok_goes_on {P : Program} {w : World} {K : PySem.W.Frag} {mg : Str → Option Value} {base : Heap} (T : DefAt K mg "goes_on" s_goes_on ["one", "other"]) (B : Blt mg) (F_sum_of : FnAt P w K mg base CX0 3 "sum_of" 1 sp_sum_of) (F_is_less : FnAt P w K mg base CX0 1 "is_less" 2 sp_is_less) (c_NOUGHT : TupG K mg "NOUGHT" [0, 1]) (c_ONE : TupG K mg "ONE" [1, 1]) : FnAt P w K mg base CX0 4 "goes_on" 2 sp_goes_on := (w_goes_on T B F_sum_of F_is_less c_NOUGHT c_ONE).imp v_goes_on

def namesB (x : D) : List Str := (seqL x).map nm0
def goD (z : D) : Bool := match z with
  | .tup [x, y] => goQ (toSt x) (toSt y)
  | _ => true
def showB (x y : D) : Bool := areB x && areB y && (decide (namesB x = namesB y) && (zipD (seqL x) (seqL y)).all goD)
theorem eqv_strs : ∀ xs ys : List Str, PyData.eqvAll (xs.map .str) (ys.map .str) = decide (xs = ys)
  | [], [] => rfl
  | [], _ :: _ => rfl
  | _ :: _, [] => rfl
  | x :: xs, y :: ys => by
    rw [List.map_cons, List.map_cons, PyData.eqvAll, PyData.eqv, eqv_strs xs ys, Bool.eq_iff_iff]
    simp
theorem pd_strs : ∀ xs : List Str, toPDs (xs.map D.str) = some (xs.map PyData.str)
  | [] => rfl
  | x :: xs => by
    rw [List.map_cons, toPDs, pd_strs xs]
    rfl
theorem lay_strs {xs : List Str} (h : ∀ s ∈ xs, PyData.strOk s = true) : SeqAt.shaped (.list (xs.map PyData.str)) = true := by
  have a : ∀ ys : List Str, (∀ s ∈ ys, PyData.strOk s = true) → PyData.canLayAll0 (ys.map PyData.str) = true ∧ PyData.depthAll (ys.map PyData.str) ≤ 1 := fun ys => by
    induction ys with
    | nil => exact fun _ => ⟨rfl, by decide⟩
    | cons y ys ih =>
      intro hy
      obtain ⟨i1, i2⟩ := ih fun s hs => hy s (List.mem_cons_of_mem _ hs)
      rw [List.map_cons]
      refine ⟨?_, ?_⟩
      · simp only [PyData.canLayAll0, PyData.canLay0, hy y List.mem_cons_self, i1, Bool.and_self]
      · simp only [PyData.depthAll, PyData.depth]
        omega
  obtain ⟨a1, a2⟩ := a xs h
  unfold SeqAt.shaped
  rw [Bool.and_eq_true, decide_eq_true_eq]
  refine ⟨?_, ?_⟩
  · simp only [PyData.canLay0, a1]
  · simp only [PyData.depth]
    omega
theorem neD_names {xs ys : List Str} {w : Wd} {k : KD} (hx : ∀ s ∈ xs, PyData.strOk s = true) (hy : ∀ s ∈ ys, PyData.strOk s = true) (hk : k (.bl (!decide (xs = ys))) w) : neD (.lst (xs.map D.str)) (.lst (ys.map D.str)) w k := by
  show neD0 _ _ w k
  unfold neD0
  have e1 : ∀ zs : List Str, toPD (.lst (zs.map D.str)) = some (.list (zs.map PyData.str)) := fun zs => by
    rw [toPD, pd_strs]
    rfl
  rw [e1, e1]
  refine ⟨lay_strs hx, lay_strs hy, ?_⟩
  show k (.bl (!PyData.eqvAll (xs.map PyData.str) (ys.map PyData.str))) w
  rw [eqv_strs]
  exact hk
theorem are_form {M : List Cell} {x : D} (h : areB x = true) (ha : anyD M x = true) : ∃ b xs, x = seqB b xs ∧ (∀ z ∈ xs, stB z = true ∧ anyD M z = true) ∧ xs.length ≤ 1000 ∧ upB (xs.map nm0) = true := by
  unfold areB at h
  rw [Bool.and_eq_true, Bool.and_eq_true, List.all_eq_true] at h
  obtain ⟨h1, h2, h3⟩ := h
  obtain ⟨b, xs, rfl, e⟩ := seq_of h1
  obtain ⟨a1, a2⟩ := any_seq ha
  rw [e] at h2 h3
  exact ⟨b, xs, rfl, fun z hz => ⟨h2 z hz, a1 z hz⟩, a2, h3⟩
theorem nm_ok {M : List Cell} {z : D} (h : stB z = true) (ha : anyD M z = true) : PyData.strOk (nm0 z) = true := by
  obtain ⟨s, a, b, c, d, e, f, g, i, rfl, _⟩ := st_form h
  exact (any_str ((any_tup ha).1 (.str s) (by simp))).1
theorem st_ix0 {z : D} {w : Wd} {k : KD} (h : stB z = true) : ixD z (.int 0) w k = k (.str (nm0 z)) w := by
  obtain ⟨s, a, b, c, d, e, f, g, i, rfl, _⟩ := st_form h
  rfl
theorem seqL_B {b : Bool} {xs : List D} : seqL (seqB b xs) = xs := by cases b <;> rfl
def sp_shows_statements : GF := fun ds w _ k => ∃ x y : D, ds = [x, y] ∧ (anyD w.M x = true ∧ anyD w.M y = true) ∧ k (.bl (showB x y)) w
abbrev s_shows_statements : Stmt := topS 17
theorem sc_shows_statements : FnScope ["one", "other", "row", "first", "second"] ["one", "other"] (defScope s_shows_statements) := ⟨rfl, rfl, rfl, by decide +kernel, rfl, by decide +kernel, by decide +kernel⟩
def g_shows_statements : GS := (gSeq (gIfS (gOr (gNot (gTru (gCall0 1 sp_are_statements (gaCons (gVar 0) gaNil)))) (gNot (gTru (gCall0 1 sp_are_statements (gaCons (gVar 1) gaNil))))) (gRet (gC (.bl false))) gNext)
  (gSeq (gIfS (gB (gBin neD (gLc (giSeq (gVar 0)) (ggName 2) gYes (gBin ixD (gVar 2) (gC (.int 0))) [2]) (gLc (giSeq (gVar 1)) (ggName 2) gYes (gBin ixD (gVar 2) (gC (.int 0))) [2]))) (gRet (gC (.bl false))) gNext)
  (gRet (gCB fAll (gaCons (gLc (giZipA (gaCons (gVar 0) (gaCons (gVar 1) gaNil))) (ggTup 2 (ggCons (ggName 3) (ggCons (ggName 4) ggNil))) gYes (gCall0 2 sp_goes_on (gaCons (gVar 3) (gaCons (gVar 4) gaNil))) [3, 4]) gaNil)))))
theorem w_shows_statements {P : Program} {w : World} {K : PySem.W.Frag} {mg : Str → Option Value} {base : Heap} (T : DefAt K mg "shows_statements" s_shows_statements ["one", "other"]) (B : Blt mg) (F_are_statements : FnAt P w K mg base CX0 5 "are_statements" 1 sp_are_statements) (F_goes_on : FnAt P w K mg base CX0 4 "goes_on" 2 sp_goes_on) : FnAt P w K mg base CX0 6 "shows_statements" 2 (sem0 5 g_shows_statements) := by
  have nd := sc_shows_statements.nd
  exact T.fn0 sc_shows_statements (fun f cdv A outer s H E hr => (dss_cons (ds_if (dt_w (dw_or (dt_not (dt_truth (de_call0 F_are_statements hr (by rfl) (da_cons (de_var 0) da_nil)))) (dw_or1 (dt_not (dt_truth (de_call0 F_are_statements hr (by rfl) (da_cons (de_var 1) da_nil))))))) (dss_one (ds_ret de_bl)) dss_nil)
  (dss_cons (ds_if (dt_ne hr (de_lc (own := [("row", 2)]) (us := [2]) rfl nd (di_seq (de_var 0)) (blkOk_by (N := ["one", "other", "row", "first", "second"]) (sc := defScope s_shows_statements) (by decide +kernel)) (by decide) (fun _ _ _ _ _ => (dg_name (i := 2) nd rfl (by first | exact Or.inl rfl | exact Or.inr rfl))) (fun _ _ _ _ _ => dts_nil) (fun _ _ _ _ _ => (de_ix (de_var 2) de_int))) (de_lc (own := [("row", 2)]) (us := [2]) rfl nd (di_seq (de_var 1)) (blkOk_by (N := ["one", "other", "row", "first", "second"]) (sc := defScope s_shows_statements) (by decide +kernel)) (by decide) (fun _ _ _ _ _ => (dg_name (i := 2) nd rfl (by first | exact Or.inl rfl | exact Or.inr rfl))) (fun _ _ _ _ _ => dts_nil) (fun _ _ _ _ _ => (de_ix (de_var 2) de_int)))) (dss_one (ds_ret de_bl)) dss_nil)
  (dss_one (ds_ret (de_all B rfl (by rfl) (da_cons (de_lc (own := [("first", 3), ("second", 4)]) (us := [3, 4]) rfl nd (di_zipA B (by rfl) (da_cons (de_var 0) (da_cons (de_var 1) da_nil))) (blkOk_by (N := ["one", "other", "row", "first", "second"]) (sc := defScope s_shows_statements) (by decide +kernel)) (by decide) (fun _ _ _ _ _ => (dg_tup rfl (dgs_cons (dg_name (i := 3) nd rfl (by first | exact Or.inl rfl | exact Or.inr rfl)) (dgs_cons (dg_name (i := 4) nd rfl (by first | exact Or.inl rfl | exact Or.inr rfl)) dgs_nil)))) (fun _ _ _ _ _ => dts_nil) (fun _ _ _ _ _ => (de_call0 F_goes_on hr (by rfl) (da_cons (de_var 3) (da_cons (de_var 4) da_nil))))) da_nil)))))))

theorem lc_names {j : Nat} {ρ : Rho} {xs : List D} {w : Wd} {k : KD} (hj : ∀ z : D, (ρ.set j (some z))[j]? = some (some z)) (h : ∀ z ∈ xs, stB z = true) (hl : xs.length ≤ 1000) (hk : k (.lst ((xs.map nm0).map D.str)) w) :
    ∃ P : List D → List D → Wd → Prop, P xs [] w ∧ LcS (ggName j) gYes (gBin ixD (gVar j) (gC (D.int 0))) (fun _ => True) ρ k P := by
  have q := lc_ty (gt := ggName j) (ge := gBin ixD (gVar j) (gC (D.int 0))) (Ok := fun _ => True) (ρ := ρ) (k := k) (w := w) id (fun z => .str (nm0 z)) xs trivial (by omega) (fun z hz k' hk' => by
    show ggName j z ρ w fun ρ1 w1 => gBin ixD (gVar j) (gC (D.int 0)) ρ1 w1 noX k'
    unfold ggName gBin gVar gC
    simp only [hj z]
    rw [st_ix0 (h z hz)]
    exact hk') (by rw [List.map_map] at hk; exact hk)
  rw [List.map_id] at q
  exact q
theorem lc_goes {ρ : Rho} {i j : Nat} {b c : Nat} {xs ys : List D} {w : Wd} {k : KD} {sp : GF} {p : D → Bool} (hz : ∀ z ∈ zipD xs ys, ∀ k' : KD, k' (.bl (p z)) w → ggTup 2 (ggCons (ggName i) (ggCons (ggName j) ggNil)) z ρ w fun ρ1 w1 => gCall0 2 sp (gaCons (gVar i) (gaCons (gVar j) gaNil)) ρ1 w1 noX k') (hl : xs.length ≤ 1000) (hk : k (.bl ((zipD xs ys).all p)) w) :
    ∃ P : List D → List D → Wd → Prop, P (zipD xs ys) [] w ∧ LcS (ggTup 2 (ggCons (ggName i) (ggCons (ggName j) ggNil))) gYes (gCall0 2 sp (gaCons (gVar i) (gaCons (gVar j) gaNil))) (fun _ => True) ρ (fun x w1 => fAll [x] w1 k) P := by
  have q := lc_ty (gt := ggTup 2 (ggCons (ggName i) (ggCons (ggName j) ggNil))) (ge := gCall0 2 sp (gaCons (gVar i) (gaCons (gVar j) gaNil))) (Ok := fun _ => True) (ρ := ρ) (k := fun x w1 => fAll [x] w1 k) (w := w) id (fun z => .bl (p z)) (zipD xs ys) trivial (by
    unfold zipD
    rw [List.length_zipWith]
    omega) (fun z h k' hk' => hz z h k' hk') (all_map hk)
  rw [List.map_id] at q
  exact q
theorem v_shows_statements : ∀ ds w kx k, sp_shows_statements ds w kx k → sem0 5 g_shows_statements ds w kx k := by
  rintro ds w kx k ⟨x, y, rfl, ⟨hx, hy⟩, hk⟩
  have e : rho 5 [x, y] = [some x, some y, none, none, none] := rfl
  simp! only [g_shows_statements, e, sp_are_statements]
  refine ⟨x, rfl, hx, ?_⟩
  unfold showB at hk
  cases h1 : areB x with
  | false =>
    rw [h1, Bool.false_and, Bool.false_and] at hk
    simp! only [id_eq]
    exact hk
  | true =>
    simp! only [id_eq]
    refine ⟨y, rfl, hy, ?_⟩
    cases h2 : areB y with
    | false =>
      rw [h1, h2, Bool.and_false, Bool.false_and] at hk
      simp! only [id_eq]
      exact hk
    | true =>
      rw [h1, h2, Bool.true_and, Bool.true_and] at hk
      obtain ⟨b, xs, rfl, x2, x3, x4⟩ := are_form h1 hx
      obtain ⟨c, ys, rfl, y2, y3, y4⟩ := are_form h2 hy
      rw [seqL_B, seqL_B] at hk
      have n1 : namesB (seqB b xs) = xs.map nm0 := by unfold namesB; rw [seqL_B]
      have n2 : namesB (seqB c ys) = ys.map nm0 := by unfold namesB; rw [seqL_B]
      rw [n1, n2] at hk
      have ok1 : ∀ s ∈ xs.map nm0, PyData.strOk s = true := fun s hs => by
        obtain ⟨z, hz, rfl⟩ := List.mem_map.mp hs
        exact nm_ok (x2 z hz).1 (x2 z hz).2
      have ok2 : ∀ s ∈ ys.map nm0, PyData.strOk s = true := fun s hs => by
        obtain ⟨z, hz, rfl⟩ := List.mem_map.mp hs
        exact nm_ok (y2 z hz).1 (y2 z hz).2
      have fin : (decide (xs.map nm0 = ys.map nm0) = true) → ∃ P : List D → List D → Wd → Prop, P (zipD xs ys) [] w ∧ LcS (ggTup 2 (ggCons (ggName 3) (ggCons (ggName 4) ggNil))) gYes (gCall0 2 sp_goes_on (gaCons (gVar 3) (gaCons (gVar 4) gaNil))) (fun _ => True) [some (seqB b xs), some (seqB c ys), none, none, none] (fun x w1 => fAll [x] w1 k) P := fun hn => by
        refine lc_goes (b := 0) (c := 0) (p := goD) (fun z hz k' hk' => ?_) x3 (by rw [hn, Bool.true_and] at hk; exact hk)
        obtain ⟨u, v, rfl, hu, hv⟩ := zip_form hz
        obtain ⟨u1, u2⟩ := st_typed (x2 u hu).1 (x2 u hu).2
        obtain ⟨v1, v2⟩ := st_typed (y2 v hv).1 (y2 v hv).2
        simp! only [sp_goes_on]
        exact ⟨toSt u, toSt v, by rw [← u1, ← v1], ⟨u2, v2⟩, hk'⟩
      have nm : ∀ (K : KD), K (.bl (!decide (xs.map nm0 = ys.map nm0))) w → neD (.lst ((xs.map nm0).map D.str)) (.lst ((ys.map nm0).map D.str)) w K := fun K h => neD_names ok1 ok2 h
      cases b <;> cases c
      all_goals
        simp! only [seqB]
        refine lc_names (fun _ => rfl) (fun z hz => (x2 z hz).1) x3 ?_
        refine lc_names (fun _ => rfl) (fun z hz => (y2 z hz).1) y3 ?_
        refine nm _ ?_
        cases hn : decide (xs.map nm0 = ys.map nm0) with
        | false =>
          rw [hn, Bool.false_and] at hk
          simp! only [id_eq]
          exact hk
        | true =>
          simp! only [giZipA, giZipM]
          first
            | exact ⟨false, false, xs, ys, rfl, fin hn⟩
            | exact ⟨false, true, xs, ys, rfl, fin hn⟩
            | exact ⟨true, false, xs, ys, rfl, fin hn⟩
            | exact ⟨true, true, xs, ys, rfl, fin hn⟩
theorem ok_shows_statements {P : Program} {w : World} {K : PySem.W.Frag} {mg : Str → Option Value} {base : Heap} (T : DefAt K mg "shows_statements" s_shows_statements ["one", "other"]) (B : Blt mg) (F_are_statements : FnAt P w K mg base CX0 5 "are_statements" 1 sp_are_statements) (F_goes_on : FnAt P w K mg base CX0 4 "goes_on" 2 sp_goes_on) : FnAt P w K mg base CX0 6 "shows_statements" 2 sp_shows_statements := (w_shows_statements T B F_are_statements F_goes_on).imp v_shows_statements


end LW

namespace LW
open PySem PySem.Spec PyProof.Rows L2 RZ DL
local macro_rules | `(tactic| simp! only [$xs,*] $[$loc]?) => `(tactic| simp only [$xs,*, sem0,List.map_cons,List.map_nil,List.length_cons,List.length_nil,gSeq,gNext,gRet,gRetN,gIfS,gSet,gPar,gAsg,gDrop,gVar,gC,gBin,gUn,gB,gTru,gAnd,gOr,gNot,gAndV,gOrV,gNotV,gIf,gChain,gaNil,gaCons,DL.gTup,DL.gLst,gCB,gCall0,gAug,addD_i,addD_s,addD_l,addD_t,subD_i,mulD_i,mulD_l,fdivD_i,modD_i,powD_i,ltD_i,ltD_s,leD_i,gtD_i,geD_i,isD_n,isnotD_n,isNonD_non,isNonD_bl,isNonD_int,isNonD_str,isNonD_lst,isNonD_tup,negD_i,iaddD_i,truD_non,truD_bl,truD_int,truD_str,truD_lst,truD_tup,someK_some,ixD_l,ixD_t,fAbs_i,fInt_i,fInt_b,fMin2_i,fLen_l,fLen_t,fLen_s,fList_l,fList_t,fTuple_l,fTuple_t,optBK_some,fIsi_non,fIsi_bl,fIsi_int,fIsi_str,fIsi_lst,fIsi_tup,List.getElem?_cons_zero,List.getElem?_cons_succ,List.set_cons_zero,List.set_cons_succ,DL.ggName,ggNil0,ggCons1,ggTup2,ggTup3,gFor,giSeq,gLc,gYes,wipeR,true_and,and_true,at_0,at_1,at_2,kit_int_int,kit_bool_int,kit_str_int,kit_non_int,kit_list_int,kit_tuple_int,kit_int_bool,kit_bool_bool,kit_str_bool,kit_non_bool,kit_list_bool,kit_tuple_bool,kit_int_str,kit_bool_str,kit_str_str,kit_non_str,kit_list_str,kit_tuple_str,kit_int_list,kit_bool_list,kit_str_list,kit_non_list,kit_list_list,kit_tuple_list,kit_int_tuple,kit_bool_tuple,kit_str_tuple,kit_non_tuple,kit_list_tuple,kit_tuple_tuple,eqD_i,neD_i,eqD_s,neD_s,eqD_f,neD_f,Nat.zero_add,Nat.reduceAdd,nc0,nc1,nc2,nc3,nc4,nc5,nc6,nc7,nc8,nc9,eq_self,decide_true,decide_false,Int.reduceEq,Int.reduceLT,Int.reduceLE,Int.reduceNeg,Bool.not_true,Bool.not_false,Bool.false_eq_true,if_true,if_false,↓reduceIte,false_and,and_false,List.all_cons,List.all_nil,List.any_cons,List.any_nil,id_eq,Bool.and_true,Bool.true_and,Bool.or_false,Bool.false_or,Bool.and_false,Bool.false_and,gCut,eqD_b,neD_b,giZip,reduceCtorEq,Bool.true_eq_false,Bool.false_eq_true,gRevL,gSl,goNone,goSome,slD_l,ne_eq,not_false_eq_true,not_true_eq_false,gBM,isTy_l,isTy_s,new_at,new_set,isTy_new,cellK_new,append_new,popAt_new,gFrz_eq,frzK_new,fLen_new,fTuple_new,ixD_new,slA_l,slA_t,slA_new,addTD_t,addCD_l,mulCD_l,isbD_b,isnotbD_b,mSplitC_s,gLstC,gTr,ggSub,lstK_l,lstK_r,addLD_eq] $[$loc]?)


def sp__law_sum : GF := fun ds w _ k => ∃ a b c d : Int, ds = [.tup [.int a, .int b], .tup [.int c, .int d]] ∧ (0 < b ∧ 0 < d ∧ Lt2 1900 (a, b) ∧ Lt2 1900 (c, d)) ∧ k (fD (norm (a * d + c * b) (b * d))) w
abbrev s__law_sum : Stmt := topS 21
theorem sc__law_sum : FnScope ["_law_one", "_law_other", "_law_top", "_law_below", "_law_first", "_law_second"] ["_law_one", "_law_other"] (defScope s__law_sum) := ⟨rfl, rfl, rfl, by decide +kernel, rfl, by decide +kernel, by decide +kernel⟩
def g__law_sum : GS := (gSeq (gPar 2 3 (gaCons (gBin addD (gBin mulD (gBin ixD (gVar 0) (gC (.int 0))) (gBin ixD (gVar 1) (gC (.int 1)))) (gBin mulD (gBin ixD (gVar 1) (gC (.int 0))) (gBin ixD (gVar 0) (gC (.int 1))))) (gaCons (gBin mulD (gBin ixD (gVar 0) (gC (.int 1))) (gBin ixD (gVar 1) (gC (.int 1)))) gaNil)))
  (gSeq (gPar 4 5 (gaCons (gCB fAbs (gaCons (gVar 2) gaNil)) (gaCons (gVar 3) gaNil)))
  (gSeq (gWhile (gB (gBin gtD (gVar 5) (gC (.int 0)))) (gPar 4 5 (gaCons (gVar 5) (gaCons (gBin modD (gVar 4) (gVar 5)) gaNil))))
  (gRet (gTup (gaCons (gBin fdivD (gVar 2) (gVar 4)) (gaCons (gBin fdivD (gVar 3) (gVar 4)) gaNil)))))))
theorem w__law_sum {P : Program} {w : World} {K : PySem.W.Frag} {mg : Str → Option Value} {base : Heap} (T : DefAt K mg "_law_sum" s__law_sum ["_law_one", "_law_other"]) (B : Blt mg) : FnAt P w K mg base CX0 1 "_law_sum" 2 (sem0 6 g__law_sum) := by
  have nd := sc__law_sum.nd
  exact T.fn0 sc__law_sum (fun f cdv A outer s H E hr => (dss_cons (ds_par (i := 2) (j := 3) rfl nd rfl rfl (by decide) rfl rfl (da_cons (de_add (de_mul (de_ix (de_var 0) de_int) (de_ix (de_var 1) de_int)) (de_mul (de_ix (de_var 1) de_int) (de_ix (de_var 0) de_int))) (da_cons (de_mul (de_ix (de_var 0) de_int) (de_ix (de_var 1) de_int)) da_nil)) (by rfl))
  (dss_cons (ds_par (i := 4) (j := 5) rfl nd rfl rfl (by decide) rfl rfl (da_cons (de_abs B (by rfl) (da_cons (de_var 2) da_nil)) (da_cons (de_var 3) da_nil)) (by rfl))
  (dss_cons (ds_while PassesOwn.never (dt_gt (de_var 5) de_int) (dss_one (ds_par (i := 4) (j := 5) rfl nd rfl rfl (by decide) rfl rfl (da_cons (de_var 5) (da_cons (de_mod (de_var 4) (de_var 5)) da_nil)) (by rfl))))
  (dss_one (ds_ret (de_tup (da_cons (de_fdiv (de_var 2) (de_var 4)) (da_cons (de_fdiv (de_var 3) (de_var 4)) da_nil)))))))))

theorem v__law_sum : ∀ ds w kx k, sp__law_sum ds w kx k → sem0 6 g__law_sum ds w kx k := by
  rintro ds w kx k ⟨a, b, c, d, rfl, ⟨hb, hd, ⟨A, B⟩, ⟨C, D2⟩⟩, hk⟩
  have e : rho 6 [D.tup [.int a, .int b], D.tup [.int c, .int d]] = [some (.tup [.int a, .int b]), some (.tup [.int c, .int d]), none, none, none, none] := rfl
  have bd : 0 < b * d := Int.mul_pos hb hd
  simp! only [g__law_sum, e]
  refine ⟨mulx_ok A D2 (by decide), mulx_ok C B (by decide), mulx_ok B D2 (by decide), ?_⟩
  have hT : (a * d + c * b).natAbs < 2 ^ 3801 := add_lt (wide_lt A D2) (wide_lt C B)
  have hB : (b * d).natAbs < 2 ^ 3800 := wide_lt B D2
  generalize a * d + c * b = t at hT hk ⊢
  generalize b * d = u at bd hB hk ⊢
  refine ⟨fun m ρ w' => ∃ x y : Nat, ρ = [some (.tup [.int a, .int b]), some (.tup [.int c, .int d]), some (.int t), some (.int u), some (.int x), some (.int y)] ∧ Nat.gcd x y = Int.gcd t u ∧ m = y ∧ w' = w, ⟨_, t.natAbs, u.natAbs, ?_, rfl, rfl, rfl⟩, ?_⟩
  · rw [show ((u.natAbs : Nat) : Int) = u by omega]
  rintro m ρ w' ⟨x, y, rfl, hg, rfl, rfl⟩
  simp! only [id_eq]
  refine ite2 (fun h => ?_) (fun h => ?_)
  · have h0 : 0 < m := by simpa using h
    refine ⟨by omega, x % m, Nat.mod_lt _ h0, m, x % m, by rw [fmod_nat], ?_, rfl⟩
    rw [← hg, Nat.gcd_comm x m, Nat.gcd_rec m x, Nat.gcd_comm]
  · have h0 : m = 0 := by
      have : ¬ 0 < m := by simpa using h
      omega
    subst h0
    rw [Nat.gcd_zero_right] at hg
    rw [hg]
    have gd1 : (Int.gcd t u : Int) ∣ t := Int.gcd_dvd_left t u
    have gd2 : (Int.gcd t u : Int) ∣ u := Int.gcd_dvd_right t u
    have gp := gcd_pos (t := t) (show u ≠ 0 by omega)
    have gl : (Int.gcd t u : Int).natAbs.log2 < 9000 := log_ok (nat_mono (Nat.lt_of_le_of_lt (by simpa using gcd_le (t := t) (show u ≠ 0 by omega)) hB) (by decide))
    have es : sg t u = (Int.gcd t u : Int) := by
      unfold sg
      rw [if_neg (by omega)]
    refine ⟨⟨by omega, gl⟩, ⟨by omega, gl⟩, by decide, ?_⟩
    rw [fdiv_dvd gd1, fdiv_dvd gd2]
    have : fD (norm t u) = .tup [.int (t / (Int.gcd t u : Int)), .int (u / (Int.gcd t u : Int))] := by
      unfold norm fD frT frB
      rw [es]
    rw [← this]
    exact hk
theorem ok__law_sum {P : Program} {w : World} {K : PySem.W.Frag} {mg : Str → Option Value} {base : Heap} (T : DefAt K mg "_law_sum" s__law_sum ["_law_one", "_law_other"]) (B : Blt mg) : FnAt P w K mg base CX0 1 "_law_sum" 2 sp__law_sum := (w__law_sum T B ).imp v__law_sum

theorem sum2 (x y : Qp) : norm (x.1 * y.2 + y.1 * x.2) (x.2 * y.2) = sumQ [x, y] := by
  unfold sumQ
  congr 1
  · show _ = x.1 * (y.2 * 1) + x.2 * (y.1 * 1 + y.2 * 0)
    rw [Int.mul_one, Int.mul_one, Int.mul_zero, Int.add_zero, Int.mul_comm y.1 x.2]
  · show _ = x.2 * (y.2 * 1)
    rw [Int.mul_one]
theorem sum_use {x y : Qp} {w : Wd} {kx : KX} {k : KD} (hx : 0 < x.2) (hy : 0 < y.2) (lx : Lt2 1900 x) (ly : Lt2 1900 y) (hk : k (fD (sumQ [x, y])) w) : sp__law_sum [fD x, fD y] w kx k :=
  ⟨x.1, x.2, y.1, y.2, rfl, ⟨hx, hy, lx, ly⟩, by rw [sum2]; exact hk⟩
def sp__law_times : GF := fun ds w _ k => ∃ (x : Qp) (a b : Int), ds = [fD x, .int a, .int b] ∧ (0 < x.2 ∧ 0 < b ∧ Lt2 700 x ∧ a.natAbs < 2 ^ 700 ∧ b.natAbs < 2 ^ 700) ∧ k (fD (norm (x.1 * a) (x.2 * b))) w
abbrev s__law_times : Stmt := topS 22
theorem sc__law_times : FnScope ["_law_one", "_law_top", "_law_below"] ["_law_one", "_law_top", "_law_below"] (defScope s__law_times) := ⟨rfl, rfl, rfl, by decide +kernel, rfl, by decide +kernel, by decide +kernel⟩
def g__law_times : GS := (gRet (gCall0 2 sp__law_sum (gaCons (gTup (gaCons (gBin mulD (gBin ixD (gVar 0) (gC (.int 0))) (gVar 1)) (gaCons (gBin mulD (gBin ixD (gVar 0) (gC (.int 1))) (gVar 2)) gaNil))) (gaCons (gTup (gaCons (gC (.int 0)) (gaCons (gC (.int 1)) gaNil))) gaNil))))
theorem w__law_times {P : Program} {w : World} {K : PySem.W.Frag} {mg : Str → Option Value} {base : Heap} (T : DefAt K mg "_law_times" s__law_times ["_law_one", "_law_top", "_law_below"]) (B : Blt mg) (F__law_sum : FnAt P w K mg base CX0 1 "_law_sum" 2 sp__law_sum) : FnAt P w K mg base CX0 2 "_law_times" 3 (sem0 3 g__law_times) := by
  have nd := sc__law_times.nd
  exact T.fn0 sc__law_times (fun f cdv A outer s H E hr => (dss_one (ds_ret (de_call0 F__law_sum hr (by rfl) (da_cons (de_tup (da_cons (de_mul (de_ix (de_var 0) de_int) (de_var 1)) (da_cons (de_mul (de_ix (de_var 0) de_int) (de_var 2)) da_nil))) (da_cons (de_tup (da_cons de_int (da_cons de_int da_nil))) da_nil))))))

theorem v__law_times : ∀ ds w kx k, sp__law_times ds w kx k → sem0 3 g__law_times ds w kx k := by
  rintro ds w kx k ⟨x, a, b, rfl, ⟨h1, h2, h3, h4, h5⟩, hk⟩
  have e : rho 3 [fD x, D.int a, D.int b] = [some (fD x), some (.int a), some (.int b)] := rfl
  simp! only [g__law_times, e, sp__law_sum, ixD_f0, ixD_f1, ggTup_f, fIsi_f, fLen_f, eqD_ff, neD_ff]
  refine ⟨mulx_ok h3.1 h4 (by decide), mulx_ok h3.2 h5 (by decide), by decide, by decide, x.1 * a, x.2 * b, 0, 1, rfl, ⟨Int.mul_pos h1 h2, by decide, ⟨nat_mono (wide_lt h3.1 h4) (by decide), nat_mono (wide_lt h3.2 h5) (by decide)⟩, lt_nought⟩, ?_⟩
  rw [Int.mul_one, Int.zero_mul, Int.add_zero, Int.mul_one]
  exact hk
theorem ok__law_times {P : Program} {w : World} {K : PySem.W.Frag} {mg : Str → Option Value} {base : Heap} (T : DefAt K mg "_law_times" s__law_times ["_law_one", "_law_top", "_law_below"]) (B : Blt mg) (F__law_sum : FnAt P w K mg base CX0 1 "_law_sum" 2 sp__law_sum) : FnAt P w K mg base CX0 2 "_law_times" 3 sp__law_times := (w__law_times T B F__law_sum).imp v__law_times

def sp__law_less : GF := fun ds w _ k => ∃ x y : Qp, ds = [fD x, fD y] ∧ (Lt2 4000 x ∧ Lt2 4000 y) ∧ k (.bl (lessQ x y)) w
abbrev s__law_less : Stmt := topS 24
theorem sc__law_less : FnScope ["_law_one", "_law_other"] ["_law_one", "_law_other"] (defScope s__law_less) := ⟨rfl, rfl, rfl, by decide +kernel, rfl, by decide +kernel, by decide +kernel⟩
def g__law_less : GS := (gRet (gBin ltD (gBin mulD (gBin ixD (gVar 0) (gC (.int 0))) (gBin ixD (gVar 1) (gC (.int 1)))) (gBin mulD (gBin ixD (gVar 1) (gC (.int 0))) (gBin ixD (gVar 0) (gC (.int 1))))))
theorem w__law_less {P : Program} {w : World} {K : PySem.W.Frag} {mg : Str → Option Value} {base : Heap} (T : DefAt K mg "_law_less" s__law_less ["_law_one", "_law_other"]) (B : Blt mg) : FnAt P w K mg base CX0 1 "_law_less" 2 (sem0 2 g__law_less) := by
  have nd := sc__law_less.nd
  exact T.fn0 sc__law_less (fun f cdv A outer s H E hr => (dss_one (ds_ret (de_lt (de_mul (de_ix (de_var 0) de_int) (de_ix (de_var 1) de_int)) (de_mul (de_ix (de_var 1) de_int) (de_ix (de_var 0) de_int))))))

theorem v__law_less : ∀ ds w kx k, sp__law_less ds w kx k → sem0 2 g__law_less ds w kx k := by
  rintro ds w kx k ⟨x, y, rfl, ⟨lx, ly⟩, hk⟩
  have e : rho 2 [fD x, fD y] = [some (fD x), some (fD y)] := rfl
  simp! only [g__law_less, e, ixD_f0, ixD_f1, ggTup_f, fIsi_f, fLen_f, eqD_ff, neD_ff]
  exact ⟨mulx_ok lx.1 ly.2 (by decide), mulx_ok ly.1 lx.2 (by decide), hk⟩
theorem ok__law_less {P : Program} {w : World} {K : PySem.W.Frag} {mg : Str → Option Value} {base : Heap} (T : DefAt K mg "_law_less" s__law_less ["_law_one", "_law_other"]) (B : Blt mg) : FnAt P w K mg base CX0 1 "_law_less" 2 sp__law_less := (w__law_less T B ).imp v__law_less

def sp__law_fraction : GF := fun ds w _ k => ∃ (lo hi : Int) (c n : Nat), ds = [.st, .int lo, .int hi] ∧ (lo < hi ∧ lo.natAbs ≤ 1000000000 ∧ hi.natAbs ≤ 1000000000 ∧ w.n = some c ∧ n + 3 ≤ c) ∧ ∀ (q : Qp) c', Fr q → q.1.natAbs < 2 ^ 53 → q.2 ≤ 1000000 → (lo = 0 → 0 ≤ q.1) → n ≤ c' → k (fD q) ⟨w.M, some c'⟩
abbrev s__law_fraction : Stmt := topS 23
theorem sc__law_fraction : FnScope ["_law_state", "_law_low", "_law_high", "_law_below", "_law_more"] ["_law_state", "_law_low", "_law_high"] (defScope s__law_fraction) := ⟨rfl, rfl, rfl, by decide +kernel, rfl, by decide +kernel, by decide +kernel⟩
def g__law_fraction : GS := (gSeq (gSet 3 (gBin addD (gC (.int 1)) (gCall0 2 sp__law_take (gaCons (gVar 0) (gaCons (gBin ixD (DL.gLst (gaCons (gC (.int 1)) (gaCons (gC (.int 60)) (gaCons (gBin powD (gC (.int 10)) (gC (.int 6))) gaNil)))) (gCall0 2 sp__law_take (gaCons (gVar 0) (gaCons (gC (.int 3)) gaNil)))) gaNil)))))
  (gSeq (gSet 4 (gCall0 2 sp__law_take (gaCons (gVar 0) (gaCons (gBin mulD (gBin subD (gVar 2) (gVar 1)) (gVar 3)) gaNil))))
  (gRet (gCall0 2 sp__law_sum (gaCons (gTup (gaCons (gVar 1) (gaCons (gC (.int 1)) gaNil))) (gaCons (gTup (gaCons (gVar 4) (gaCons (gVar 3) gaNil))) gaNil))))))
theorem w__law_fraction {P : Program} {w : World} {K : PySem.W.Frag} {mg : Str → Option Value} {base : Heap} (T : DefAt K mg "_law_fraction" s__law_fraction ["_law_state", "_law_low", "_law_high"]) (B : Blt mg) (F__law_take : FnAt P w K mg base CX0 1 "_law_take" 2 sp__law_take) (F__law_sum : FnAt P w K mg base CX0 1 "_law_sum" 2 sp__law_sum) : FnAt P w K mg base CX0 2 "_law_fraction" 3 (sem0 5 g__law_fraction) := by
  have nd := sc__law_fraction.nd
  exact T.fn0 sc__law_fraction (fun f cdv A outer s H E hr => (dss_cons (ds_set (i := 3) nd rfl (by first | exact Or.inl rfl | exact Or.inr rfl) (de_add de_int (de_call0 F__law_take hr (by rfl) (da_cons (de_var 0) (da_cons (de_ix (de_lst (da_cons de_int (da_cons de_int (da_cons (de_pow de_int de_int) da_nil)))) (de_call0 F__law_take hr (by rfl) (da_cons (de_var 0) (da_cons de_int da_nil)))) da_nil)))))
  (dss_cons (ds_set (i := 4) nd rfl (by first | exact Or.inl rfl | exact Or.inr rfl) (de_call0 F__law_take hr (by rfl) (da_cons (de_var 0) (da_cons (de_mul (de_sub (de_var 2) (de_var 1)) (de_var 3)) da_nil))))
  (dss_one (ds_ret (de_call0 F__law_sum hr (by rfl) (da_cons (de_tup (da_cons (de_var 1) (da_cons de_int da_nil))) (da_cons (de_tup (da_cons (de_var 4) (da_cons (de_var 3) da_nil))) da_nil))))))))

theorem v__law_fraction : ∀ ds w kx k, sp__law_fraction ds w kx k → sem0 5 g__law_fraction ds w kx k := by
  rintro ds w kx k ⟨lo, hi, c, n, rfl, ⟨hlt, hlo, hhi, hn, hc⟩, hk⟩
  have e : rho 5 [D.st, D.int lo, D.int hi] = [some .st, some (.int lo), some (.int hi), none, none] := rfl
  simp! only [g__law_fraction, e, sp__law_take]
  refine ⟨⟨by decide, by decide, by decide⟩, by decide, take_use (n + 2) hn (by omega) ⟨by decide, log_of (by decide)⟩ fun r1 c1 h0 h1 hc1 => ?_⟩
  refine ix_all (fun d => ∃ b : Int, d = .int b ∧ 0 < b ∧ b ≤ 1000000) h0 h1 (all_cons ⟨_, rfl, by decide, by decide⟩ (all_cons ⟨_, rfl, by decide, by decide⟩ (all_cons ⟨10 ^ 6, rfl, by decide, by decide⟩ all_nil))) ?_
  rintro d ⟨b, rfl, hb0, hb⟩
  refine take_use (n + 1) rfl (by omega) ⟨hb0, log_of (Nat.lt_of_le_of_lt (show b.natAbs ≤ 1000000 by omega) (by decide))⟩ fun r2 c2 h2 h3 hc2 => ?_
  have p1 : 0 < 1 + r2 ∧ 1 + r2 ≤ 1000000 := by omega
  simp! only [id_eq]
  generalize 1 + r2 = u at p1 ⊢
  have p2 : 0 < (hi - lo) * u := Int.mul_pos (by omega) p1.1
  have p3 : (hi - lo) * u ≤ 2000000000 * 1000000 := Int.mul_le_mul (by omega) p1.2 (by omega) (by omega)
  refine ⟨mulx_ok (a := 32) (b := 30) (by omega) (by omega) (by decide), take_use n rfl (by omega) ⟨p2, log_of (Nat.lt_of_le_of_lt (show ((hi - lo) * u).natAbs ≤ 2000000000000000 by omega) (by decide))⟩ fun r3 c3 h4 h5 hc3 => ⟨by decide, by decide, ?_⟩⟩
  have u0 : u ≠ 0 := by omega
  have q1 : (lo * u).natAbs ≤ 1000000000 * 1000000 := by
    rw [Int.natAbs_mul]
    exact Nat.mul_le_mul hlo (by omega)
  have s1 : (lo * u + r3).natAbs < 2 ^ 53 := by omega
  refine ⟨lo, 1, r3, u, rfl, ⟨by decide, p1.1, lt_int (a := 1899) (Nat.lt_of_le_of_lt hlo (by decide)), ⟨Nat.lt_of_le_of_lt (show r3.natAbs ≤ 2000000000000000 by omega) (by decide), Nat.lt_of_le_of_lt (show u.natAbs ≤ 1000000 by omega) (by decide)⟩⟩, ?_⟩
  rw [Int.mul_one, Int.one_mul]
  have f := fr_norm (t := lo * u + r3) u0
  have l := fr_le (t := lo * u + r3) u0
  refine hk _ c3 f (Nat.lt_of_le_of_lt l.1 s1) ?_ (fun z => ?_) hc3
  · have := l.2
    have fp := f.pos
    show frB _ _ ≤ _
    have fp : 0 < frB (lo * u + r3) u := fp
    omega
  · have e2 := norm_eq (t := lo * u + r3) u0
    have : 0 ≤ (norm (lo * u + r3) u).1 * u := by
      rw [e2]
      exact Int.mul_nonneg (by rw [z, Int.zero_mul, Int.zero_add]; exact h4) (Int.le_of_lt f.pos)
    exact Int.nonneg_of_mul_nonneg_left this p1.1
theorem frac_use {w : Wd} {c : Nat} {kx : KX} {k : KD} {lo hi : Int} (n : Nat) (hn : w.n = some c) (hc : n + 3 ≤ c) (hm : lo < hi ∧ lo.natAbs ≤ 1000000000 ∧ hi.natAbs ≤ 1000000000) (h : ∀ (q : Qp) c', Fr q → q.1.natAbs < 2 ^ 53 → q.2 ≤ 1000000 → (lo = 0 → 0 ≤ q.1) → n ≤ c' → k (fD q) ⟨w.M, some c'⟩) : sp__law_fraction [.st, .int lo, .int hi] w kx k :=
  ⟨lo, hi, c, n, rfl, ⟨hm.1, hm.2.1, hm.2.2, hn, hc⟩, h⟩
theorem ok__law_fraction {P : Program} {w : World} {K : PySem.W.Frag} {mg : Str → Option Value} {base : Heap} (T : DefAt K mg "_law_fraction" s__law_fraction ["_law_state", "_law_low", "_law_high"]) (B : Blt mg) (F__law_take : FnAt P w K mg base CX0 1 "_law_take" 2 sp__law_take) (F__law_sum : FnAt P w K mg base CX0 1 "_law_sum" 2 sp__law_sum) : FnAt P w K mg base CX0 2 "_law_fraction" 3 sp__law_fraction := (w__law_fraction T B F__law_take F__law_sum).imp v__law_fraction


end LW

namespace LW
open PySem PySem.Spec PyProof.Rows L2 RZ DL
local macro_rules | `(tactic| simp! only [$xs,*] $[$loc]?) => `(tactic| simp only [$xs,*, sem0,List.map_cons,List.map_nil,List.length_cons,List.length_nil,gSeq,gNext,gRet,gRetN,gIfS,gSet,gPar,gAsg,gDrop,gVar,gC,gBin,gUn,gB,gTru,gAnd,gOr,gNot,gAndV,gOrV,gNotV,gIf,gChain,gaNil,gaCons,DL.gTup,DL.gLst,gCB,gCall0,gAug,addD_i,addD_s,addD_l,addD_t,subD_i,mulD_i,mulD_l,fdivD_i,modD_i,powD_i,ltD_i,ltD_s,leD_i,gtD_i,geD_i,isD_n,isnotD_n,isNonD_non,isNonD_bl,isNonD_int,isNonD_str,isNonD_lst,isNonD_tup,negD_i,iaddD_i,truD_non,truD_bl,truD_int,truD_str,truD_lst,truD_tup,someK_some,ixD_l,ixD_t,fAbs_i,fInt_i,fInt_b,fMin2_i,fLen_l,fLen_t,fLen_s,fList_l,fList_t,fTuple_l,fTuple_t,optBK_some,fIsi_non,fIsi_bl,fIsi_int,fIsi_str,fIsi_lst,fIsi_tup,List.getElem?_cons_zero,List.getElem?_cons_succ,List.set_cons_zero,List.set_cons_succ,DL.ggName,ggNil0,ggCons1,ggTup2,ggTup3,gFor,giSeq,gLc,gYes,wipeR,true_and,and_true,at_0,at_1,at_2,kit_int_int,kit_bool_int,kit_str_int,kit_non_int,kit_list_int,kit_tuple_int,kit_int_bool,kit_bool_bool,kit_str_bool,kit_non_bool,kit_list_bool,kit_tuple_bool,kit_int_str,kit_bool_str,kit_str_str,kit_non_str,kit_list_str,kit_tuple_str,kit_int_list,kit_bool_list,kit_str_list,kit_non_list,kit_list_list,kit_tuple_list,kit_int_tuple,kit_bool_tuple,kit_str_tuple,kit_non_tuple,kit_list_tuple,kit_tuple_tuple,eqD_i,neD_i,eqD_s,neD_s,eqD_f,neD_f,Nat.zero_add,Nat.reduceAdd,nc0,nc1,nc2,nc3,nc4,nc5,nc6,nc7,nc8,nc9,eq_self,decide_true,decide_false,Int.reduceEq,Int.reduceLT,Int.reduceLE,Int.reduceNeg,Bool.not_true,Bool.not_false,Bool.false_eq_true,if_true,if_false,↓reduceIte,false_and,and_false,List.all_cons,List.all_nil,List.any_cons,List.any_nil,id_eq,Bool.and_true,Bool.true_and,Bool.or_false,Bool.false_or,Bool.and_false,Bool.false_and,gCut,eqD_b,neD_b,giZip,reduceCtorEq,Bool.true_eq_false,Bool.false_eq_true,gRevL,gSl,goNone,goSome,slD_l,ne_eq,not_false_eq_true,not_true_eq_false,gBM,isTy_l,isTy_s,new_at,new_set,isTy_new,cellK_new,append_new,popAt_new,gFrz_eq,frzK_new,fLen_new,fTuple_new,ixD_new,slA_l,slA_t,slA_new,addTD_t,addCD_l,mulCD_l,isbD_b,isnotbD_b,mSplitC_s,gLstC,gTr,ggSub,lstK_l,lstK_r,addLD_eq] $[$loc]?)


theorem lt_cot : ∀ (c b a : List Nat), PySem.Spec.ltCps c a = true → PySem.Spec.ltCps c b = true ∨ PySem.Spec.ltCps b a = true
  | [], [], a, h => .inr h
  | [], _ :: _, _, _ => .inl rfl
  | _ :: _, _, [], h => nomatch h
  | _ :: _, [], _ :: _, _ => .inr rfl
  | c :: cs, b :: bs, a :: as, h => by
    simp only [PySem.Spec.ltCps, Bool.or_eq_true, Bool.and_eq_true, decide_eq_true_eq, beq_iff_eq] at h ⊢
    by_cases h1 : c < b
    · exact .inl (.inl h1)
    · by_cases h2 : b < a
      · exact .inr (.inl h2)
      · rcases h with h | ⟨h3, h4⟩
        · omega
        · rcases lt_cot cs bs as h4 with h5 | h5
          · exact .inl (.inr ⟨by omega, h5⟩)
          · exact .inr (.inr ⟨by omega, h5⟩)
theorem lt_anti : ∀ (a b : List Nat), PySem.Spec.ltCps a b = false → PySem.Spec.ltCps b a = false → a = b
  | [], [], _, _ => rfl
  | [], _ :: _, h, _ => nomatch h
  | _ :: _, [], _, h => nomatch h
  | a :: as, b :: bs, h1, h2 => by
    simp only [PySem.Spec.ltCps, Bool.or_eq_false_iff, Bool.and_eq_false_iff, decide_eq_false_iff_not, beq_eq_false_iff_ne] at h1 h2
    have e : a = b := by omega
    subst e
    rw [lt_anti as bs (by rcases h1.2 with h | h; exact absurd rfl h; exact h) (by rcases h2.2 with h | h; exact absurd rfl h; exact h)]
def leS (a b : Str) : Prop := PySem.Spec.ltCps b.cps.toList a.cps.toList = false
theorem leS_anti {a b : Str} (h1 : leS a b) (h2 : leS b a) : a = b := by
  have e := lt_anti _ _ h2 h1
  obtain ⟨x⟩ := a
  obtain ⟨y⟩ := b
  congr 1
  exact Array.toList_inj.mp e
theorem leS_trans {a b c : Str} (h1 : leS a b) (h2 : leS b c) : leS a c := by
  unfold leS at *
  cases e : PySem.Spec.ltCps c.cps.toList a.cps.toList with
  | false => rfl
  | true =>
    rcases lt_cot _ b.cps.toList _ e with h | h
    · rw [h2] at h; cases h
    · rw [h1] at h; cases h
theorem rising_pw : ∀ (r : List Str) (p : Str), risingS p r = true → (p :: r).Pairwise leS
  | [], p, _ => by simp
  | x :: r, p, h => by
    have h : (!PySem.Spec.ltCps x.cps.toList p.cps.toList && risingS x r) = true := h
    rw [Bool.and_eq_true, Bool.not_eq_true'] at h
    have ih := rising_pw r x h.2
    rw [List.pairwise_cons] at ih ⊢
    refine ⟨fun y hy => ?_, List.pairwise_cons.mpr ih⟩
    rcases List.mem_cons.mp hy with rfl | hy
    · exact h.1
    · exact leS_trans h.1 (ih.1 y hy)
theorem sorted_pw {l : List Str} (h : sortedS l = true) : l.Pairwise leS := by
  cases l with
  | nil => exact .nil
  | cons x r => exact rising_pw r x h
theorem uniq_sorted : ∀ {xs ys : List Str}, xs.Pairwise leS → ys.Pairwise leS → xs.Perm ys → xs = ys
  | [], ys, _, _, h => h.nil_eq.symm ▸ rfl
  | x :: xs, [], _, _, h => absurd h.length_eq (by simp)
  | x :: xs, y :: ys, h1, h2, h => by
    rw [List.pairwise_cons] at h1 h2
    have e : x = y := by
      have hx : x ∈ y :: ys := h.mem_iff.mp List.mem_cons_self
      have hy : y ∈ x :: xs := h.mem_iff.mpr List.mem_cons_self
      rcases List.mem_cons.mp hx with e | hx
      · exact e
      · rcases List.mem_cons.mp hy with e | hy
        · exact e.symm
        · exact leS_anti (h1.1 y hy) (h2.1 x hx)
    subst e
    rw [uniq_sorted h1.2 h2.2 h.cons_inv]

def sortN (l : List Str) : List Str := l.mergeSort fun a b => decide (a.cps.toList ≤ b.cps.toList)
theorem ltS_iff {x y : Str} : ltS x y = PySem.Spec.ltCps x.cps.toList y.cps.toList := by
  unfold ltS
  rw [PyProof.Rows.ltCps_eq]
theorem ltS_trans {x y z : Str} (h1 : ltS x y = true) (h2 : ltS y z = true) : ltS x z = true := by
  unfold ltS at *
  rw [decide_eq_true_eq] at *
  exact List.lt_trans h1 h2
theorem ltS_irrefl {x : Str} : ltS x x = false := by
  unfold ltS
  rw [decide_eq_false_iff_not]
  exact List.lt_irrefl _
theorem upB_pw : ∀ {l : List Str}, upB l = true → l.Pairwise fun a b => ltS a b = true
  | [], _ => .nil
  | [x], _ => List.pairwise_singleton _ _
  | x :: y :: r, h => by
    have h : (ltS x y && upB (y :: r)) = true := h
    rw [Bool.and_eq_true] at h
    have ih := upB_pw h.2
    refine List.pairwise_cons.mpr ⟨fun z hz => ?_, ih⟩
    rcases List.mem_cons.mp hz with rfl | hz
    · exact h.1
    · exact ltS_trans h.1 ((List.pairwise_cons.mp ih).1 z hz)
theorem upB_of : ∀ {l : List Str}, l.Pairwise (fun a b => ltS a b = true) → upB l = true
  | [], _ => rfl
  | [x], _ => rfl
  | x :: y :: r, h => by
    obtain ⟨h1, h2⟩ := List.pairwise_cons.mp h
    show (ltS x y && upB (y :: r)) = true
    rw [h1 y List.mem_cons_self, upB_of h2]
    rfl
theorem ltS_leS {a b : Str} (h : ltS a b = true) : leS a b := by
  unfold leS
  rw [PyProof.Rows.ltCps_eq, decide_eq_false_iff_not]
  unfold ltS at h
  rw [decide_eq_true_eq] at h
  exact fun q => absurd (List.lt_trans h q) (List.lt_irrefl _)
theorem leS_ltS {a b : Str} (h : leS a b) (n : a ≠ b) : ltS a b = true := by
  rw [ltS_iff]
  cases q : PySem.Spec.ltCps a.cps.toList b.cps.toList with
  | true => rfl
  | false =>
    refine absurd ?_ n
    have e : a.cps.toList = b.cps.toList := lt_anti _ _ q h
    cases a
    cases b
    exact congrArg _ (Array.toList_inj.mp e)
theorem set_sorted {l ms : List Str} (nd : ms.Nodup) (hs : sortedS ms = true) (hm : ∀ j, j ∈ ms ↔ j ∈ l) : decide (l = ms) = upB l := by
  rw [Bool.eq_iff_iff, decide_eq_true_eq]
  have mpw := sorted_pw hs
  constructor
  · rintro rfl
    refine upB_of ?_
    exact (List.Pairwise.and mpw nd).imp fun {a b} h => leS_ltS h.1 h.2
  · intro h
    have pw := upB_pw h
    have nl : l.Nodup := pw.imp fun {a b} h e => by
      rw [e, ltS_irrefl] at h
      cases h
    exact uniq_sorted (pw.imp fun h => ltS_leS h) mpw ((List.perm_ext_iff_of_nodup nl nd).mpr fun j => (hm j).symm)

def sp__law_is_fraction : GF := fun ds w _ k => ∃ x : D, ds = [x] ∧ anyD w.M x = true ∧ k (.bl (frcB x)) w
abbrev s__law_is_fraction : Stmt := topS 27
theorem sc__law_is_fraction : FnScope ["_law_thing", "_law_one"] ["_law_thing"] (defScope s__law_is_fraction) := ⟨rfl, rfl, rfl, by decide +kernel, rfl, by decide +kernel, by decide +kernel⟩
def g__law_is_fraction : GS := (gSeq (gIfS (gOr (gNot (gTru (gCB fIsi (gaCons (gVar 0) (gaCons (gC (.ob (.ty "tuple"))) gaNil))))) (gB (gBin neD (gCB fLen (gaCons (gVar 0) gaNil)) (gC (.int 2))))) (gRet (gC (.bl false))) gNext)
  (gSeq (gIfS (gNot (gTru (gCB fAll (gaCons (gLc (giSeq (gVar 0)) (ggName 1) gYes (gAndV (gCB fIsi (gaCons (gVar 1) (gaCons (gC (.ob (.ty "int"))) gaNil))) (gNotV (gCB fIsi (gaCons (gVar 1) (gaCons (gC (.ob (.ty "bool"))) gaNil))))) [1]) gaNil)))) (gRet (gC (.bl false))) gNext)
  (gRet (gAndV (gBin gtD (gBin ixD (gVar 0) (gC (.int 1))) (gC (.int 0))) (gBin eqD (gCall0 2 sp__law_sum (gaCons (gVar 0) (gaCons (gTup (gaCons (gC (.int 0)) (gaCons (gC (.int 1)) gaNil))) gaNil))) (gVar 0))))))
theorem w__law_is_fraction {P : Program} {w : World} {K : PySem.W.Frag} {mg : Str → Option Value} {base : Heap} (T : DefAt K mg "_law_is_fraction" s__law_is_fraction ["_law_thing"]) (B : Blt mg) (F__law_sum : FnAt P w K mg base CX0 1 "_law_sum" 2 sp__law_sum) : FnAt P w K mg base CX0 2 "_law_is_fraction" 1 (sem0 2 g__law_is_fraction) := by
  have nd := sc__law_is_fraction.nd
  exact T.fn0 sc__law_is_fraction (fun f cdv A outer s H E hr => (dss_cons (ds_if (dt_w (dw_or (dt_not (dt_truth (de_isi B (by rfl) (da_cons (de_var 0) (da_cons (de_type (by rfl) B.tuple_ (by decide +kernel)) da_nil))))) (dw_or1 (dt_ne hr (de_len B (by rfl) (da_cons (de_var 0) da_nil)) de_int)))) (dss_one (ds_ret de_bl)) dss_nil)
  (dss_cons (ds_if (dt_not (dt_truth (de_all B rfl (by rfl) (da_cons (de_lc (own := [("_law_one", 1)]) (us := [1]) rfl nd (di_seq (de_var 0)) (blkOk_by (N := ["_law_thing", "_law_one"]) (sc := defScope s__law_is_fraction) (by decide +kernel)) (by decide) (fun _ _ _ _ _ => (dg_name (i := 1) nd rfl (by first | exact Or.inl rfl | exact Or.inr rfl))) (fun _ _ _ _ _ => dts_nil) (fun _ _ _ _ _ => (de_and (de_isi B (by rfl) (da_cons (de_var 1) (da_cons (de_type (by rfl) B.int_ (by decide +kernel)) da_nil))) (de_one (de_not (de_isi B (by rfl) (da_cons (de_var 1) (da_cons (de_type (by rfl) B.bool_ (by decide +kernel)) da_nil)))))))) da_nil)))) (dss_one (ds_ret de_bl)) dss_nil)
  (dss_one (ds_ret (de_and (de_gt (de_ix (de_var 0) de_int) de_int) (de_one (de_eq hr (de_call0 F__law_sum hr (by rfl) (da_cons (de_var 0) (da_cons (de_tup (da_cons de_int (da_cons de_int da_nil))) da_nil))) (de_var 0)))))))))

theorem v__law_is_fraction : ∀ ds w kx k, sp__law_is_fraction ds w kx k → sem0 2 g__law_is_fraction ds w kx k := by
  rintro ds w kx k ⟨x, rfl, h, hk⟩
  have e : rho 2 [x] = [some x, none] := rfl
  simp! only [g__law_is_fraction, e, isi_tup h]
  cases x with
  | tup xs =>
    simp! only [isT]
    by_cases hl : (xs.length : Int) = 2
    · rw [decide_eq_true hl]
      obtain ⟨a, b, rfl⟩ := two_of hl
      have h := (any_tup h).1
      simp! only [id_eq]
      refine lc_ty id (fun z => .bl (wholeB z)) [a, b] trivial (by simp) (fun z hz k' hk' => ?_) ?_
      · have hz := h z hz
        simp! only [isi_int hz, isi_bool hz]
        cases z <;> exact hk'
      refine all_map ?_
      simp! only [id_eq]
      cases a with
      | int a =>
        cases b with
        | int b =>
          simp! only [wholeB, sp__law_sum]
          by_cases hb : 0 < b
          · have hB : b.natAbs < 2 ^ 600 := by simpa [anyD] using h (.int b) (by simp)
            have hA : a.natAbs < 2 ^ 600 := by simpa [anyD] using h (.int a) (by simp)
            rw [decide_eq_true hb]
            simp! only [id_eq]
            refine ⟨by decide, a, b, 0, 1, rfl, ⟨hb, by decide, ⟨nat_mono hA (by decide), nat_mono hB (by decide)⟩, lt_nought⟩, ?_⟩
            rw [Int.mul_one, Int.zero_mul, Int.add_zero, Int.mul_one, eq_fD hb]
            rw [frc_i, decide_eq_true hb, Bool.true_and] at hk
            exact hk
          · rw [decide_eq_false hb]
            simp! only [id_eq]
            rw [frc_i, decide_eq_false hb, Bool.false_and] at hk
            exact hk
        | _ => simp! only [wholeB]; exact hk
      | _ => simp! only [wholeB]; exact hk
    · rw [decide_eq_false hl]
      simp! only [id_eq]
      rw [frc_len hl] at hk
      exact hk
  | _ => simp! only [isT]; exact hk
theorem ok__law_is_fraction {P : Program} {w : World} {K : PySem.W.Frag} {mg : Str → Option Value} {base : Heap} (T : DefAt K mg "_law_is_fraction" s__law_is_fraction ["_law_thing"]) (B : Blt mg) (F__law_sum : FnAt P w K mg base CX0 1 "_law_sum" 2 sp__law_sum) : FnAt P w K mg base CX0 2 "_law_is_fraction" 1 sp__law_is_fraction := (w__law_is_fraction T B F__law_sum).imp v__law_is_fraction

def sp__law_is_statement : GF := fun ds w _ k => ∃ x : D, ds = [x] ∧ anyD w.M x = true ∧ k (.bl (stB x)) w
abbrev s__law_is_statement : Stmt := topS 28
theorem sc__law_is_statement : FnScope ["_law_thing", "_law_k", "_law_sign"] ["_law_thing"] (defScope s__law_is_statement) := ⟨rfl, rfl, rfl, by decide +kernel, rfl, by decide +kernel, by decide +kernel⟩
def g__law_is_statement : GS := (gSeq (gIfS (gOr (gNot (gTru (gCB fIsi (gaCons (gVar 0) (gaCons (gC (.ob (.ty "tuple"))) gaNil))))) (gOr (gB (gBin neD (gCB fLen (gaCons (gVar 0) gaNil)) (gC (.int 9)))) (gNot (gTru (gCB fIsi (gaCons (gBin ixD (gVar 0) (gC (.int 0))) (gaCons (gC (.ob (.ty "str"))) gaNil))))))) (gRet (gC (.bl false))) gNext)
  (gSeq (gIfS (gOr (gNot (gB (gChain ltD ltD (gC (.int 0)) (gCB fLen (gaCons (gBin ixD (gVar 0) (gC (.int 0))) gaNil)) (gC (.int 9))))) (gNot (gTru (gCB fAll (gaCons (gLc (giStr (gBin ixD (gVar 0) (gC (.int 0)))) (ggName 2) gYes (gBin inSD (gVar 2) (gC (.str "abcdefghijklmnopqrstuvwxyz"))) [2]) gaNil))))) (gRet (gC (.bl false))) gNext)
  (gSeq (gIfS (gNot (gTru (gCB fAll (gaCons (gLc (giSeq (gTup (gaCons (gC (.int 1)) (gaCons (gC (.int 2)) (gaCons (gC (.int 5)) (gaCons (gC (.int 6)) gaNil)))))) (ggName 1) gYes (gCall0 1 sp__law_is_fraction (gaCons (gBin ixD (gVar 0) (gVar 1)) gaNil)) [1]) gaNil)))) (gRet (gC (.bl false))) gNext)
  (gRet (gCB fAll (gaCons (gLc (giSeq (gTup (gaCons (gC (.int 3)) (gaCons (gC (.int 4)) (gaCons (gC (.int 7)) (gaCons (gC (.int 8)) gaNil)))))) (ggName 1) gYes (gAndV (gCB fIsi (gaCons (gBin ixD (gVar 0) (gVar 1)) (gaCons (gC (.ob (.ty "int"))) gaNil))) (gAndV (gNotV (gCB fIsi (gaCons (gBin ixD (gVar 0) (gVar 1)) (gaCons (gC (.ob (.ty "bool"))) gaNil)))) (gBin geD (gBin ixD (gVar 0) (gVar 1)) (gC (.int 0))))) [1]) gaNil))))))
theorem w__law_is_statement {P : Program} {w : World} {K : PySem.W.Frag} {mg : Str → Option Value} {base : Heap} (T : DefAt K mg "_law_is_statement" s__law_is_statement ["_law_thing"]) (B : Blt mg) (F__law_is_fraction : FnAt P w K mg base CX0 2 "_law_is_fraction" 1 sp__law_is_fraction) : FnAt P w K mg base CX0 3 "_law_is_statement" 1 (sem0 3 g__law_is_statement) := by
  have nd := sc__law_is_statement.nd
  exact T.fn0 sc__law_is_statement (fun f cdv A outer s H E hr => (dss_cons (ds_if (dt_w (dw_or (dt_not (dt_truth (de_isi B (by rfl) (da_cons (de_var 0) (da_cons (de_type (by rfl) B.tuple_ (by decide +kernel)) da_nil))))) (dw_or (dt_ne hr (de_len B (by rfl) (da_cons (de_var 0) da_nil)) de_int) (dw_or1 (dt_not (dt_truth (de_isi B (by rfl) (da_cons (de_ix (de_var 0) de_int) (da_cons (de_type (by rfl) B.str_ (by decide +kernel)) da_nil))))))))) (dss_one (ds_ret de_bl)) dss_nil)
  (dss_cons (ds_if (dt_w (dw_or (dt_not (dt_chain op_ltD ok_ltD op_ltD ok_ltD de_int (de_len B (by rfl) (da_cons (de_ix (de_var 0) de_int) da_nil)) de_int)) (dw_or1 (dt_not (dt_truth (de_all B rfl (by rfl) (da_cons (de_lc (own := [("_law_sign", 2)]) (us := [2]) rfl nd (di_str (de_ix (de_var 0) de_int)) (blkOk_by (N := ["_law_thing", "_law_k", "_law_sign"]) (sc := defScope s__law_is_statement) (by decide +kernel)) (by decide) (fun _ _ _ _ _ => (dg_name (i := 2) nd rfl (by first | exact Or.inl rfl | exact Or.inr rfl))) (fun _ _ _ _ _ => dts_nil) (fun _ _ _ _ _ => (de_inS (de_var 2) de_str))) da_nil))))))) (dss_one (ds_ret de_bl)) dss_nil)
  (dss_cons (ds_if (dt_not (dt_truth (de_all B rfl (by rfl) (da_cons (de_lc (own := [("_law_k", 1)]) (us := [1]) rfl nd (di_seq (de_tup (da_cons de_int (da_cons de_int (da_cons de_int (da_cons de_int da_nil)))))) (blkOk_by (N := ["_law_thing", "_law_k", "_law_sign"]) (sc := defScope s__law_is_statement) (by decide +kernel)) (by decide) (fun _ _ _ _ _ => (dg_name (i := 1) nd rfl (by first | exact Or.inl rfl | exact Or.inr rfl))) (fun _ _ _ _ _ => dts_nil) (fun _ _ _ _ _ => (de_call0 F__law_is_fraction hr (by rfl) (da_cons (de_ix (de_var 0) (de_var 1)) da_nil)))) da_nil)))) (dss_one (ds_ret de_bl)) dss_nil)
  (dss_one (ds_ret (de_all B rfl (by rfl) (da_cons (de_lc (own := [("_law_k", 1)]) (us := [1]) rfl nd (di_seq (de_tup (da_cons de_int (da_cons de_int (da_cons de_int (da_cons de_int da_nil)))))) (blkOk_by (N := ["_law_thing", "_law_k", "_law_sign"]) (sc := defScope s__law_is_statement) (by decide +kernel)) (by decide) (fun _ _ _ _ _ => (dg_name (i := 1) nd rfl (by first | exact Or.inl rfl | exact Or.inr rfl))) (fun _ _ _ _ _ => dts_nil) (fun _ _ _ _ _ => (de_and (de_isi B (by rfl) (da_cons (de_ix (de_var 0) (de_var 1)) (da_cons (de_type (by rfl) B.int_ (by decide +kernel)) da_nil))) (de_and (de_not (de_isi B (by rfl) (da_cons (de_ix (de_var 0) (de_var 1)) (da_cons (de_type (by rfl) B.bool_ (by decide +kernel)) da_nil)))) (de_one (de_ge (de_ix (de_var 0) (de_var 1)) de_int)))))) da_nil))))))))

theorem v__law_is_statement : ∀ ds w kx k, sp__law_is_statement ds w kx k → sem0 3 g__law_is_statement ds w kx k := by
  rintro ds w kx k ⟨x, rfl, h, hk⟩
  have e : rho 3 [x] = [some x, none, none] := rfl
  simp! only [g__law_is_statement, e, isi_tup h]
  cases x with
  | tup xs =>
    simp! only [isT]
    by_cases hl : (xs.length : Int) = 9
    · obtain ⟨n, a, b, c, d, e1, f, g, i, rfl⟩ := nine_of hl
      have h := (any_tup h).1
      have hn := h n (by simp)
      rw [decide_eq_true hl]
      simp! only [isi_str hn]
      have hs : stB (.tup [n, a, b, c, d, e1, f, g, i]) = (nameB n && (frcB a && frcB b && frcB e1 && frcB f) && (natB c && natB d && natB g && natB i)) := rfl
      rw [hs] at hk
      cases n with
      | str s =>
        obtain ⟨s1, s2⟩ := any_str hn
        simp! only [isS, giStr, inSD]
        have hN : nameB (.str s) = (decide (1 ≤ s.length) && decide (s.length ≤ 8) && s.cps.toList.all fun c => decide (c ∈ small.cps.toList)) := rfl
        have bad : nameB (.str s) = false → k (.bl false) w := fun q => by
          rw [q, Bool.false_and, Bool.false_and] at hk
          exact hk
        refine ⟨le_sl (by omega), ?_⟩
        by_cases h1 : (0 : Int) < (s.length : Int)
        · rw [decide_eq_true h1]
          simp! only [id_eq]
          by_cases h2 : (s.length : Int) < 9
          · rw [decide_eq_true h2]
            simp! only [id_eq]
            refine lc_ty (fun c => D.str ⟨#[c]⟩) (fun c => D.bl (decide (c ∈ small.cps.toList))) s.cps.toList trivial (by
              have : s.cps.toList.length = s.length := Array.length_toList
              omega) (fun c hc k' hk' => ?_) ?_
            · simp! only [inSD]
              exact ⟨c, rfl, hk'⟩
            refine all_map ?_
            rw [decide_eq_true (show 1 ≤ s.length by omega), decide_eq_true (show s.length ≤ 8 by omega), Bool.true_and, Bool.true_and] at hN
            rw [← hN]
            cases q : nameB (.str s) with
            | false =>
              simp! only [id_eq]
              exact bad q
            | true =>
              rw [q, Bool.true_and] at hk
              simp! only [id_eq]
              refine ⟨by decide, ?_⟩
              refine lc_ty (fun p : Int × D => .int p.1) (fun p => .bl (frcB p.2)) [(1, a), (2, b), (5, e1), (6, f)] trivial (by simp) (fun p hp k' hk' => ?_) ?_
              · simp only [List.mem_cons, List.not_mem_nil, or_false] at hp
                rcases hp with rfl | rfl | rfl | rfl
                · simp! only [sp__law_is_fraction, st_i1]
                  exact ⟨_, rfl, h a (by simp), hk'⟩
                · simp! only [sp__law_is_fraction, st_i2]
                  exact ⟨_, rfl, h b (by simp), hk'⟩
                · simp! only [sp__law_is_fraction, st_i5]
                  exact ⟨_, rfl, h e1 (by simp), hk'⟩
                · simp! only [sp__law_is_fraction, st_i6]
                  exact ⟨_, rfl, h f (by simp), hk'⟩
              refine all_map ?_
              have q4 : ([(1, a), (2, b), (5, e1), (6, f)] : List (Int × D)).all (fun p => frcB p.2) = (frcB a && frcB b && frcB e1 && frcB f) := by simp [Bool.and_assoc]
              rw [q4]
              cases h4 : (frcB a && frcB b && frcB e1 && frcB f) with
              | false =>
                rw [h4, Bool.false_and] at hk
                simp! only [id_eq]
                exact hk
              | true =>
                rw [h4, Bool.true_and] at hk
                simp! only [id_eq]
                refine ⟨by decide, ?_⟩
                refine lc_ty (fun p : Int × D => .int p.1) (fun p => .bl (natB p.2)) [(3, c), (4, d), (7, g), (8, i)] trivial (by simp) (fun p hp k' hk' => ?_) ?_
                · have nat : ∀ z : D, anyD w.M z = true → k' (.bl (natB z)) w → fIsi [z, .ob (.ty "int")] w (fun x w1 => (match x with | .bl true => fIsi [z, .ob (.ty "bool")] w1 (fun x w1 => match x with | .bl b => (match D.bl (!b) with | .bl true => geD z (.int 0) w1 k' | .bl false => k' (.bl false) w1 | x => False) | x => False) | .bl false => k' (.bl false) w1 | x => False)) := fun z hz hq => by
                    rw [isi_int hz]
                    cases z with
                    | int j =>
                      show fIsi _ _ _
                      rw [isi_bool hz]
                      exact hq
                    | bl j =>
                      show fIsi _ _ _
                      rw [isi_bool hz]
                      exact hq
                    | _ => exact hq
                  simp only [List.mem_cons, List.not_mem_nil, or_false] at hp
                  rcases hp with rfl | rfl | rfl | rfl
                  · simp! only [st_i3]
                    exact nat _ (h c (by simp)) hk'
                  · simp! only [st_i4]
                    exact nat _ (h d (by simp)) hk'
                  · simp! only [st_i7]
                    exact nat _ (h g (by simp)) hk'
                  · simp! only [st_i8]
                    exact nat _ (h i (by simp)) hk'
                refine all_map ?_
                have q5 : ([(3, c), (4, d), (7, g), (8, i)] : List (Int × D)).all (fun p => natB p.2) = (natB c && natB d && natB g && natB i) := by simp [Bool.and_assoc]
                rw [q5]
                exact hk
          · rw [decide_eq_false h2]
            simp! only [id_eq]
            refine bad ?_
            rw [hN, decide_eq_false (show ¬ s.length ≤ 8 by omega), Bool.and_false, Bool.false_and]
        · rw [decide_eq_false h1]
          simp! only [id_eq]
          refine bad ?_
          rw [hN, decide_eq_false (show ¬ 1 ≤ s.length by omega), Bool.false_and, Bool.false_and]
      | _ => simp! only [isS]; exact hk
    · rw [decide_eq_false hl]
      simp! only [id_eq]
      rw [st_len hl] at hk
      exact hk
  | _ => simp! only [isT]; exact hk
theorem ok__law_is_statement {P : Program} {w : World} {K : PySem.W.Frag} {mg : Str → Option Value} {base : Heap} (T : DefAt K mg "_law_is_statement" s__law_is_statement ["_law_thing"]) (B : Blt mg) (F__law_is_fraction : FnAt P w K mg base CX0 2 "_law_is_fraction" 1 sp__law_is_fraction) : FnAt P w K mg base CX0 3 "_law_is_statement" 1 sp__law_is_statement := (w__law_is_statement T B F__law_is_fraction).imp v__law_is_statement


end LW

namespace LW
open PySem PySem.Spec PyProof.Rows L2 RZ DL
local macro_rules | `(tactic| simp! only [$xs,*] $[$loc]?) => `(tactic| simp only [$xs,*, sem0,List.map_cons,List.map_nil,List.length_cons,List.length_nil,gSeq,gNext,gRet,gRetN,gIfS,gSet,gPar,gAsg,gDrop,gVar,gC,gBin,gUn,gB,gTru,gAnd,gOr,gNot,gAndV,gOrV,gNotV,gIf,gChain,gaNil,gaCons,DL.gTup,DL.gLst,gCB,gCall0,gAug,addD_i,addD_s,addD_l,addD_t,subD_i,mulD_i,mulD_l,fdivD_i,modD_i,powD_i,ltD_i,ltD_s,leD_i,gtD_i,geD_i,isD_n,isnotD_n,isNonD_non,isNonD_bl,isNonD_int,isNonD_str,isNonD_lst,isNonD_tup,negD_i,iaddD_i,truD_non,truD_bl,truD_int,truD_str,truD_lst,truD_tup,someK_some,ixD_l,ixD_t,fAbs_i,fInt_i,fInt_b,fMin2_i,fLen_l,fLen_t,fLen_s,fList_l,fList_t,fTuple_l,fTuple_t,optBK_some,fIsi_non,fIsi_bl,fIsi_int,fIsi_str,fIsi_lst,fIsi_tup,List.getElem?_cons_zero,List.getElem?_cons_succ,List.set_cons_zero,List.set_cons_succ,DL.ggName,ggNil0,ggCons1,ggTup2,ggTup3,gFor,giSeq,gLc,gYes,wipeR,true_and,and_true,at_0,at_1,at_2,kit_int_int,kit_bool_int,kit_str_int,kit_non_int,kit_list_int,kit_tuple_int,kit_int_bool,kit_bool_bool,kit_str_bool,kit_non_bool,kit_list_bool,kit_tuple_bool,kit_int_str,kit_bool_str,kit_str_str,kit_non_str,kit_list_str,kit_tuple_str,kit_int_list,kit_bool_list,kit_str_list,kit_non_list,kit_list_list,kit_tuple_list,kit_int_tuple,kit_bool_tuple,kit_str_tuple,kit_non_tuple,kit_list_tuple,kit_tuple_tuple,eqD_i,neD_i,eqD_s,neD_s,eqD_f,neD_f,Nat.zero_add,Nat.reduceAdd,nc0,nc1,nc2,nc3,nc4,nc5,nc6,nc7,nc8,nc9,eq_self,decide_true,decide_false,Int.reduceEq,Int.reduceLT,Int.reduceLE,Int.reduceNeg,Bool.not_true,Bool.not_false,Bool.false_eq_true,if_true,if_false,↓reduceIte,false_and,and_false,List.all_cons,List.all_nil,List.any_cons,List.any_nil,id_eq,Bool.and_true,Bool.true_and,Bool.or_false,Bool.false_or,Bool.and_false,Bool.false_and,gCut,eqD_b,neD_b,giZip,reduceCtorEq,Bool.true_eq_false,Bool.false_eq_true,gRevL,gSl,goNone,goSome,slD_l,ne_eq,not_false_eq_true,not_true_eq_false,gBM,isTy_l,isTy_s,new_at,new_set,isTy_new,cellK_new,append_new,popAt_new,gFrz_eq,frzK_new,fLen_new,fTuple_new,ixD_new,slA_l,slA_t,slA_new,addTD_t,addCD_l,mulCD_l,isbD_b,isnotbD_b,mSplitC_s,gLstC,gTr,ggSub,lstK_l,lstK_r,addLD_eq] $[$loc]?)


theorem snoc2 {xs : List Qp} {x : Qp} (h : ∀ y ∈ xs, Fr y) (hx : Fr x) : sumQ [sumQ xs, x] = sumQ (xs ++ [x]) := by
  rw [← sum2, sumQ_snoc h hx]
def sp__law_goes_on : GF := fun ds w _ k => ∃ x y : St, ds = [stD x, stD y] ∧ (StOk x ∧ StOk y) ∧ k (.bl (goQ x y)) w
abbrev s__law_goes_on : Stmt := topS 29
theorem sc__law_goes_on : FnScope ["_law_one", "_law_other", "_law_now", "_law_due"] ["_law_one", "_law_other"] (defScope s__law_goes_on) := ⟨rfl, rfl, rfl, by decide +kernel, rfl, by decide +kernel, by decide +kernel⟩
def g__law_goes_on : GS := (gSeq (gSet 2 (gCall0 2 sp__law_sum (gaCons (gBin ixD (gVar 1) (gC (.int 5))) (gaCons (gBin ixD (gVar 1) (gC (.int 6))) gaNil))))
  (gSeq (gSet 3 (gCall0 2 sp__law_sum (gaCons (gCall0 2 sp__law_sum (gaCons (gCall0 2 sp__law_sum (gaCons (gBin ixD (gVar 0) (gC (.int 5))) (gaCons (gBin ixD (gVar 0) (gC (.int 6))) gaNil))) (gaCons (gBin ixD (gVar 1) (gC (.int 1))) gaNil))) (gaCons (gTup (gaCons (gBin subD (gUn negD (gBin ixD (gVar 1) (gC (.int 3)))) (gBin ixD (gVar 1) (gC (.int 4)))) (gaCons (gC (.int 1)) gaNil))) gaNil))))
  (gSeq (gIfS (gOr (gB (gBin neD (gVar 2) (gVar 3))) (gOr (gB (gBin ltD (gBin ixD (gBin ixD (gVar 1) (gC (.int 2))) (gC (.int 0))) (gC (.int 0)))) (gB (gBin ltD (gBin ixD (gBin ixD (gVar 1) (gC (.int 6))) (gC (.int 0))) (gC (.int 0)))))) (gRet (gC (.bl false))) gNext)
  (gSeq (gIfS (gOr (gTru (gCall0 2 sp__law_less (gaCons (gBin ixD (gVar 0) (gC (.int 6))) (gaCons (gBin ixD (gVar 1) (gC (.int 2))) gaNil)))) (gNot (gTru (gCall0 2 sp__law_less (gaCons (gBin ixD (gVar 1) (gC (.int 5))) (gaCons (gTup (gaCons (gC (.int 1)) (gaCons (gC (.int 1)) gaNil))) gaNil)))))) (gRet (gC (.bl false))) gNext)
  (gRet (gOrV (gBin eqD (gBin ixD (gVar 1) (gC (.int 4))) (gC (.int 0))) (gAndV (gBin eqD (gBin ixD (gVar 1) (gC (.int 7))) (gC (.int 0))) (gBin eqD (gBin ixD (gVar 1) (gC (.int 8))) (gC (.int 0))))))))))
theorem w__law_goes_on {P : Program} {w : World} {K : PySem.W.Frag} {mg : Str → Option Value} {base : Heap} (T : DefAt K mg "_law_goes_on" s__law_goes_on ["_law_one", "_law_other"]) (B : Blt mg) (F__law_sum : FnAt P w K mg base CX0 1 "_law_sum" 2 sp__law_sum) (F__law_less : FnAt P w K mg base CX0 1 "_law_less" 2 sp__law_less) : FnAt P w K mg base CX0 2 "_law_goes_on" 2 (sem0 4 g__law_goes_on) := by
  have nd := sc__law_goes_on.nd
  exact T.fn0 sc__law_goes_on (fun f cdv A outer s H E hr => (dss_cons (ds_set (i := 2) nd rfl (by first | exact Or.inl rfl | exact Or.inr rfl) (de_call0 F__law_sum hr (by rfl) (da_cons (de_ix (de_var 1) de_int) (da_cons (de_ix (de_var 1) de_int) da_nil))))
  (dss_cons (ds_set (i := 3) nd rfl (by first | exact Or.inl rfl | exact Or.inr rfl) (de_call0 F__law_sum hr (by rfl) (da_cons (de_call0 F__law_sum hr (by rfl) (da_cons (de_call0 F__law_sum hr (by rfl) (da_cons (de_ix (de_var 0) de_int) (da_cons (de_ix (de_var 0) de_int) da_nil))) (da_cons (de_ix (de_var 1) de_int) da_nil))) (da_cons (de_tup (da_cons (de_sub (de_neg (de_ix (de_var 1) de_int)) (de_ix (de_var 1) de_int)) (da_cons de_int da_nil))) da_nil))))
  (dss_cons (ds_if (dt_w (dw_or (dt_ne hr (de_var 2) (de_var 3)) (dw_or (dt_lt (de_ix (de_ix (de_var 1) de_int) de_int) de_int) (dw_or1 (dt_lt (de_ix (de_ix (de_var 1) de_int) de_int) de_int))))) (dss_one (ds_ret de_bl)) dss_nil)
  (dss_cons (ds_if (dt_w (dw_or (dt_truth (de_call0 F__law_less hr (by rfl) (da_cons (de_ix (de_var 0) de_int) (da_cons (de_ix (de_var 1) de_int) da_nil)))) (dw_or1 (dt_not (dt_truth (de_call0 F__law_less hr (by rfl) (da_cons (de_ix (de_var 1) de_int) (da_cons (de_tup (da_cons de_int (da_cons de_int da_nil))) da_nil)))))))) (dss_one (ds_ret de_bl)) dss_nil)
  (dss_one (ds_ret (de_or (de_eq hr (de_ix (de_var 1) de_int) de_int) (de_one (de_and (de_eq hr (de_ix (de_var 1) de_int) de_int) (de_one (de_eq hr (de_ix (de_var 1) de_int) de_int))))))))))))

theorem v__law_goes_on : ∀ ds w kx k, sp__law_goes_on ds w kx k → sem0 4 g__law_goes_on ds w kx k := by
  rintro ds w kx k ⟨x, y, rfl, ⟨hx, hy⟩, hk⟩
  have e : rho 4 [stD x, stD y] = [some (stD x), some (stD y), none, none] := rfl
  simp! only [g__law_goes_on, e, sp__law_less, stD1, stD2, stD3, stD4, stD5, stD6, stD7, stD8, ixD_f0, ixD_f1, ggTup_f, fIsi_f, fLen_f, eqD_ff, neD_ff]
  have up : ∀ {z : Qp} {n : Nat}, n ≤ 1900 → Lt2 n z → Lt2 1900 z := fun h l => l.mono h
  have I : Fr (-y.wo - y.pa, 1) ∧ Lt2 601 (-y.wo - y.pa, 1) := frI (a := 600) (by have h1 := hy.wo.2; have h2 := hy.pa.2; rw [Nat.pow_succ]; omega)
  have F2 : ∀ z ∈ [x.op, x.ke], Fr z := by simp [hx.op.1, hx.ke.1]
  have F3 : ∀ z ∈ [x.op, x.ke, y.ea], Fr z := by simp [hx.op.1, hx.ke.1, hy.ea.1]
  have L2 : Lt2 1203 (sumQ [x.op, x.ke]) := sum_lt (a := 600) (n := 2) rfl (frB_cons hx.op (frB_cons hx.ke frB_nil))
  have L3 : Lt2 1804 (sumQ [x.op, x.ke, y.ea]) := sum_lt (a := 600) (n := 3) rfl (frB_cons hx.op (frB_cons hx.ke (frB_cons hy.ea frB_nil)))
  refine sum_use hy.op.1.pos hy.ke.1.pos (up (by decide) hy.op.2) (up (by decide) hy.ke.2) ?_
  refine sum_use hx.op.1.pos hx.ke.1.pos (up (by decide) hx.op.2) (up (by decide) hx.ke.2) ?_
  refine sum_use (fr_sum F2).pos hy.ea.1.pos (up (by decide) L2) (up (by decide) hy.ea.2) ?_
  rw [snoc2 F2 hy.ea.1]
  show 2 ≤ sizeLine ∧ sp__law_sum [fD (sumQ [x.op, x.ke, y.ea]), fD (-y.wo - y.pa, 1)] _ _ _
  refine ⟨by decide, sum_use (fr_sum F3).pos I.1.pos (up (by decide) L3) (up (by decide) I.2) ?_⟩
  rw [snoc2 F3 I.1]
  show neD (fD (sumQ [y.op, y.ke])) (fD (sumQ [x.op, x.ke, y.ea, (-y.wo - y.pa, 1)])) _ _
  rw [neD_ff]
  have lo : ∀ {z : Qp}, Fr z ∧ Lt2 600 z → Lt2 4000 z := fun h => h.2.mono (by decide)
  by_cases h1 : sumQ [y.op, y.ke] = sumQ [x.op, x.ke, y.ea, (-y.wo - y.pa, 1)]
  · rw [decide_eq_true h1]
    simp! only [ixD_f0, ixD_f1, ggTup_f, fIsi_f, fLen_f, eqD_ff, neD_ff]
    have mid : ∀ b : Bool, (!decide (y.fr.1 < 0) && !lessQ x.ke y.fr && !decide (y.ke.1 < 0) && lessQ y.op (1, 1)) = b → b = false → k (.bl false) w := fun b h hb => by
      rw [goQ_mid (h.trans hb)] at hk
      exact hk
    cases c1 : decide (y.fr.1 < 0) with
    | true =>
      simp! only [id_eq]
      exact mid _ rfl (by rw [c1]; rfl)
    | false =>
      simp! only [id_eq]
      cases c3 : decide (y.ke.1 < 0) with
      | true =>
        simp! only [id_eq]
        exact mid _ rfl (by rw [c1, c3, Bool.not_true, Bool.and_false, Bool.false_and])
      | false =>
        simp! only [id_eq]
        refine ⟨x.ke, y.fr, rfl, ⟨lo hx.ke, lo hy.fr⟩, ?_⟩
        cases c2 : lessQ x.ke y.fr with
        | true =>
          simp! only [id_eq]
          exact mid _ rfl (by rw [c1, c2]; rfl)
        | false =>
          simp! only [id_eq]
          refine ⟨by decide, y.op, (1, 1), rfl, ⟨lo hy.op, lt_one⟩, ?_⟩
          cases c4 : lessQ y.op (1, 1) with
          | false =>
            simp! only [id_eq]
            exact mid _ rfl (by rw [c1, c2, c3, c4]; rfl)
          | true =>
            rw [goQ_end h1 (by rw [c1, c2, c3, c4]; rfl)] at hk
            simp! only [id_eq]
            cases q1 : decide (y.pa = 0) with
            | true =>
              rw [q1, Bool.true_or] at hk
              simp! only [id_eq]
              exact hk
            | false =>
              rw [q1, Bool.false_or] at hk
              simp! only [id_eq]
              cases q2 : decide (y.wr = 0) with
              | true =>
                rw [q2, Bool.true_and] at hk
                simp! only [id_eq]
                exact hk
              | false =>
                rw [q2, Bool.false_and] at hk
                simp! only [id_eq]
                exact hk
  · rw [decide_eq_false h1]
    simp! only [id_eq]
    rw [goQ_sum h1] at hk
    exact hk
theorem ok__law_goes_on {P : Program} {w : World} {K : PySem.W.Frag} {mg : Str → Option Value} {base : Heap} (T : DefAt K mg "_law_goes_on" s__law_goes_on ["_law_one", "_law_other"]) (B : Blt mg) (F__law_sum : FnAt P w K mg base CX0 1 "_law_sum" 2 sp__law_sum) (F__law_less : FnAt P w K mg base CX0 1 "_law_less" 2 sp__law_less) : FnAt P w K mg base CX0 2 "_law_goes_on" 2 sp__law_goes_on := (w__law_goes_on T B F__law_sum F__law_less).imp v__law_goes_on

theorem show_alt {x y : D} : showB x y = (isL x && (seqL x).all stB && (isL y && (seqL y).all stB) && (decide (namesB x = namesB y) && upB (namesB x) && (zipD (seqL x) (seqL y)).all goD)) := by
  unfold showB areB
  have e1 : ∀ x : D, (seqL x).map nm0 = namesB x := fun _ => rfl
  rw [e1 x, e1 y]
  by_cases h : namesB x = namesB y
  · rw [← h, decide_eq_true rfl]
    cases isL x <;> cases isL y <;> cases (seqL x).all stB <;> cases (seqL y).all stB <;> cases upB (namesB x) <;> simp
  · rw [decide_eq_false h]
    simp
def formB (x : D) : Bool := isL x && (seqL x).all stB
theorem show_form {x y : D} : showB x y = (formB x && formB y && (decide (namesB x = namesB y) && upB (namesB x) && (zipD (seqL x) (seqL y)).all goD)) := show_alt
theorem form_form {M : List Cell} {x : D} (h : formB x = true) (ha : anyD M x = true) : ∃ b xs, x = seqB b xs ∧ (∀ z ∈ xs, stB z = true ∧ anyD M z = true) ∧ xs.length ≤ 1000 := by
  unfold formB at h
  rw [Bool.and_eq_true, List.all_eq_true] at h
  obtain ⟨h1, h2⟩ := h
  obtain ⟨b, xs, rfl, e⟩ := seq_of h1
  obtain ⟨a1, a2⟩ := any_seq ha
  rw [e] at h2
  exact ⟨b, xs, rfl, fun z hz => ⟨h2 z hz, a1 z hz⟩, a2⟩
def sp__law_shown : GF := fun ds w _ k => ∃ x y : D, ds = [x, y] ∧ (anyD w.M x = true ∧ anyD w.M y = true ∧ (seqL x).length < 64 ∧ (seqL y).length < 64) ∧ k (.bl (showB x y)) w
abbrev s__law_shown : Stmt := topS 30
theorem sc__law_shown : FnScope ["_law_one", "_law_other", "_law_some", "_law_names_here", "_law_thing", "_law_first", "_law_second"] ["_law_one", "_law_other"] (defScope s__law_shown) := ⟨rfl, rfl, rfl, by decide +kernel, rfl, by decide +kernel, by decide +kernel⟩
def g__law_shown : GS := (gSeq (gFor (giSeq (gTup (gaCons (gVar 0) (gaCons (gVar 1) gaNil)))) (ggName 2) (gIfS (gOr (gNot (gTru (gCB fIsLT (gaCons (gVar 2) (gaCons (gTup (gaCons (gC (.ob (.ty "list"))) (gaCons (gC (.ob (.ty "tuple"))) gaNil))) gaNil))))) (gNot (gTru (gCB fAll (gaCons (gLc (giSeq (gVar 2)) (ggName 4) gYes (gCall0 1 sp__law_is_statement (gaCons (gVar 4) gaNil)) [4]) gaNil))))) (gRet (gC (.bl false))) gNext))
  (gSeq (gSet 3 (gLc (giSeq (gVar 0)) (ggName 4) gYes (gBin ixD (gVar 4) (gC (.int 0))) [4]))
  (gSeq (gIfS (gOr (gB (gBin neD (gVar 3) (gLc (giSeq (gVar 1)) (ggName 4) gYes (gBin ixD (gVar 4) (gC (.int 0))) [4]))) (gB (gBin neD (gVar 3) (gSortSetT (gaCons (gVar 3) gaNil))))) (gRet (gC (.bl false))) gNext)
  (gRet (gCB fAll (gaCons (gLc (giZipA (gaCons (gVar 0) (gaCons (gVar 1) gaNil))) (ggTup 2 (ggCons (ggName 5) (ggCons (ggName 6) ggNil))) gYes (gCall0 2 sp__law_goes_on (gaCons (gVar 5) (gaCons (gVar 6) gaNil))) [5, 6]) gaNil))))))
theorem w__law_shown {P : Program} {w : World} {K : PySem.W.Frag} {mg : Str → Option Value} {base : Heap} (T : DefAt K mg "_law_shown" s__law_shown ["_law_one", "_law_other"]) (B : Blt mg) (F__law_goes_on : FnAt P w K mg base CX0 2 "_law_goes_on" 2 sp__law_goes_on) (F__law_is_statement : FnAt P w K mg base CX0 3 "_law_is_statement" 1 sp__law_is_statement) (b_set : mg "set" = none) : FnAt P w K mg base CX0 4 "_law_shown" 2 (sem0 7 g__law_shown) := by
  have nd := sc__law_shown.nd
  exact T.fn0 sc__law_shown (fun f cdv A outer s H E hr => (dss_cons (ds_for PassesOwn.never rfl (di_seq (de_tup (da_cons (de_var 0) (da_cons (de_var 1) da_nil)))) (dg_name (i := 2) nd rfl (by first | exact Or.inl rfl | exact Or.inr rfl)) (dss_one (ds_if (dt_w (dw_or (dt_not (dt_truth (de_isLT B (by rfl) (da_cons (de_var 2) (da_cons (de_tup (da_cons (de_type (by rfl) B.list_ (by decide +kernel)) (da_cons (de_type (by rfl) B.tuple_ (by decide +kernel)) da_nil))) da_nil))))) (dw_or1 (dt_not (dt_truth (de_all B rfl (by rfl) (da_cons (de_lc (own := [("_law_thing", 4)]) (us := [4]) rfl nd (di_seq (de_var 2)) (blkOk_by (N := ["_law_one", "_law_other", "_law_some", "_law_names_here", "_law_thing", "_law_first", "_law_second"]) (sc := defScope s__law_shown) (by decide +kernel)) (by decide) (fun _ _ _ _ _ => (dg_name (i := 4) nd rfl (by first | exact Or.inl rfl | exact Or.inr rfl))) (fun _ _ _ _ _ => dts_nil) (fun _ _ _ _ _ => (de_call0 F__law_is_statement hr (by rfl) (da_cons (de_var 4) da_nil)))) da_nil))))))) (dss_one (ds_ret de_bl)) dss_nil)))
  (dss_cons (ds_setLc (i := 3) (own := [("_law_thing", 4)]) (us := [4]) rfl nd rfl rfl (sw_true rfl rfl rfl (by decide +kernel)) (di_seq (de_var 0)) (blkOk_by (N := ["_law_one", "_law_other", "_law_some", "_law_names_here", "_law_thing", "_law_first", "_law_second"]) (sc := defScope s__law_shown) (by decide +kernel)) (by decide) (fun _ _ _ _ _ => (dg_name (i := 4) nd rfl (by first | exact Or.inl rfl | exact Or.inr rfl))) (fun _ _ _ _ _ => dts_nil) (fun _ _ _ _ _ => (de_ix (de_var 4) de_int)))
  (dss_cons (ds_if (dt_w (dw_or (dt_ne hr (de_var 3) (de_lc (own := [("_law_thing", 4)]) (us := [4]) rfl nd (di_seq (de_var 1)) (blkOk_by (N := ["_law_one", "_law_other", "_law_some", "_law_names_here", "_law_thing", "_law_first", "_law_second"]) (sc := defScope s__law_shown) (by decide +kernel)) (by decide) (fun _ _ _ _ _ => (dg_name (i := 4) nd rfl (by first | exact Or.inl rfl | exact Or.inr rfl))) (fun _ _ _ _ _ => dts_nil) (fun _ _ _ _ _ => (de_ix (de_var 4) de_int)))) (dw_or1 (dt_ne hr (de_var 3) (de_sortSetT B b_set rfl (by rfl) (by rfl) (da_cons (de_var 3) da_nil)))))) (dss_one (ds_ret de_bl)) dss_nil)
  (dss_one (ds_ret (de_all B rfl (by rfl) (da_cons (de_lc (own := [("_law_first", 5), ("_law_second", 6)]) (us := [5, 6]) rfl nd (di_zipA B (by rfl) (da_cons (de_var 0) (da_cons (de_var 1) da_nil))) (blkOk_by (N := ["_law_one", "_law_other", "_law_some", "_law_names_here", "_law_thing", "_law_first", "_law_second"]) (sc := defScope s__law_shown) (by decide +kernel)) (by decide) (fun _ _ _ _ _ => (dg_tup rfl (dgs_cons (dg_name (i := 5) nd rfl (by first | exact Or.inl rfl | exact Or.inr rfl)) (dgs_cons (dg_name (i := 6) nd rfl (by first | exact Or.inl rfl | exact Or.inr rfl)) dgs_nil)))) (fun _ _ _ _ _ => dts_nil) (fun _ _ _ _ _ => (de_call0 F__law_goes_on hr (by rfl) (da_cons (de_var 5) (da_cons (de_var 6) da_nil))))) da_nil))))))))

theorem lc_rows {j : Nat} {ρ : Rho} {xs : List D} {w : Wd} {k : KD} (hj : ∀ z : D, (ρ.set j (some z))[j]? = some (some z)) (h : ∀ z ∈ xs, anyD w.M z = true) (hl : xs.length ≤ 1000) (hk : k (.bl (xs.all stB)) w) :
    ∃ P : List D → List D → Wd → Prop, P xs [] w ∧ LcS (ggName j) gYes (gCall0 1 sp__law_is_statement (gaCons (gVar j) gaNil)) (fun _ => True) ρ (fun x w1 => fAll [x] w1 k) P := by
  have q := lc_ty (gt := ggName j) (ge := gCall0 1 sp__law_is_statement (gaCons (gVar j) gaNil)) (Ok := fun _ => True) (ρ := ρ) (k := fun x w1 => fAll [x] w1 k) (w := w) id (fun z => .bl (stB z)) xs trivial (by omega) (fun z hz k' hk' => by
    show ggName j z ρ w fun ρ1 w1 => gCall0 1 sp__law_is_statement (gaCons (gVar j) gaNil) ρ1 w1 noX k'
    unfold ggName gCall0 gaCons gVar gaNil sp__law_is_statement
    simp only [hj z]
    exact ⟨rfl, z, rfl, h z hz, hk'⟩) (all_map hk)
  rw [List.map_id] at q
  exact q
theorem v__law_shown : ∀ ds w kx k, sp__law_shown ds w kx k → sem0 7 g__law_shown ds w kx k := by
  rintro ds w kx k ⟨x, y, rfl, ⟨hx, hy, lx, ly⟩, hk⟩
  have e : rho 7 [x, y] = [some x, some y, none, none, none, none, none] := rfl
  simp! only [g__law_shown, e]
  rw [show_form] at hk
  refine ⟨by decide, fun rem ρ w' => w' = w ∧ ∃ a, (rem = [x, y] ∨ rem = [y] ∧ formB x = true ∨ rem = [] ∧ formB x = true ∧ formB y = true) ∧ ρ = [some x, some y, a, none, none, none, none], ⟨rfl, none, .inl rfl, rfl⟩, ?_, ?_⟩
  · rintro ρ w' ⟨rfl, s2, (h | ⟨h, _⟩ | ⟨_, h1, h2⟩), rfl⟩
    · cases h
    · cases h
    refine ⟨trivial, ?_⟩
    rw [h1, h2, Bool.true_and, Bool.true_and] at hk
    obtain ⟨b, xs, rfl, x2, x3⟩ := form_form h1 hx
    obtain ⟨c, ys, rfl, y2, y3⟩ := form_form h2 hy
    rw [seqL_B] at lx
    rw [seqL_B, seqL_B] at hk
    have n1 : namesB (seqB b xs) = xs.map nm0 := by unfold namesB; rw [seqL_B]
    have n2 : namesB (seqB c ys) = ys.map nm0 := by unfold namesB; rw [seqL_B]
    rw [n1, n2] at hk
    have ok1 : ∀ s ∈ xs.map nm0, PyData.strOk s = true := fun s hs => by
      obtain ⟨z, hz, rfl⟩ := List.mem_map.mp hs
      exact nm_ok (x2 z hz).1 (x2 z hz).2
    have ok2 : ∀ s ∈ ys.map nm0, PyData.strOk s = true := fun s hs => by
      obtain ⟨z, hz, rfl⟩ := List.mem_map.mp hs
      exact nm_ok (y2 z hz).1 (y2 z hz).2
    have fin : (decide (xs.map nm0 = ys.map nm0) = true) → upB (xs.map nm0) = true → ∀ s3 : Option D, ∃ P : List D → List D → Wd → Prop, P (zipD xs ys) [] w' ∧ LcS (ggTup 2 (ggCons (ggName 5) (ggCons (ggName 6) ggNil))) gYes (gCall0 2 sp__law_goes_on (gaCons (gVar 5) (gaCons (gVar 6) gaNil))) (fun _ => True) [some (seqB b xs), some (seqB c ys), s2, s3, none, none, none] (fun x w1 => fAll [x] w1 k) P := fun hn hu s3 => by
      refine lc_goes (b := 0) (c := 0) (p := goD) (fun z hz k' hk' => ?_) x3 (by rw [hn, hu, Bool.true_and, Bool.true_and] at hk; exact hk)
      obtain ⟨u, v, rfl, hu, hv⟩ := zip_form hz
      obtain ⟨u1, u2⟩ := st_typed (x2 u hu).1 (x2 u hu).2
      obtain ⟨v1, v2⟩ := st_typed (y2 v hv).1 (y2 v hv).2
      simp! only [sp__law_goes_on]
      exact ⟨toSt u, toSt v, by rw [← u1, ← v1], ⟨u2, v2⟩, hk'⟩
    have nm : ∀ (K : KD), K (.bl (!decide (xs.map nm0 = ys.map nm0))) w' → neD (.lst ((xs.map nm0).map D.str)) (.lst ((ys.map nm0).map D.str)) w' K := fun K h => neD_names ok1 ok2 h
    cases b <;> cases c
    all_goals
      simp! only [seqB]
      refine lc_names (fun _ => rfl) (fun z hz => (x2 z hz).1) x3 ?_
      refine lc_names (fun _ => rfl) (fun z hz => (y2 z hz).1) y3 ?_
      refine nm _ ?_
      cases hn : decide (xs.map nm0 = ys.map nm0) with
      | false =>
        rw [hn, Bool.false_and, Bool.false_and] at hk
        simp! only [id_eq]
        exact hk
      | true =>
        simp! only [gSortSetT]
        refine ⟨xs.map nm0, rfl, by rw [List.length_map]; exact lx, fun ms nd hs hm => ?_⟩
        refine neD_names ok1 (fun s h => ok1 s ((hm s).mp h)) ?_
        rw [set_sorted nd hs hm]
        cases hu : upB (xs.map nm0) with
        | false =>
          rw [hu, Bool.and_false, Bool.false_and] at hk
          simp! only [id_eq]
          exact hk
        | true =>
          simp! only [giZipA, giZipM]
          first
            | exact ⟨false, false, xs, ys, rfl, fin hn hu _⟩
            | exact ⟨false, true, xs, ys, rfl, fin hn hu _⟩
            | exact ⟨true, false, xs, ys, rfl, fin hn hu _⟩
            | exact ⟨true, true, xs, ys, rfl, fin hn hu _⟩
  · rintro z rem ρ w' ⟨rfl, s2, h, rfl⟩
    refine ⟨trivial, ?_⟩
    obtain ⟨hz, no, go⟩ : anyD w'.M z = true ∧ (formB z = false → k (.bl false) w') ∧ (formB z = true → (rem = [y] ∧ formB x = true ∨ rem = [] ∧ formB x = true ∧ formB y = true)) := by
      have bad : formB x = false ∨ formB y = false → k (.bl false) w' := fun q => by
        rcases q with q | q
        · rw [q, Bool.false_and, Bool.false_and] at hk
          exact hk
        · rw [q, Bool.and_false, Bool.false_and] at hk
          exact hk
      rcases h with h | ⟨h, h1⟩ | ⟨h, _⟩
      · injection h with h2 h3
        subst h2
        exact ⟨hx, fun q => bad (.inl q), fun q => .inl ⟨h3, q⟩⟩
      · injection h with h2 h3
        subst h2
        exact ⟨hy, fun q => bad (.inr q), fun q => .inr ⟨h3, h1, q⟩⟩
      · cases h
    simp! only [isi_lt hz]
    refine ⟨by decide, ?_⟩
    cases q1 : isL z with
    | false =>
      simp! only [id_eq]
      exact no (by unfold formB; rw [q1, Bool.false_and])
    | true =>
      obtain ⟨b, zs, rfl, e2⟩ := seq_of q1
      obtain ⟨a1, a2⟩ := any_seq hz
      cases b
      all_goals
        simp! only [seqB]
        refine lc_rows (fun _ => rfl) a1 a2 ?_
        cases q2 : zs.all stB with
        | false =>
          simp! only [id_eq]
          exact no (by unfold formB; rw [e2, q2, Bool.and_false])
        | true =>
          simp! only [id_eq]
          refine ⟨_, .inr (go ?_), rfl⟩
          unfold formB
          rw [q1, e2, q2]
          rfl
theorem ok__law_shown {P : Program} {w : World} {K : PySem.W.Frag} {mg : Str → Option Value} {base : Heap} (T : DefAt K mg "_law_shown" s__law_shown ["_law_one", "_law_other"]) (B : Blt mg) (F__law_goes_on : FnAt P w K mg base CX0 2 "_law_goes_on" 2 sp__law_goes_on) (F__law_is_statement : FnAt P w K mg base CX0 3 "_law_is_statement" 1 sp__law_is_statement) (b_set : mg "set" = none) : FnAt P w K mg base CX0 4 "_law_shown" 2 sp__law_shown := (w__law_shown T B F__law_goes_on F__law_is_statement b_set).imp v__law_shown


end LW

namespace LW
open PySem PySem.Spec PyProof.Rows L2 RZ DL
local macro_rules | `(tactic| simp! only [$xs,*] $[$loc]?) => `(tactic| simp only [$xs,*, sem0,List.map_cons,List.map_nil,List.length_cons,List.length_nil,gSeq,gNext,gRet,gRetN,gIfS,gSet,gPar,gAsg,gDrop,gVar,gC,gBin,gUn,gB,gTru,gAnd,gOr,gNot,gAndV,gOrV,gNotV,gIf,gChain,gaNil,gaCons,DL.gTup,DL.gLst,gCB,gCall0,gAug,addD_i,addD_s,addD_l,addD_t,subD_i,mulD_i,mulD_l,fdivD_i,modD_i,powD_i,ltD_i,ltD_s,leD_i,gtD_i,geD_i,isD_n,isnotD_n,isNonD_non,isNonD_bl,isNonD_int,isNonD_str,isNonD_lst,isNonD_tup,negD_i,iaddD_i,truD_non,truD_bl,truD_int,truD_str,truD_lst,truD_tup,someK_some,ixD_l,ixD_t,fAbs_i,fInt_i,fInt_b,fMin2_i,fLen_l,fLen_t,fLen_s,fList_l,fList_t,fTuple_l,fTuple_t,optBK_some,fIsi_non,fIsi_bl,fIsi_int,fIsi_str,fIsi_lst,fIsi_tup,List.getElem?_cons_zero,List.getElem?_cons_succ,List.set_cons_zero,List.set_cons_succ,DL.ggName,ggNil0,ggCons1,ggTup2,ggTup3,gFor,giSeq,gLc,gYes,wipeR,true_and,and_true,at_0,at_1,at_2,kit_int_int,kit_bool_int,kit_str_int,kit_non_int,kit_list_int,kit_tuple_int,kit_int_bool,kit_bool_bool,kit_str_bool,kit_non_bool,kit_list_bool,kit_tuple_bool,kit_int_str,kit_bool_str,kit_str_str,kit_non_str,kit_list_str,kit_tuple_str,kit_int_list,kit_bool_list,kit_str_list,kit_non_list,kit_list_list,kit_tuple_list,kit_int_tuple,kit_bool_tuple,kit_str_tuple,kit_non_tuple,kit_list_tuple,kit_tuple_tuple,eqD_i,neD_i,eqD_s,neD_s,eqD_f,neD_f,Nat.zero_add,Nat.reduceAdd,nc0,nc1,nc2,nc3,nc4,nc5,nc6,nc7,nc8,nc9,eq_self,decide_true,decide_false,Int.reduceEq,Int.reduceLT,Int.reduceLE,Int.reduceNeg,Bool.not_true,Bool.not_false,Bool.false_eq_true,if_true,if_false,↓reduceIte,false_and,and_false,List.all_cons,List.all_nil,List.any_cons,List.any_nil,id_eq,Bool.and_true,Bool.true_and,Bool.or_false,Bool.false_or,Bool.and_false,Bool.false_and,gCut,eqD_b,neD_b,giZip,reduceCtorEq,Bool.true_eq_false,Bool.false_eq_true,gRevL,gSl,goNone,goSome,slD_l,ne_eq,not_false_eq_true,not_true_eq_false,gBM,isTy_l,isTy_s,new_at,new_set,isTy_new,cellK_new,append_new,popAt_new,gFrz_eq,frzK_new,fLen_new,fTuple_new,ixD_new,slA_l,slA_t,slA_new,addTD_t,addCD_l,mulCD_l,isbD_b,isnotbD_b,mSplitC_s,gLstC,gTr,ggSub,lstK_l,lstK_r,addLD_eq] $[$loc]?)


def PF : Nat → D → Bool
  | _ + 1, .non => true
  | _ + 1, .bl _ => true
  | _ + 1, .int i => decide (i.natAbs < 2 ^ 150)
  | _ + 1, .str s => PyData.strOk s && decide (s.length ≤ 100)
  | n + 1, .lst xs => xs.all (PF n) && decide (xs.length ≤ 20)
  | n + 1, .tup xs => xs.all (PF n) && decide (xs.length ≤ 20)
  | _, _ => false
theorem lays_iff : ∀ {xs : List D}, (∀ x ∈ xs, lay x = true) → lays xs = true
  | [], _ => rfl
  | x :: xs, h => by
    rw [lays, h x List.mem_cons_self, lays_iff fun y hy => h y (List.mem_cons_of_mem _ hy)]
    rfl
theorem fits_iff : ∀ {xs : List D}, (∀ x ∈ xs, fitD x = true) → fitDs xs = true
  | [], _ => rfl
  | x :: xs, h => by
    rw [fitDs, h x List.mem_cons_self, fits_iff fun y hy => h y (List.mem_cons_of_mem _ hy)]
    rfl
theorem deps_le {n : Nat} : ∀ {xs : List D}, (∀ x ∈ xs, dep x ≤ n) → deps xs ≤ n
  | [], _ => Nat.zero_le _
  | x :: xs, h => by
    rw [deps]
    exact Nat.max_le.mpr ⟨h x List.mem_cons_self, deps_le fun y hy => h y (List.mem_cons_of_mem _ hy)⟩
structure Pl (M : List Cell) (n : Nat) (d : D) : Prop where
  any : anyD M d = true
  lay : lay d = true
  fit : fitD d = true
  dep : dep d ≤ n
theorem pf_pl {M : List Cell} : ∀ {n : Nat} {d : D}, PF n d = true → Pl M n d
  | 0, d, h => by cases d <;> (unfold PF at h; cases h)
  | n + 1, d, h => by
    cases d with
    | non => exact ⟨rfl, rfl, rfl, Nat.zero_le _⟩
    | bl b => exact ⟨rfl, rfl, rfl, Nat.zero_le _⟩
    | int i =>
      unfold PF at h
      rw [decide_eq_true_eq] at h
      exact ⟨decide_eq_true (nat_mono h (by decide)), rfl, decide_eq_true h, Nat.zero_le _⟩
    | str s =>
      unfold PF at h
      have h2 := h
      rw [Bool.and_eq_true, decide_eq_true_eq] at h2
      exact ⟨h, h2.1, decide_eq_true (by omega), Nat.zero_le _⟩
    | lst xs =>
      rw [PF, Bool.and_eq_true, List.all_eq_true, decide_eq_true_eq] at h
      obtain ⟨h1, h2⟩ := h
      have ih := fun x hx => pf_pl (M := M) (h1 x hx)
      refine ⟨by rw [anyD, anyDs_iff.mpr fun x hx => (ih x hx).any, decide_eq_true (by omega)]; rfl, lays_iff fun x hx => (ih x hx).lay, fits_iff fun x hx => (ih x hx).fit, ?_⟩
      rw [dep]
      have := deps_le fun x hx => (ih x hx).dep
      omega
    | tup xs =>
      rw [PF, Bool.and_eq_true, List.all_eq_true, decide_eq_true_eq] at h
      obtain ⟨h1, h2⟩ := h
      have ih := fun x hx => pf_pl (M := M) (h1 x hx)
      refine ⟨by rw [anyD, anyDs_iff.mpr fun x hx => (ih x hx).any, decide_eq_true (by omega)]; rfl, lays_iff fun x hx => (ih x hx).lay, fits_iff fun x hx => (ih x hx).fit, ?_⟩
      rw [dep]
      have := deps_le fun x hx => (ih x hx).dep
      omega
    | _ => unfold PF at h; cases h
theorem pf_lst {n : Nat} {xs : List D} (h : ∀ x ∈ xs, PF n x = true) (l : xs.length ≤ 20) : PF (n + 1) (.lst xs) = true := by
  rw [PF, List.all_eq_true.mpr h, decide_eq_true l]
  rfl
theorem pf_tup {n : Nat} {xs : List D} (h : ∀ x ∈ xs, PF n x = true) (l : xs.length ≤ 20) : PF (n + 1) (.tup xs) = true := by
  rw [PF, List.all_eq_true.mpr h, decide_eq_true l]
  rfl
theorem pf_int {n : Nat} {i : Int} (h : i.natAbs < 2 ^ 150) : PF (n + 1) (.int i) = true := decide_eq_true h
theorem pf_str {n : Nat} {s : Str} (h : (PyData.strOk s && decide (s.length ≤ 100)) = true) : PF (n + 1) (.str s) = true := h
def ItF (d : D) : Prop := PF 2 d = true ∧ szD d ≤ 4
theorem it_int {i : Int} (h : i.natAbs < 2 ^ 150) : ItF (.int i) := ⟨pf_int h, by show 1 ≤ 4; decide⟩
theorem it_str {s : Str} (h : (PyData.strOk s && decide (s.length ≤ 100)) = true) : ItF (.str s) := ⟨pf_str h, by show 1 ≤ 4; decide⟩
theorem it_pair {a b : Int} (ha : a.natAbs < 2 ^ 150) (hb : b.natAbs < 2 ^ 150) : ItF (.tup [.int a, .int b]) :=
  ⟨pf_tup (n := 1) (all_cons (pf_int ha) (all_cons (pf_int hb) all_nil)) (by show 2 ≤ 20; decide), by show 1 + (1 + (1 + 0)) ≤ 4; decide⟩
theorem szs_le {n : Nat} : ∀ {xs : List D}, (∀ x ∈ xs, szD x ≤ n) → szDs xs ≤ n * xs.length
  | [], _ => Nat.zero_le _
  | x :: xs, h => by
    rw [szDs, List.length_cons, Nat.mul_succ]
    have h1 := h x List.mem_cons_self
    have h2 := szs_le fun y hy => h y (List.mem_cons_of_mem _ hy)
    omega
def RowF (d : D) : Prop := PF 3 d = true ∧ szD d ≤ 60
theorem row_tup {xs : List D} (h : ∀ x ∈ xs, ItF x) (l : xs.length ≤ 12) : RowF (.tup xs) := by
  refine ⟨pf_tup (n := 2) (fun x hx => (h x hx).1) (by omega), ?_⟩
  show 1 + szDs xs ≤ 60
  have := szs_le fun x hx => (h x hx).2
  omega
theorem row_lst {xs : List D} (h : ∀ x ∈ xs, ItF x) (l : xs.length ≤ 12) : RowF (.lst xs) := by
  refine ⟨pf_lst (n := 2) (fun x hx => (h x hx).1) (by omega), ?_⟩
  show 1 + szDs xs ≤ 60
  have := szs_le fun x hx => (h x hx).2
  omega
structure LF (xs : List D) : Prop where
  row : ∀ x ∈ xs, RowF x
  len : xs.length ≤ 8
theorem lf_pf {b : Bool} {xs : List D} (h : LF xs) : PF 4 (seqB b xs) = true := by
  have := h.len
  cases b
  · exact pf_lst (n := 3) (fun x hx => (h.row x hx).1) (by omega)
  · exact pf_tup (n := 3) (fun x hx => (h.row x hx).1) (by omega)
theorem lf_sz {b : Bool} {xs : List D} (h : LF xs) : szD (seqB b xs) ≤ 481 := by
  have := h.len
  have := szs_le fun x hx => (h.row x hx).2
  cases b
  · show 1 + szDs xs ≤ 481
    omega
  · show 1 + szDs xs ≤ 481
    omega
def sp__law_right : GF := fun ds w _ k => ∃ (b c : Bool) (xs ys : List D), ds = [seqB b xs, seqB c ys] ∧ (LF xs ∧ LF ys) ∧ k (.bl true) w
abbrev s__law_right : Stmt := topS 33
theorem sc__law_right : FnScope ["_law_one", "_law_other", "_law_kept", "_law_found"] ["_law_one", "_law_other"] (defScope s__law_right) := ⟨rfl, rfl, rfl, by decide +kernel, rfl, by decide +kernel, by decide +kernel⟩
def g__law_right : GS := (gSeq (gSet 2 (gCB fStrP (gaCons (DL.gLst (gaCons (gVar 0) (gaCons (gVar 1) gaNil))) gaNil)))
  (gSeq (gSet 3 (gCall0 2 sp_shows_statements (gaCons (gVar 0) (gaCons (gVar 1) gaNil))))
  (gRet (gAndV (gCB fIsi (gaCons (gVar 3) (gaCons (gC (.ob (.ty "bool"))) gaNil))) (gAndV (gBin eqD (gVar 3) (gCall0 2 sp__law_shown (gaCons (gVar 0) (gaCons (gVar 1) gaNil)))) (gBin eqD (gCB fStrP (gaCons (DL.gLst (gaCons (gVar 0) (gaCons (gVar 1) gaNil))) gaNil)) (gVar 2)))))))
theorem w__law_right {P : Program} {w : World} {K : PySem.W.Frag} {mg : Str → Option Value} {base : Heap} (T : DefAt K mg "_law_right" s__law_right ["_law_one", "_law_other"]) (B : Blt mg) (F_shows_statements : FnAt P w K mg base CX0 6 "shows_statements" 2 sp_shows_statements) (F__law_shown : FnAt P w K mg base CX0 4 "_law_shown" 2 sp__law_shown) : FnAtG P w K mg base CX0 7 "_law_right" 2 (sem0 4 g__law_right) := by
  have nd := sc__law_right.nd
  exact T.fn0G sc__law_right (fun f cdv A outer s H E hq hr => (dss_cons (ds_set (i := 2) nd rfl (by first | exact Or.inl rfl | exact Or.inr rfl) (de_strP hq hr B.str_ (by rfl) (da_cons (de_lst (da_cons (de_var 0) (da_cons (de_var 1) da_nil))) da_nil)))
  (dss_cons (ds_set (i := 3) nd rfl (by first | exact Or.inl rfl | exact Or.inr rfl) (de_call0 F_shows_statements hr (by rfl) (da_cons (de_var 0) (da_cons (de_var 1) da_nil))))
  (dss_one (ds_ret (de_and (de_isi B (by rfl) (da_cons (de_var 3) (da_cons (de_type (by rfl) B.bool_ (by decide +kernel)) da_nil))) (de_and (de_eq hr (de_var 3) (de_call0 F__law_shown hr (by rfl) (da_cons (de_var 0) (da_cons (de_var 1) da_nil)))) (de_one (de_eq hr (de_strP hq hr B.str_ (by rfl) (da_cons (de_lst (da_cons (de_var 0) (da_cons (de_var 1) da_nil))) da_nil)) (de_var 2))))))))))

theorem v__law_right : ∀ ds w kx k, sp__law_right ds w kx k → sem0 4 g__law_right ds w kx k := by
  rintro ds w kx k ⟨b, c, xs, ys, rfl, ⟨hx, hy⟩, hk⟩
  have p1 := lf_pf (b := b) hx
  have p2 := lf_pf (b := c) hy
  have z1 := lf_sz (b := b) hx
  have z2 := lf_sz (b := c) hy
  have lx := hx.len
  have ly := hy.len
  have l1 : (seqL (seqB b xs)).length < 64 := by rw [seqL_B]; omega
  have l2 : (seqL (seqB c ys)).length < 64 := by rw [seqL_B]; omega
  have A := (pf_pl (M := w.M) p1).any
  have B := (pf_pl (M := w.M) p2).any
  generalize seqB b xs = x at *
  generalize seqB c ys = y at *
  have e : rho 4 [x, y] = [some x, some y, none, none] := rfl
  have P := pf_pl (M := w.M) (pf_lst (n := 4) (all_cons p1 (all_cons p2 all_nil)) (by show 2 ≤ 20; decide))
  have ok : isSeqD (.lst [x, y]) = true ∧ lay (.lst [x, y]) = true ∧ fitD (.lst [x, y]) = true ∧ dep (.lst [x, y]) ≤ 20 ∧ szD (.lst [x, y]) ≤ 1000 :=
    ⟨rfl, P.lay, P.fit, Nat.le_trans P.dep (by decide), by show 1 + (szD x + (szD y + 0)) ≤ 1000; omega⟩
  simp! only [g__law_right, e, fStrP, sp_shows_statements, sp__law_shown]
  refine ⟨by decide, ok, x, y, rfl, ⟨A, B⟩, x, y, rfl, ⟨A, B, l1, l2⟩, ?_⟩
  rw [decide_eq_true rfl]
  simp! only [id_eq]
  exact ⟨by decide, ok, hk⟩
theorem ok__law_right {P : Program} {w : World} {K : PySem.W.Frag} {mg : Str → Option Value} {base : Heap} (T : DefAt K mg "_law_right" s__law_right ["_law_one", "_law_other"]) (B : Blt mg) (F_shows_statements : FnAt P w K mg base CX0 6 "shows_statements" 2 sp_shows_statements) (F__law_shown : FnAt P w K mg base CX0 4 "_law_shown" 2 sp__law_shown) : FnAtG P w K mg base CX0 7 "_law_right" 2 sp__law_right := (w__law_right T B F_shows_statements F__law_shown).imp v__law_right


end LW

namespace LW
open PySem PySem.Spec PyProof.Rows L2 RZ DL
local macro_rules | `(tactic| simp! only [$xs,*] $[$loc]?) => `(tactic| simp only [$xs,*, sem0,List.map_cons,List.map_nil,List.length_cons,List.length_nil,gSeq,gNext,gRet,gRetN,gIfS,gSet,gPar,gAsg,gDrop,gVar,gC,gBin,gUn,gB,gTru,gAnd,gOr,gNot,gAndV,gOrV,gNotV,gIf,gChain,gaNil,gaCons,DL.gTup,DL.gLst,gCB,gCall0,gAug,addD_i,addD_s,addD_l,addD_t,subD_i,mulD_i,mulD_l,fdivD_i,modD_i,powD_i,ltD_i,ltD_s,leD_i,gtD_i,geD_i,isD_n,isnotD_n,isNonD_non,isNonD_bl,isNonD_int,isNonD_str,isNonD_lst,isNonD_tup,negD_i,iaddD_i,truD_non,truD_bl,truD_int,truD_str,truD_lst,truD_tup,someK_some,ixD_l,ixD_t,fAbs_i,fInt_i,fInt_b,fMin2_i,fLen_l,fLen_t,fLen_s,fList_l,fList_t,fTuple_l,fTuple_t,optBK_some,fIsi_non,fIsi_bl,fIsi_int,fIsi_str,fIsi_lst,fIsi_tup,List.getElem?_cons_zero,List.getElem?_cons_succ,List.set_cons_zero,List.set_cons_succ,DL.ggName,ggNil0,ggCons1,ggTup2,ggTup3,gFor,giSeq,gLc,gYes,wipeR,true_and,and_true,at_0,at_1,at_2,kit_int_int,kit_bool_int,kit_str_int,kit_non_int,kit_list_int,kit_tuple_int,kit_int_bool,kit_bool_bool,kit_str_bool,kit_non_bool,kit_list_bool,kit_tuple_bool,kit_int_str,kit_bool_str,kit_str_str,kit_non_str,kit_list_str,kit_tuple_str,kit_int_list,kit_bool_list,kit_str_list,kit_non_list,kit_list_list,kit_tuple_list,kit_int_tuple,kit_bool_tuple,kit_str_tuple,kit_non_tuple,kit_list_tuple,kit_tuple_tuple,eqD_i,neD_i,eqD_s,neD_s,eqD_f,neD_f,Nat.zero_add,Nat.reduceAdd,nc0,nc1,nc2,nc3,nc4,nc5,nc6,nc7,nc8,nc9,eq_self,decide_true,decide_false,Int.reduceEq,Int.reduceLT,Int.reduceLE,Int.reduceNeg,Bool.not_true,Bool.not_false,Bool.false_eq_true,if_true,if_false,↓reduceIte,false_and,and_false,List.all_cons,List.all_nil,List.any_cons,List.any_nil,id_eq,Bool.and_true,Bool.true_and,Bool.or_false,Bool.false_or,Bool.and_false,Bool.false_and,gCut,eqD_b,neD_b,giZip,reduceCtorEq,Bool.true_eq_false,Bool.false_eq_true,gRevL,gSl,goNone,goSome,slD_l,ne_eq,not_false_eq_true,not_true_eq_false,gBM,isTy_l,isTy_s,new_at,new_set,isTy_new,cellK_new,append_new,popAt_new,gFrz_eq,frzK_new,fLen_new,fTuple_new,ixD_new,slA_l,slA_t,slA_new,addTD_t,addCD_l,mulCD_l,isbD_b,isnotbD_b,mSplitC_s,gLstC,gTr,ggSub,lstK_l,lstK_r,addLD_eq] $[$loc]?)


def vQ (p : Qp) : Rat := (p.1 : Rat) / (p.2 : Rat)
theorem ic_ne {b : Int} (h : b ≠ 0) : (b : Rat) ≠ 0 := by exact_mod_cast h
theorem ic_pos {b : Int} (h : 0 < b) : (0 : Rat) < (b : Rat) := by exact_mod_cast h
theorem vQ_norm {t b : Int} (h : b ≠ 0) : vQ (norm t b) = (t : Rat) / (b : Rat) := by
  have h1 : ((norm t b).2 : Rat) ≠ 0 := ic_ne (by have := (fr_norm (t := t) h).pos; omega)
  have h2 := ic_ne h
  have e : ((norm t b).1 : Rat) * b = t * (norm t b).2 := by exact_mod_cast norm_eq (t := t) h
  unfold vQ
  grind
theorem Fr.ne {x : Qp} (h : Fr x) : x.2 ≠ 0 := by have := h.pos; omega
def sumR (xs : List Qp) : Rat := (xs.map vQ).sum
theorem sumR_cons (x : Qp) (xs : List Qp) : sumR (x :: xs) = vQ x + sumR xs := List.sum_cons
theorem ntpb : ∀ {xs : List Qp}, (∀ x ∈ xs, Fr x) → (Nt xs : Rat) / (Pb xs : Rat) = sumR xs
  | [], _ => by
    show ((0 : Int) : Rat) / ((1 : Int) : Rat) = 0
    grind
  | x :: xs, h => by
    have hx := h x List.mem_cons_self
    have hs : ∀ y ∈ xs, Fr y := fun y hy => h y (List.mem_cons_of_mem _ hy)
    have ih := ntpb hs
    have h1 := ic_ne hx.ne
    have h2 := ic_ne (Pb_ne hs)
    rw [sumR_cons, ← ih]
    show ((x.1 * Pb xs + x.2 * Nt xs : Int) : Rat) / ((x.2 * Pb xs : Int) : Rat) = vQ x + _
    rw [Rat.intCast_add, Rat.intCast_mul, Rat.intCast_mul, Rat.intCast_mul]
    unfold vQ
    grind
theorem vQ_sum {xs : List Qp} (h : ∀ x ∈ xs, Fr x) : vQ (sumQ xs) = sumR xs := by
  rw [← ntpb h]
  exact vQ_norm (Pb_ne h)
theorem vQ_inj {x y : Qp} (hx : Fr x) (hy : Fr y) (h : vQ x = vQ y) : x = y := by
  refine fr_inj hx hy ?_
  have h1 := ic_ne hx.ne
  have h2 := ic_ne hy.ne
  unfold vQ at h
  have : (x.1 : Rat) * y.2 = y.1 * x.2 := by grind
  exact_mod_cast this
theorem vQ_le {x y : Qp} (hx : 0 < x.2) (hy : 0 < y.2) : vQ x ≤ vQ y ↔ x.1 * y.2 ≤ y.1 * x.2 := by
  have h1 := ic_pos hx
  have h2 := ic_pos hy
  have h3 : (0 : Rat) < (x.2 : Rat) * y.2 := Rat.mul_pos h1 h2
  have e1 : vQ x * ((x.2 : Rat) * y.2) = ((x.1 * y.2 : Int) : Rat) := by
    rw [Rat.intCast_mul]
    unfold vQ
    grind
  have e2 : vQ y * ((x.2 : Rat) * y.2) = ((y.1 * x.2 : Int) : Rat) := by
    rw [Rat.intCast_mul]
    unfold vQ
    grind
  constructor
  · intro h
    have := Rat.mul_le_mul_of_nonneg_right h (Rat.le_of_lt h3)
    rw [e1, e2] at this
    exact Rat.intCast_le_intCast.mp this
  · intro h
    refine Rat.le_of_mul_le_mul_right ?_ h3
    rw [e1, e2]
    exact Rat.intCast_le_intCast.mpr h
theorem vQ0 : vQ (0, 1) = 0 := by
  show ((0 : Int) : Rat) / ((1 : Int) : Rat) = 0
  grind
theorem vQ1 : vQ (1, 1) = 1 := by
  show ((1 : Int) : Rat) / ((1 : Int) : Rat) = 1
  grind
theorem vQ_nn {x : Qp} (hx : 0 < x.2) : 0 ≤ vQ x ↔ 0 ≤ x.1 := by
  have := vQ_le (x := (0, 1)) (y := x) (by decide) hx
  rw [vQ0] at this
  rw [this, Int.zero_mul, Int.mul_one]
theorem vQ_le1 {x : Qp} (hx : 0 < x.2) : vQ x ≤ 1 ↔ x.1 ≤ x.2 := by
  have := vQ_le (y := (1, 1)) (x := x) hx (by decide)
  rw [vQ1] at this
  rw [this, Int.one_mul, Int.mul_one]
def IntQ (D : Int) (x : Rat) : Prop := ∃ t : Int, x * (D : Rat) = (t : Rat)
section
variable {D E : Int} {x y : Rat} {p : Qp}
theorem IntQ.sub (hx : IntQ D x) (hy : IntQ D y) : IntQ D (x - y) := by
  obtain ⟨a, ha⟩ := hx
  obtain ⟨b, hb⟩ := hy
  exact ⟨a - b, by rw [Rat.intCast_sub]; grind⟩
theorem IntQ.neg (hx : IntQ D x) : IntQ D (-x) := by
  obtain ⟨a, ha⟩ := hx
  exact ⟨-a, by rw [Rat.intCast_neg]; grind⟩
theorem IntQ.zero : IntQ D 0 := ⟨0, by rw [Rat.zero_mul]; rfl⟩
theorem IntQ.one : IntQ D 1 := ⟨D, by rw [Rat.one_mul]⟩
theorem IntQ.int (n : Int) : IntQ D (n : Rat) := ⟨n * D, by rw [Rat.intCast_mul]⟩
theorem IntQ.up (hx : IntQ D x) (h : D ∣ E) : IntQ E x := by
  obtain ⟨a, ha⟩ := hx
  obtain ⟨c, rfl⟩ := h
  exact ⟨a * c, by rw [Rat.intCast_mul, Rat.intCast_mul, ← ha]; grind⟩
theorem IntQ.of (h : 0 < p.2) : IntQ p.2 (vQ p) := ⟨p.1, by have := ic_ne (show p.2 ≠ 0 by omega); unfold vQ; grind⟩
theorem IntQ.dvd (h : IntQ D (vQ p)) (hp : Fr p) : p.2 ∣ D := by
  obtain ⟨t, e⟩ := h
  have h1 := ic_ne hp.ne
  unfold vQ at e
  have e2 : (p.1 : Rat) * D = t * p.2 := by grind
  have e3 : p.1 * D = t * p.2 := by exact_mod_cast e2
  exact dvd_cop (q := p.2) (p := p.1) ⟨t, by rw [e3, Int.mul_comm]⟩ (by rw [Int.gcd_comm]; exact hp.cop)
theorem IntQ.lt2 {n : Nat} (h : IntQ D (vQ p)) (hp : Fr p) (h0 : 0 < D) (hD : D < 2 ^ n) (b0 : 0 ≤ vQ p) (b1 : vQ p ≤ 1) : Lt2 n p := by
  have h1 := Int.le_of_dvd h0 (h.dvd hp)
  have h2 := hp.pos
  have h3 := (vQ_nn h2).mp b0
  have h4 := (vQ_le1 h2).mp b1
  have h5 : (2 : Int) ^ n = ((2 ^ n : Nat) : Int) := by norm_cast
  constructor
  · omega
  · omega
end
def negQ (x : Qp) : Qp := (-x.1, x.2)
theorem fr_neg {x : Qp} (h : Fr x) : Fr (negQ x) := ⟨h.pos, by show Int.gcd (-x.1) x.2 = 1; rw [Int.neg_gcd]; exact h.cop⟩
theorem vQ_neg (x : Qp) : vQ (negQ x) = - vQ x := by
  unfold vQ negQ
  simp only [Rat.intCast_neg]
  grind
theorem vQ_int (i : Int) : vQ (i, 1) = (i : Rat) := by
  unfold vQ
  simp only [Rat.intCast_one]
  grind
structure StB (s : St) : Prop where
  ok : StOk s
  ea : Lt2 130 s.ea
  fr : Lt2 130 s.fr
  op : Lt2 130 s.op
  ke : Lt2 130 s.ke
  wo : s.wo.natAbs < 2 ^ 130
  pa : s.pa.natAbs < 2 ^ 130
  wr : s.wr.natAbs < 2 ^ 130
  ad : s.ad.natAbs < 2 ^ 130
def Sm (x : Qp) : Prop := Fr x ∧ x.1.natAbs < 2 ^ 53 ∧ x.2.natAbs < 2 ^ 20
theorem Sm.lt {x : Qp} (h : Sm x) : Lt2 53 x := ⟨h.2.1, nat_mono h.2.2 (by decide)⟩
theorem sm_bd : ∀ {xs : List Qp}, (∀ x ∈ xs, Sm x) → (Pb xs).natAbs < 2 ^ (20 * xs.length + 1) ∧ (Nt xs).natAbs < 2 ^ (34 + 22 * xs.length)
  | [], _ => ⟨by decide, by decide⟩
  | x :: xs, h => by
    obtain ⟨_, x1, x2⟩ := h x List.mem_cons_self
    obtain ⟨h1, h2⟩ := sm_bd fun y hy => h y (List.mem_cons_of_mem _ hy)
    rw [List.length_cons]
    refine ⟨?_, ?_⟩
    · show (x.2 * Pb xs).natAbs < _
      exact nat_mono (wide_lt x2 h1) (by omega)
    · show (x.1 * Pb xs + x.2 * Nt xs).natAbs < _
      exact nat_mono (add_lt (nat_mono (wide_lt x1 h1) (show 53 + (20 * xs.length + 1) ≤ 54 + 22 * xs.length by omega)) (nat_mono (wide_lt x2 h2) (show 20 + (34 + 22 * xs.length) ≤ 54 + 22 * xs.length by omega))) (by omega)
theorem sm_sum {xs : List Qp} (h : ∀ x ∈ xs, Sm x) (l : xs.length ≤ 4) : Fr (sumQ xs) ∧ Lt2 122 (sumQ xs) ∧ (sumQ xs).2.natAbs < 2 ^ 81 := by
  obtain ⟨h1, h2⟩ := sm_bd h
  have f := fr_sum fun x hx => (h x hx).1
  have n := Pb_ne fun x hx => (h x hx).1
  have q := fr_le (t := Nt xs) n
  exact ⟨f, ⟨Nat.lt_of_le_of_lt q.1 (nat_mono h2 (by omega)), Nat.lt_of_le_of_lt q.2 (nat_mono h1 (by omega))⟩, Nat.lt_of_le_of_lt q.2 (nat_mono h1 (by omega))⟩
def sp__law_pair : GF := fun ds w _ k => ∃ (s : Str) (c n : Nat), ds = [.st, .str s] ∧ (nameB (.str s) = true ∧ w.n = some c ∧ n + 50 ≤ c) ∧ ∀ (x y : St) c', x.nm = s → y.nm = s → StB x → StB y → goQ x y = true → n ≤ c' → k (.tup [stD x, stD y]) ⟨w.M, some c'⟩
abbrev s__law_pair : Stmt := topS 25
theorem sc__law_pair : FnScope ["_law_state", "_law_name", "_law_size", "_law_left", "_law_kept", "_law_some", "_law_one", "_law_earned", "_law_later", "_law_freed", "_law_rest", "_law_coins", "_law_worked", "_law_owed", "_law_other", "_law_k"] ["_law_state", "_law_name"] (defScope s__law_pair) := ⟨rfl, rfl, rfl, by decide +kernel, rfl, by decide +kernel, by decide +kernel⟩
def g__law_pair_b10 : GS := (gSeq (gSet 14 (gTup (gaCons (gVar 1) (gaCons (gVar 7) (gaCons (gVar 9) (gaCons (gVar 12) (gaCons (gBin subD (gVar 11) (gVar 12)) (gaCons (gCall0 2 sp__law_sum (gaCons (gVar 10) (gaCons (gTup (gaCons (gUn negD (gVar 11)) (gaCons (gC (.int 1)) gaNil))) gaNil))) (gaCons (gVar 8) gaNil)))))))))
  (gRet (gTup (gaCons (gBin addTD (gVar 6) (gTup (gaCons (gBin ixD (gVar 5) (gC (.int 2))) (gaCons (gBin ixD (gVar 5) (gC (.int 3))) gaNil)))) (gaCons (gBin addTD (gVar 14) (gTup (gaCons (gBin ixD (gVar 13) (gC (.int 0))) (gaCons (gBin ixD (gVar 13) (gC (.int 1))) gaNil)))) gaNil)))))
def g__law_pair_b9 : GS := (gCut (gSet 13 (gIf (gB (gBin eqD (gVar 12) (gVar 11))) (DL.gLst (gaCons (gBin ixD (gVar 5) (gC (.int 4))) (gaCons (gBin ixD (gVar 5) (gC (.int 5))) gaNil))) (DL.gLst (gaCons (gC (.int 0)) (gaCons (gC (.int 0)) gaNil)))))
  (g__law_pair_b10))
def g__law_pair_b7 : GS := (gSeq (gSet 11 (gCB fMax2 (gaCons (gC (.int 0)) (gaCons (gBin fdivD (gBin ixD (gVar 10) (gC (.int 0))) (gBin ixD (gVar 10) (gC (.int 1)))) gaNil))))
  (gSeq (gSet 12 (gBin ixD (DL.gLst (gaCons (gC (.int 0)) (gaCons (gVar 11) (gaCons (gCall0 2 sp__law_take (gaCons (gVar 0) (gaCons (gBin addD (gVar 11) (gC (.int 1))) gaNil))) gaNil)))) (gCall0 2 sp__law_take (gaCons (gVar 0) (gaCons (gC (.int 3)) gaNil)))))
  (g__law_pair_b9)))
def g__law_pair_b5 : GS := (gSeq (gSet 9 (gCall0 3 sp__law_times (gaCons (gVar 4) (gaCons (gCall0 2 sp__law_take (gaCons (gVar 0) (gaCons (gC (.int 8)) gaNil))) (gaCons (gC (.int 7)) gaNil)))))
  (gSeq (gSet 10 (gCall0 2 sp__law_sum (gaCons (gCall0 2 sp__law_sum (gaCons (gCall0 2 sp__law_sum (gaCons (gVar 3) (gaCons (gVar 4) gaNil))) (gaCons (gVar 7) gaNil))) (gaCons (gTup (gaCons (gUn negD (gBin ixD (gVar 8) (gC (.int 0)))) (gaCons (gBin ixD (gVar 8) (gC (.int 1))) gaNil))) gaNil))))
  (g__law_pair_b7)))
def g__law_pair_b4 : GS := (gSeq (gPar 7 8 (gaCons (gCall0 3 sp__law_fraction (gaCons (gVar 0) (gaCons (gUn negD (gVar 2)) (gaCons (gVar 2) gaNil)))) (gaCons (gCall0 3 sp__law_fraction (gaCons (gVar 0) (gaCons (gC (.int 0)) (gaCons (gVar 2) gaNil)))) gaNil)))
  (g__law_pair_b5))
def g__law_pair_b3 : GS := (gSeq (gSet 6 (gTup (gaCons (gVar 1) (gaCons (gCall0 3 sp__law_fraction (gaCons (gVar 0) (gaCons (gUn negD (gVar 2)) (gaCons (gVar 2) gaNil)))) (gaCons (gCall0 3 sp__law_fraction (gaCons (gVar 0) (gaCons (gC (.int 0)) (gaCons (gVar 2) gaNil)))) (gaCons (gBin ixD (gVar 5) (gC (.int 0))) (gaCons (gBin ixD (gVar 5) (gC (.int 1))) (gaCons (gVar 3) (gaCons (gVar 4) gaNil)))))))))
  (g__law_pair_b4))
def g__law_pair : GS := (gSeq (gSet 2 (gBin ixD (DL.gLst (gaCons (gC (.int 2)) (gaCons (gC (.int 50)) (gaCons (gBin powD (gC (.int 10)) (gC (.int 9))) gaNil)))) (gCall0 2 sp__law_take (gaCons (gVar 0) (gaCons (gC (.int 3)) gaNil)))))
  (gSeq (gPar 3 4 (gaCons (gCall0 3 sp__law_fraction (gaCons (gVar 0) (gaCons (gUn negD (gVar 2)) (gaCons (gVar 2) gaNil)))) (gaCons (gCall0 3 sp__law_fraction (gaCons (gVar 0) (gaCons (gC (.int 0)) (gaCons (gVar 2) gaNil)))) gaNil)))
  (gSeq (gSet 5 (gLc (giRange1 (gaCons (gC (.int 8)) gaNil)) (ggName 15) gYes (gBin mulD (gCall0 2 sp__law_take (gaCons (gVar 0) (gaCons (gC (.int 3)) gaNil))) (gCall0 2 sp__law_take (gaCons (gVar 0) (gaCons (gVar 2) gaNil)))) [15]))
  (g__law_pair_b3))))
theorem w__law_pair {P : Program} {w : World} {K : PySem.W.Frag} {mg : Str → Option Value} {base : Heap} (T : DefAt K mg "_law_pair" s__law_pair ["_law_state", "_law_name"]) (B : Blt mg) (F__law_times : FnAt P w K mg base CX0 2 "_law_times" 3 sp__law_times) (F__law_sum : FnAt P w K mg base CX0 1 "_law_sum" 2 sp__law_sum) (F__law_take : FnAt P w K mg base CX0 1 "_law_take" 2 sp__law_take) (F__law_fraction : FnAt P w K mg base CX0 2 "_law_fraction" 3 sp__law_fraction) : FnAt P w K mg base CX0 3 "_law_pair" 2 (sem0 16 g__law_pair) := by
  have nd := sc__law_pair.nd
  exact T.fn0 sc__law_pair (fun f cdv A outer s H E hr => (dss_cons (ds_set (i := 2) nd rfl (by first | exact Or.inl rfl | exact Or.inr rfl) (de_ix (de_lst (da_cons de_int (da_cons de_int (da_cons (de_pow de_int de_int) da_nil)))) (de_call0 F__law_take hr (by rfl) (da_cons (de_var 0) (da_cons de_int da_nil)))))
  (dss_cons (ds_par (i := 3) (j := 4) rfl nd rfl rfl (by decide) rfl rfl (da_cons (de_call0 F__law_fraction hr (by rfl) (da_cons (de_var 0) (da_cons (de_neg (de_var 2)) (da_cons (de_var 2) da_nil)))) (da_cons (de_call0 F__law_fraction hr (by rfl) (da_cons (de_var 0) (da_cons de_int (da_cons (de_var 2) da_nil)))) da_nil)) (by rfl))
  (dss_cons (ds_setLc (i := 5) (own := [("_law_k", 15)]) (us := [15]) rfl nd rfl rfl (sw_true rfl rfl rfl (by decide +kernel)) (di_range1 B (by rfl) (da_cons de_int da_nil)) (blkOk_by (N := ["_law_state", "_law_name", "_law_size", "_law_left", "_law_kept", "_law_some", "_law_one", "_law_earned", "_law_later", "_law_freed", "_law_rest", "_law_coins", "_law_worked", "_law_owed", "_law_other", "_law_k"]) (sc := defScope s__law_pair) (by decide +kernel)) (by decide) (fun _ _ _ _ _ => (dg_name (i := 15) nd rfl (by first | exact Or.inl rfl | exact Or.inr rfl))) (fun _ _ _ _ _ => dts_nil) (fun _ _ _ _ _ => (de_mul (de_call0 F__law_take hr (by rfl) (da_cons (de_var 0) (da_cons de_int da_nil))) (de_call0 F__law_take hr (by rfl) (da_cons (de_var 0) (da_cons (de_var 2) da_nil))))))
  (dss_cons (ds_set (i := 6) nd rfl (by first | exact Or.inl rfl | exact Or.inr rfl) (de_tup (da_cons (de_var 1) (da_cons (de_call0 F__law_fraction hr (by rfl) (da_cons (de_var 0) (da_cons (de_neg (de_var 2)) (da_cons (de_var 2) da_nil)))) (da_cons (de_call0 F__law_fraction hr (by rfl) (da_cons (de_var 0) (da_cons de_int (da_cons (de_var 2) da_nil)))) (da_cons (de_ix (de_var 5) de_int) (da_cons (de_ix (de_var 5) de_int) (da_cons (de_var 3) (da_cons (de_var 4) da_nil)))))))))
  (dss_cons (ds_par (i := 7) (j := 8) rfl nd rfl rfl (by decide) rfl rfl (da_cons (de_call0 F__law_fraction hr (by rfl) (da_cons (de_var 0) (da_cons (de_neg (de_var 2)) (da_cons (de_var 2) da_nil)))) (da_cons (de_call0 F__law_fraction hr (by rfl) (da_cons (de_var 0) (da_cons de_int (da_cons (de_var 2) da_nil)))) da_nil)) (by rfl))
  (dss_cons (ds_set (i := 9) nd rfl (by first | exact Or.inl rfl | exact Or.inr rfl) (de_call0 F__law_times hr (by rfl) (da_cons (de_var 4) (da_cons (de_call0 F__law_take hr (by rfl) (da_cons (de_var 0) (da_cons de_int da_nil))) (da_cons de_int da_nil)))))
  (dss_cons (ds_set (i := 10) nd rfl (by first | exact Or.inl rfl | exact Or.inr rfl) (de_call0 F__law_sum hr (by rfl) (da_cons (de_call0 F__law_sum hr (by rfl) (da_cons (de_call0 F__law_sum hr (by rfl) (da_cons (de_var 3) (da_cons (de_var 4) da_nil))) (da_cons (de_var 7) da_nil))) (da_cons (de_tup (da_cons (de_neg (de_ix (de_var 8) de_int)) (da_cons (de_ix (de_var 8) de_int) da_nil))) da_nil))))
  (dss_cons (ds_set (i := 11) nd rfl (by first | exact Or.inl rfl | exact Or.inr rfl) (de_max2 B rfl (by rfl) (da_cons de_int (da_cons (de_fdiv (de_ix (de_var 10) de_int) (de_ix (de_var 10) de_int)) da_nil))))
  (dss_cons (ds_set (i := 12) nd rfl (by first | exact Or.inl rfl | exact Or.inr rfl) (de_ix (de_lst (da_cons de_int (da_cons (de_var 11) (da_cons (de_call0 F__law_take hr (by rfl) (da_cons (de_var 0) (da_cons (de_add (de_var 11) de_int) da_nil))) da_nil)))) (de_call0 F__law_take hr (by rfl) (da_cons (de_var 0) (da_cons de_int da_nil)))))
  (dss_cut (ds_set (i := 13) nd rfl (by first | exact Or.inl rfl | exact Or.inr rfl) (de_ifExp (dt_eq hr (de_var 12) (de_var 11)) (de_lst (da_cons (de_ix (de_var 5) de_int) (da_cons (de_ix (de_var 5) de_int) da_nil))) (de_lst (da_cons de_int (da_cons de_int da_nil)))))
  (dss_cons (ds_set (i := 14) nd rfl (by first | exact Or.inl rfl | exact Or.inr rfl) (de_tup (da_cons (de_var 1) (da_cons (de_var 7) (da_cons (de_var 9) (da_cons (de_var 12) (da_cons (de_sub (de_var 11) (de_var 12)) (da_cons (de_call0 F__law_sum hr (by rfl) (da_cons (de_var 10) (da_cons (de_tup (da_cons (de_neg (de_var 11)) (da_cons de_int da_nil))) da_nil))) (da_cons (de_var 8) da_nil)))))))))
  (dss_one (ds_ret (de_tup (da_cons (de_addt (de_var 6) (de_tup (da_cons (de_ix (de_var 5) de_int) (da_cons (de_ix (de_var 5) de_int) da_nil)))) (da_cons (de_addt (de_var 14) (de_tup (da_cons (de_ix (de_var 13) de_int) (da_cons (de_ix (de_var 13) de_int) da_nil)))) da_nil)))))))))))))))))

abbrev PK (s : Str) (n : Nat) (M : List Cell) (k : KD) : Prop := ∀ (x y : St) c', x.nm = s → y.nm = s → StB x → StB y → goQ x y = true → n ≤ c' → k (.tup [stD x, stD y]) ⟨M, some c'⟩
theorem sm_of {q : Qp} (f : Fr q) (h1 : q.1.natAbs < 2 ^ 53) (h2 : q.2 ≤ 1000000) : Sm q := ⟨f, h1, by
  have := f.pos
  exact Nat.lt_of_le_of_lt (show q.2.natAbs ≤ 1000000 by omega) (by decide)⟩
theorem pair_b7 {s : Str} {n : Nat} {M : List Cell} {k : KD} (hk : PK s n M k) (hs : nameB (.str s) = true) {vs : List Int} (hl : vs.length = 8) (hv : ∀ v ∈ vs, 0 ≤ v ∧ v ≤ 2000000000) {lf kp ex fx ea la fq rs : Qp} (L : Sm lf) (Kp : Sm kp) (k4 : 0 ≤ kp.1)
    (Ex : Sm ex) (Fx : Sm fx) (Ea : Sm ea) (La : Sm la) (l4 : 0 ≤ la.1) (Fq : Fr fq ∧ Lt2 120 fq ∧ 0 ≤ fq.1 ∧ fq.1 * kp.2 ≤ kp.1 * fq.2) (hrs : rs = sumQ [lf, kp, ea, negQ la]) {c : Nat} (hc : n + 13 ≤ c) {z a15 : Option D} :
    g__law_pair_b7 { nx := fun x w' => k D.non w', rt := k, ex := noX } [some .st, some (.str s), z, some (fD lf), some (fD kp), some (.lst (vs.map D.int)), some (.tup [.str s, fD ex, fD fx, .int (vs.getD 0 0), .int (vs.getD 1 0), fD lf, fD kp]), some (fD ea), some (fD la), some (fD fq), some (fD rs), none, none, none, none, a15] ⟨M, some c⟩ := by
  have FB : ∀ x ∈ [lf, kp, ea, negQ la], Sm x := by
    have : Sm (negQ la) := ⟨fr_neg La.1, by show (-la.1).natAbs < _; rw [Int.natAbs_neg]; exact La.2.1, La.2.2⟩
    simp [L, Kp, Ea, this]
  obtain ⟨W1, W2, W4⟩ := sm_sum FB (by simp)
  rw [← hrs] at W1 W2 W4
  have W3 : vQ rs = vQ lf + vQ kp + vQ ea - vQ la := by
    rw [hrs, vQ_sum fun z hz => (FB z hz).1]
    simp only [sumR_cons, vQ_neg]
    unfold sumR
    simp only [List.map_nil, List.sum_nil]
    grind
  clear hrs FB
  have wp := W1.pos
  simp -implicitDefEqProofs only [g__law_pair_b7.eq_1, sp__law_take.eq_1, ixD_f0, ixD_f1, ggTup_f, fIsi_f, fLen_f, eqD_ff, neD_ff, DL.sem0.eq_1, List.map_cons, List.map_nil, List.length_cons, List.length_nil, DL.gSeq.eq_1, DL.gNext.eq_1, DL.gRet.eq_1, DL.gRetN.eq_1, DL.gIfS.eq_1, DL.gSet.eq_1, DL.gPar.eq_1, DL.gAsg.eq_1, DL.gDrop.eq_1, DL.gVar.eq_1, DL.gC.eq_1, DL.gBin.eq_1, DL.gUn.eq_1, DL.gB.eq_1, DL.gTru.eq_1, DL.gAnd.eq_1, DL.gOr.eq_1, DL.gNot.eq_1, DL.gAndV.eq_1, DL.gOrV.eq_1, DL.gNotV.eq_1, DL.gIf.eq_1, DL.gChain.eq_1, DL.gaNil.eq_1, DL.gaCons.eq_1, DL.gTup.eq_1, DL.gLst.eq_1, DL.gCB.eq_1, DL.gCall0.eq_1, DL.gAug.eq_1, addD_i, addD_s, addD_l, addD_t, subD_i, mulD_i, mulD_l, fdivD_i, modD_i, powD_i, ltD_i, ltD_s, leD_i, gtD_i, geD_i, isD_n, isnotD_n, isNonD_non, isNonD_bl, isNonD_int, isNonD_str, isNonD_lst, isNonD_tup, negD_i, iaddD_i, truD_non, truD_bl, truD_int, truD_str, truD_lst, truD_tup, someK_some, ixD_l, ixD_t, fAbs_i, fInt_i, fInt_b, fMin2_i, fLen_l, fLen_t, fLen_s, fList_l, fList_t, fTuple_l, fTuple_t, optBK_some, fIsi_non, fIsi_bl, fIsi_int, fIsi_str, fIsi_lst, fIsi_tup, List.getElem?_cons_zero, List.getElem?_cons_succ, List.set_cons_zero, List.set_cons_succ, DL.ggName.eq_1, ggNil0, ggCons1, ggTup2, ggTup3, DL.gFor.eq_1, DL.giSeq.eq_1, DL.gLc.eq_1, DL.gYes.eq_1, DL.wipeR.eq_1, true_and, and_true, at_0, at_1, at_2, kit_int_int, kit_bool_int, kit_str_int, kit_non_int, kit_list_int, kit_tuple_int, kit_int_bool, kit_bool_bool, kit_str_bool, kit_non_bool, kit_list_bool, kit_tuple_bool, kit_int_str, kit_bool_str, kit_str_str, kit_non_str, kit_list_str, kit_tuple_str, kit_int_list, kit_bool_list, kit_str_list, kit_non_list, kit_list_list, kit_tuple_list, kit_int_tuple, kit_bool_tuple, kit_str_tuple, kit_non_tuple, kit_list_tuple, kit_tuple_tuple, eqD_i, neD_i, eqD_s, neD_s, eqD_f, neD_f, Nat.zero_add, Nat.reduceAdd, nc0, nc1, nc2, nc3, nc4, nc5, nc6, nc7, nc8, nc9, eq_self, decide_true, decide_false, Int.reduceEq, Int.reduceLT, Int.reduceLE, Int.reduceNeg, Bool.not_true, Bool.not_false, Bool.false_eq_true, if_true, if_false, ↓reduceIte, false_and, and_false, List.all_cons, List.all_nil, List.any_cons, List.any_nil, id_eq, Bool.and_true, Bool.true_and, Bool.or_false, Bool.false_or, Bool.and_false, Bool.false_and, DL.gCut.eq_1, eqD_b, neD_b, DL.giZip.eq_1, reduceCtorEq, Bool.true_eq_false, Bool.false_eq_true, DL.gRevL.eq_1, DL.gSl.eq_1, DL.goNone.eq_1, DL.goSome.eq_1, slD_l, ne_eq, not_false_eq_true, not_true_eq_false, DL.gBM.eq_1, isTy_l, isTy_s, new_at, new_set, isTy_new, cellK_new, append_new, popAt_new, gFrz_eq, frzK_new, fLen_new, fTuple_new, ixD_new, slA_l, slA_t, slA_new, addTD_t, addCD_l, mulCD_l, isbD_b, isnotbD_b, mSplitC_s, DL.gLstC.eq_1, DL.gTr.eq_1, DL.ggSub.eq_1, lstK_l, lstK_r, addLD_eq]
  rw [Int.fdiv_eq_ediv_of_nonneg _ (Int.le_of_lt wp)]
  have f0 : (rs.1 / rs.2).natAbs < 2 ^ 122 := Nat.lt_of_le_of_lt (Int.natAbs_ediv_le_natAbs _ _) W2.1
  obtain ⟨C, hC, C0, C1, C2, C3⟩ : ∃ C : Int, (if rs.1 / rs.2 > 0 then rs.1 / rs.2 else 0) = C ∧ 0 ≤ C ∧ C.natAbs < 2 ^ 122 ∧ rs.1 < (C + 1) * rs.2 ∧ (rs.1 * 1 + -C * rs.2).natAbs < 2 ^ 122 := by
    refine ⟨_, rfl, ?_⟩
    have h1 : rs.1 < (rs.1 / rs.2 + 1) * rs.2 := Int.lt_ediv_add_one_mul_self rs.1 wp
    split
    · refine ⟨by omega, f0, h1, ?_⟩
      have e1 : rs.1 * 1 + -(rs.1 / rs.2) * rs.2 = rs.1 % rs.2 := by
        have := Int.emod_add_mul_ediv rs.1 rs.2
        rw [Int.mul_one, Int.neg_mul, Int.mul_comm]
        omega
      rw [e1]
      have a0 := Int.emod_nonneg rs.1 (b := rs.2) (by omega)
      have a1 := Int.emod_lt_of_pos rs.1 wp
      exact Nat.lt_of_le_of_lt (show (rs.1 % rs.2).natAbs ≤ rs.2.natAbs by omega) (nat_mono W4 (by decide))
    · rename_i h
      refine ⟨Int.le_refl _, by decide, Int.lt_of_lt_of_le h1 (Int.mul_le_mul_of_nonneg_right (by omega) (Int.le_of_lt wp)), ?_⟩
      rw [Int.mul_one, Int.neg_zero, Int.zero_mul, Int.add_zero]
      exact W2.1
  refine ⟨⟨by omega, log_ok (nat_mono W4 (by decide))⟩, ?_⟩
  rw [fMax2_i, hC]
  simp! only [id_eq]
  refine take_use (n + 9) rfl (by omega) ⟨by omega, log_ok (Nat.lt_of_lt_of_le (show (C + 1).natAbs < 2 ^ 123 by rw [Nat.pow_succ]; omega) (Nat.pow_le_pow_right (by decide) (by decide)))⟩ fun r4 c11 u0 u1 hc11 => ?_
  refine ⟨by decide, take_use (n + 8) rfl (by omega) ⟨by decide, log_of (by decide)⟩ fun r5 c12 y0 y1 hc12 => ?_⟩
  refine ix_all (fun d => ∃ b : Int, d = .int b ∧ 0 ≤ b ∧ b ≤ C) y0 y1 (all_cons ⟨0, rfl, Int.le_refl _, C0⟩ (all_cons ⟨C, rfl, C0, Int.le_refl _⟩ (all_cons ⟨r4, rfl, u0, by omega⟩ all_nil))) ?_
  rintro d ⟨wk, rfl, wk0, wk1⟩
  have V : ∀ v ∈ vs, 0 ≤ v ∧ v.natAbs < 2 ^ 120 := fun v h => ⟨(hv v h).1, Nat.lt_of_le_of_lt (show v.natAbs ≤ 2000000000 by have := hv v h; omega) (by decide)⟩
  have at_ : ∀ (j : Nat), j < 8 → ∀ f : D → Prop, (∀ v : Int, v = vs.getD j 0 → f (.int v)) → someK (atI (vs.map D.int) (j : Int)) f := fun j hj f h => by
    rw [atI_nat (by rw [List.getElem?_map, List.getElem?_eq_getElem (by omega : j < vs.length)]; rfl)]
    exact h _ (by rw [List.getD_eq_getElem?_getD, List.getElem?_eq_getElem (by omega : j < vs.length)]; rfl)
  have gt_ : ∀ j, j < 8 → 0 ≤ vs.getD j 0 ∧ (vs.getD j 0).natAbs < 2 ^ 120 := fun j hj => by
    rw [List.getD_eq_getElem?_getD, List.getElem?_eq_getElem (by omega : j < vs.length)]
    exact V _ (List.getElem_mem _)
  simp -implicitDefEqProofs only [g__law_pair_b9.eq_1, DL.sem0.eq_1, List.map_cons, List.map_nil, List.length_cons, List.length_nil, DL.gSeq.eq_1, DL.gNext.eq_1, DL.gRet.eq_1, DL.gRetN.eq_1, DL.gIfS.eq_1, DL.gSet.eq_1, DL.gPar.eq_1, DL.gAsg.eq_1, DL.gDrop.eq_1, DL.gVar.eq_1, DL.gC.eq_1, DL.gBin.eq_1, DL.gUn.eq_1, DL.gB.eq_1, DL.gTru.eq_1, DL.gAnd.eq_1, DL.gOr.eq_1, DL.gNot.eq_1, DL.gAndV.eq_1, DL.gOrV.eq_1, DL.gNotV.eq_1, DL.gIf.eq_1, DL.gChain.eq_1, DL.gaNil.eq_1, DL.gaCons.eq_1, DL.gTup.eq_1, DL.gLst.eq_1, DL.gCB.eq_1, DL.gCall0.eq_1, DL.gAug.eq_1, addD_i, addD_s, addD_l, addD_t, subD_i, mulD_i, mulD_l, fdivD_i, modD_i, powD_i, ltD_i, ltD_s, leD_i, gtD_i, geD_i, isD_n, isnotD_n, isNonD_non, isNonD_bl, isNonD_int, isNonD_str, isNonD_lst, isNonD_tup, negD_i, iaddD_i, truD_non, truD_bl, truD_int, truD_str, truD_lst, truD_tup, someK_some, ixD_l, ixD_t, fAbs_i, fInt_i, fInt_b, fMin2_i, fLen_l, fLen_t, fLen_s, fList_l, fList_t, fTuple_l, fTuple_t, optBK_some, fIsi_non, fIsi_bl, fIsi_int, fIsi_str, fIsi_lst, fIsi_tup, List.getElem?_cons_zero, List.getElem?_cons_succ, List.set_cons_zero, List.set_cons_succ, DL.ggName.eq_1, ggNil0, ggCons1, ggTup2, ggTup3, DL.gFor.eq_1, DL.giSeq.eq_1, DL.gLc.eq_1, DL.gYes.eq_1, DL.wipeR.eq_1, true_and, and_true, at_0, at_1, at_2, kit_int_int, kit_bool_int, kit_str_int, kit_non_int, kit_list_int, kit_tuple_int, kit_int_bool, kit_bool_bool, kit_str_bool, kit_non_bool, kit_list_bool, kit_tuple_bool, kit_int_str, kit_bool_str, kit_str_str, kit_non_str, kit_list_str, kit_tuple_str, kit_int_list, kit_bool_list, kit_str_list, kit_non_list, kit_list_list, kit_tuple_list, kit_int_tuple, kit_bool_tuple, kit_str_tuple, kit_non_tuple, kit_list_tuple, kit_tuple_tuple, eqD_i, neD_i, eqD_s, neD_s, eqD_f, neD_f, Nat.zero_add, Nat.reduceAdd, nc0, nc1, nc2, nc3, nc4, nc5, nc6, nc7, nc8, nc9, eq_self, decide_true, decide_false, Int.reduceEq, Int.reduceLT, Int.reduceLE, Int.reduceNeg, Bool.not_true, Bool.not_false, Bool.false_eq_true, if_true, if_false, ↓reduceIte, false_and, and_false, List.all_cons, List.all_nil, List.any_cons, List.any_nil, id_eq, Bool.and_true, Bool.true_and, Bool.or_false, Bool.false_or, Bool.and_false, Bool.false_and, DL.gCut.eq_1, eqD_b, neD_b, DL.giZip.eq_1, reduceCtorEq, Bool.true_eq_false, Bool.false_eq_true, DL.gRevL.eq_1, DL.gSl.eq_1, DL.goNone.eq_1, DL.goSome.eq_1, slD_l, ne_eq, not_false_eq_true, not_true_eq_false, DL.gBM.eq_1, isTy_l, isTy_s, new_at, new_set, isTy_new, cellK_new, append_new, popAt_new, gFrz_eq, frzK_new, fLen_new, fTuple_new, ixD_new, slA_l, slA_t, slA_new, addTD_t, addCD_l, mulCD_l, isbD_b, isnotbD_b, mSplitC_s, DL.gLstC.eq_1, DL.gTr.eq_1, DL.ggSub.eq_1, lstK_l, lstK_r, addLD_eq]
  refine ⟨fun ρ w' => ∃ o1 o2 : Int, 0 ≤ o1 ∧ 0 ≤ o2 ∧ o1.natAbs < 2 ^ 120 ∧ o2.natAbs < 2 ^ 120 ∧ (wk = C ∨ o1 = 0 ∧ o2 = 0) ∧ w' = ⟨M, some c12⟩ ∧ ρ = [some .st, some (.str s), z, some (fD lf), some (fD kp), some (.lst (vs.map D.int)), some (.tup [.str s, fD ex, fD fx, .int (vs.getD 0 0), .int (vs.getD 1 0), fD lf, fD kp]), some (fD ea), some (fD la), some (fD fq), some (fD rs), some (.int C), some (.int wk), some (.lst [.int o1, .int o2]), none, a15], ?_, ?_⟩
  · refine ite2 (fun h => ?_) (fun h => ?_)
    · refine at_ 4 (by decide) _ fun v4 e4 => at_ 5 (by decide) _ fun v5 e5 => ⟨by decide, v4, v5, ?_, ?_, ?_, ?_, .inl (of_decide_eq_true h), rfl, rfl⟩
      · rw [e4]; exact (gt_ 4 (by decide)).1
      · rw [e5]; exact (gt_ 5 (by decide)).1
      · rw [e4]; exact (gt_ 4 (by decide)).2
      · rw [e5]; exact (gt_ 5 (by decide)).2
    · exact ⟨by decide, 0, 0, Int.le_refl _, Int.le_refl _, by decide, by decide, .inr ⟨rfl, rfl⟩, rfl, rfl⟩
  · rintro ρ w' ⟨o1, o2, p1, p2, p3, p4, how, rfl, rfl⟩
    simp -implicitDefEqProofs only [g__law_pair_b10.eq_1, DL.sem0.eq_1, List.map_cons, List.map_nil, List.length_cons, List.length_nil, DL.gSeq.eq_1, DL.gNext.eq_1, DL.gRet.eq_1, DL.gRetN.eq_1, DL.gIfS.eq_1, DL.gSet.eq_1, DL.gPar.eq_1, DL.gAsg.eq_1, DL.gDrop.eq_1, DL.gVar.eq_1, DL.gC.eq_1, DL.gBin.eq_1, DL.gUn.eq_1, DL.gB.eq_1, DL.gTru.eq_1, DL.gAnd.eq_1, DL.gOr.eq_1, DL.gNot.eq_1, DL.gAndV.eq_1, DL.gOrV.eq_1, DL.gNotV.eq_1, DL.gIf.eq_1, DL.gChain.eq_1, DL.gaNil.eq_1, DL.gaCons.eq_1, DL.gTup.eq_1, DL.gLst.eq_1, DL.gCB.eq_1, DL.gCall0.eq_1, DL.gAug.eq_1, addD_i, addD_s, addD_l, addD_t, subD_i, mulD_i, mulD_l, fdivD_i, modD_i, powD_i, ltD_i, ltD_s, leD_i, gtD_i, geD_i, isD_n, isnotD_n, isNonD_non, isNonD_bl, isNonD_int, isNonD_str, isNonD_lst, isNonD_tup, negD_i, iaddD_i, truD_non, truD_bl, truD_int, truD_str, truD_lst, truD_tup, someK_some, ixD_l, ixD_t, fAbs_i, fInt_i, fInt_b, fMin2_i, fLen_l, fLen_t, fLen_s, fList_l, fList_t, fTuple_l, fTuple_t, optBK_some, fIsi_non, fIsi_bl, fIsi_int, fIsi_str, fIsi_lst, fIsi_tup, List.getElem?_cons_zero, List.getElem?_cons_succ, List.set_cons_zero, List.set_cons_succ, DL.ggName.eq_1, ggNil0, ggCons1, ggTup2, ggTup3, DL.gFor.eq_1, DL.giSeq.eq_1, DL.gLc.eq_1, DL.gYes.eq_1, DL.wipeR.eq_1, true_and, and_true, at_0, at_1, at_2, kit_int_int, kit_bool_int, kit_str_int, kit_non_int, kit_list_int, kit_tuple_int, kit_int_bool, kit_bool_bool, kit_str_bool, kit_non_bool, kit_list_bool, kit_tuple_bool, kit_int_str, kit_bool_str, kit_str_str, kit_non_str, kit_list_str, kit_tuple_str, kit_int_list, kit_bool_list, kit_str_list, kit_non_list, kit_list_list, kit_tuple_list, kit_int_tuple, kit_bool_tuple, kit_str_tuple, kit_non_tuple, kit_list_tuple, kit_tuple_tuple, eqD_i, neD_i, eqD_s, neD_s, eqD_f, neD_f, Nat.zero_add, Nat.reduceAdd, nc0, nc1, nc2, nc3, nc4, nc5, nc6, nc7, nc8, nc9, eq_self, decide_true, decide_false, Int.reduceEq, Int.reduceLT, Int.reduceLE, Int.reduceNeg, Bool.not_true, Bool.not_false, Bool.false_eq_true, if_true, if_false, ↓reduceIte, false_and, and_false, List.all_cons, List.all_nil, List.any_cons, List.any_nil, id_eq, Bool.and_true, Bool.true_and, Bool.or_false, Bool.false_or, Bool.and_false, Bool.false_and, DL.gCut.eq_1, eqD_b, neD_b, DL.giZip.eq_1, reduceCtorEq, Bool.true_eq_false, Bool.false_eq_true, DL.gRevL.eq_1, DL.gSl.eq_1, DL.goNone.eq_1, DL.goSome.eq_1, slD_l, ne_eq, not_false_eq_true, not_true_eq_false, DL.gBM.eq_1, isTy_l, isTy_s, new_at, new_set, isTy_new, cellK_new, append_new, popAt_new, gFrz_eq, frzK_new, fLen_new, fTuple_new, ixD_new, slA_l, slA_t, slA_new, addTD_t, addCD_l, mulCD_l, isbD_b, isnotbD_b, mSplitC_s, DL.gLstC.eq_1, DL.gTr.eq_1, DL.ggSub.eq_1, lstK_l, lstK_r, addLD_eq]
    have I : Fr (-C, 1) ∧ Lt2 122 (-C, 1) := ⟨fr_int _, lt_int (a := 121) (by rw [Int.natAbs_neg]; exact C1)⟩
    refine ⟨by decide, rs.1, rs.2, -C, 1, rfl, ⟨wp, by decide, W2.mono (by decide), I.2.mono (by decide)⟩, ?_⟩
    have L1 : Fr (norm (rs.1 * 1 + -C * rs.2) (rs.2 * 1)) := fr_norm (by omega)
    have L2 : Lt2 122 (norm (rs.1 * 1 + -C * rs.2) (rs.2 * 1)) := norm_lt (by omega) C3 (by rw [Int.mul_one]; exact nat_mono W4 (by decide))
    have L3 : vQ (norm (rs.1 * 1 + -C * rs.2) (rs.2 * 1)) = vQ rs - (C : Rat) := by
      have h2 := ic_ne W1.ne
      rw [vQ_norm (by omega)]
      unfold vQ
      simp only [Int.mul_one, Rat.intCast_add, Rat.intCast_mul, Rat.intCast_neg]
      grind
    generalize norm (rs.1 * 1 + -C * rs.2) (rs.2 * 1) = lq at L1 L2 L3 ⊢
    refine ⟨by decide, at_ 2 (by decide) _ fun v2 q2 => at_ 3 (by decide) _ fun v3 q3 => ⟨by decide, by decide, by decide, by decide, by decide, ?_⟩⟩
    have below : lessQ lq (1, 1) = true := by
      unfold lessQ
      rw [decide_eq_true_eq, Int.mul_one, Int.one_mul]
      have e1 : ¬ (1 : Rat) ≤ vQ lq := by
        rw [L3]
        have h1 : vQ rs < (C : Rat) + 1 := by
          unfold vQ
          have wpr := ic_pos wp
          rw [Rat.div_lt_iff wpr]
          have : (rs.1 : Rat) < ((C + 1) * rs.2 : Int) := by exact_mod_cast C2
          simpa using this
        grind
      have e2 : ¬ vQ (1, 1) ≤ vQ lq := by rw [vQ1]; exact e1
      rw [vQ_le (by decide) L1.pos] at e2
      have : ¬ (1 * lq.2 ≤ lq.1 * 1) := e2
      omega
    have sums : sumQ [lq, la] = sumQ [lf, kp, ea, (-wk - (C - wk), 1)] := by
      have a1 : ∀ z ∈ [lq, la], Fr z := by simp [L1, La.1]
      have a2 : ∀ z ∈ [lf, kp, ea, (-wk - (C - wk), 1)], Fr z := by simp [L.1, Kp.1, Ea.1, fr_int]
      refine vQ_inj (fr_sum a1) (fr_sum a2) ?_
      rw [vQ_sum a1, vQ_sum a2]
      simp only [sumR_cons, vQ_int]
      unfold sumR
      simp only [List.map_nil, List.sum_nil]
      rw [L3, W3, show -wk - (C - wk) = -C by omega, Rat.intCast_neg]
      grind
    have up : ∀ {q : Qp}, Sm q → Fr q ∧ Lt2 600 q := fun h => ⟨h.1, h.lt.mono (by decide)⟩
    have up2 : ∀ {q : Qp}, Sm q → Lt2 120 q := fun h => h.lt.mono (by decide)
    have i6 : ∀ {i : Int}, i.natAbs < 2 ^ 120 → i.natAbs < 2 ^ 600 := fun h => nat_mono h (by decide)
    have i7 : ∀ {i : Int}, i.natAbs < 2 ^ 130 → i.natAbs < 2 ^ 600 := fun h => nat_mono h (by decide)
    obtain ⟨x0, x1⟩ := gt_ 0 (by decide)
    obtain ⟨x2, x3⟩ := gt_ 1 (by decide)
    obtain ⟨x4, x5⟩ := gt_ 2 (by decide)
    obtain ⟨x6, x7⟩ := gt_ 3 (by decide)
    rw [← q2] at x4 x5
    rw [← q3] at x6 x7
    have cw : (C - wk).natAbs < 2 ^ 130 := Nat.lt_of_le_of_lt (show (C - wk).natAbs ≤ C.natAbs by omega) (nat_mono C1 (by decide))
    have ww : wk.natAbs < 2 ^ 130 := Nat.lt_of_le_of_lt (show wk.natAbs ≤ C.natAbs by omega) (nat_mono C1 (by decide))
    refine hk ⟨s, ex, fx, vs.getD 0 0, vs.getD 1 0, lf, kp, v2, v3⟩ ⟨s, ea, fq, wk, C - wk, lq, la, o1, o2⟩ c12 rfl rfl ?_ ?_ ?_ (by omega)
    · exact ⟨⟨hs, up Ex, up Fx, up L, up Kp, ⟨x0, i6 x1⟩, ⟨x2, i6 x3⟩, x4, x6⟩, (up2 Ex).mono (by decide), (up2 Fx).mono (by decide), (up2 L).mono (by decide), (up2 Kp).mono (by decide), nat_mono x1 (by decide), nat_mono x3 (by decide), nat_mono x5 (by decide), nat_mono x7 (by decide)⟩
    · exact ⟨⟨hs, up Ea, ⟨Fq.1, Fq.2.1.mono (by decide)⟩, ⟨L1, L2.mono (by decide)⟩, up La, ⟨wk0, i7 ww⟩, ⟨show 0 ≤ C - wk by omega, i7 cw⟩, p1, p2⟩, (up2 Ea).mono (by decide), Fq.2.1.mono (by decide), L2.mono (by decide), (up2 La).mono (by decide), ww, cw, nat_mono p3 (by decide), nat_mono p4 (by decide)⟩
    · unfold goQ
      show (decide (sumQ [lq, la] = sumQ [lf, kp, ea, (-wk - (C - wk), 1)]) && (!decide (fq.1 < 0) && !lessQ kp fq && !decide (la.1 < 0) && lessQ lq (1, 1)) && (decide (C - wk = 0) || (decide (o1 = 0) && decide (o2 = 0)))) = true
      have f1 := Fq.2.2.1
      have f2 := Fq.2.2.2
      rw [decide_eq_true sums, below, decide_eq_false (show ¬ fq.1 < 0 by omega), decide_eq_false (show ¬ la.1 < 0 by omega)]
      have : lessQ kp fq = false := by
        unfold lessQ
        rw [decide_eq_false_iff_not]
        omega
      rw [this]
      rcases how with h | ⟨h, h'⟩
      · rw [decide_eq_true (show C - wk = 0 by omega)]
        rfl
      · rw [h, h', Bool.or_comm]
        rfl

theorem pair_b3 {s : Str} {n : Nat} {M : List Cell} {k : KD} (hk : PK s n M k) (hs : nameB (.str s) = true) {vs : List Int} (hl : vs.length = 8) (hv : ∀ v ∈ vs, 0 ≤ v ∧ v ≤ 2000000000) {lf kp : Qp} (L : Sm lf) (Kp : Sm kp) (k4 : 0 ≤ kp.1) {z : Int} (hz : 2 ≤ z ∧ z ≤ 1000000000) {c : Nat} (hc : n + 26 ≤ c) :
    g__law_pair_b3 { nx := fun x w' => k D.non w', rt := k, ex := noX } [some .st, some (.str s), some (.int z), some (fD lf), some (fD kp), some (.lst (vs.map D.int)), none, none, none, none, none, none, none, none, none, none] ⟨M, some c⟩ := by
  obtain ⟨z2, z9⟩ := hz
  obtain ⟨v0, v1, v2, v3, v4, v5, v6, v7, rfl⟩ : ∃ a b c d e f g h, vs = [a, b, c, d, e, f, g, h] := by
    match vs, hl with
    | [a, b, c, d, e, f, g, h], _ => exact ⟨a, b, c, d, e, f, g, h, rfl⟩
  simp -implicitDefEqProofs only [g__law_pair_b3.eq_1, DL.sem0.eq_1, List.map_cons, List.map_nil, List.length_cons, List.length_nil, DL.gSeq.eq_1, DL.gNext.eq_1, DL.gRet.eq_1, DL.gRetN.eq_1, DL.gIfS.eq_1, DL.gSet.eq_1, DL.gPar.eq_1, DL.gAsg.eq_1, DL.gDrop.eq_1, DL.gVar.eq_1, DL.gC.eq_1, DL.gBin.eq_1, DL.gUn.eq_1, DL.gB.eq_1, DL.gTru.eq_1, DL.gAnd.eq_1, DL.gOr.eq_1, DL.gNot.eq_1, DL.gAndV.eq_1, DL.gOrV.eq_1, DL.gNotV.eq_1, DL.gIf.eq_1, DL.gChain.eq_1, DL.gaNil.eq_1, DL.gaCons.eq_1, DL.gTup.eq_1, DL.gLst.eq_1, DL.gCB.eq_1, DL.gCall0.eq_1, DL.gAug.eq_1, addD_i, addD_s, addD_l, addD_t, subD_i, mulD_i, mulD_l, fdivD_i, modD_i, powD_i, ltD_i, ltD_s, leD_i, gtD_i, geD_i, isD_n, isnotD_n, isNonD_non, isNonD_bl, isNonD_int, isNonD_str, isNonD_lst, isNonD_tup, negD_i, iaddD_i, truD_non, truD_bl, truD_int, truD_str, truD_lst, truD_tup, someK_some, ixD_l, ixD_t, fAbs_i, fInt_i, fInt_b, fMin2_i, fLen_l, fLen_t, fLen_s, fList_l, fList_t, fTuple_l, fTuple_t, optBK_some, fIsi_non, fIsi_bl, fIsi_int, fIsi_str, fIsi_lst, fIsi_tup, List.getElem?_cons_zero, List.getElem?_cons_succ, List.set_cons_zero, List.set_cons_succ, DL.ggName.eq_1, ggNil0, ggCons1, ggTup2, ggTup3, DL.gFor.eq_1, DL.giSeq.eq_1, DL.gLc.eq_1, DL.gYes.eq_1, DL.wipeR.eq_1, true_and, and_true, at_0, at_1, at_2, kit_int_int, kit_bool_int, kit_str_int, kit_non_int, kit_list_int, kit_tuple_int, kit_int_bool, kit_bool_bool, kit_str_bool, kit_non_bool, kit_list_bool, kit_tuple_bool, kit_int_str, kit_bool_str, kit_str_str, kit_non_str, kit_list_str, kit_tuple_str, kit_int_list, kit_bool_list, kit_str_list, kit_non_list, kit_list_list, kit_tuple_list, kit_int_tuple, kit_bool_tuple, kit_str_tuple, kit_non_tuple, kit_list_tuple, kit_tuple_tuple, eqD_i, neD_i, eqD_s, neD_s, eqD_f, neD_f, Nat.zero_add, Nat.reduceAdd, nc0, nc1, nc2, nc3, nc4, nc5, nc6, nc7, nc8, nc9, eq_self, decide_true, decide_false, Int.reduceEq, Int.reduceLT, Int.reduceLE, Int.reduceNeg, Bool.not_true, Bool.not_false, Bool.false_eq_true, if_true, if_false, ↓reduceIte, false_and, and_false, List.all_cons, List.all_nil, List.any_cons, List.any_nil, id_eq, Bool.and_true, Bool.true_and, Bool.or_false, Bool.false_or, Bool.and_false, Bool.false_and, DL.gCut.eq_1, eqD_b, neD_b, DL.giZip.eq_1, reduceCtorEq, Bool.true_eq_false, Bool.false_eq_true, DL.gRevL.eq_1, DL.gSl.eq_1, DL.goNone.eq_1, DL.goSome.eq_1, slD_l, ne_eq, not_false_eq_true, not_true_eq_false, DL.gBM.eq_1, isTy_l, isTy_s, new_at, new_set, isTy_new, cellK_new, append_new, popAt_new, gFrz_eq, frzK_new, fLen_new, fTuple_new, ixD_new, slA_l, slA_t, slA_new, addTD_t, addCD_l, mulCD_l, isbD_b, isnotbD_b, mSplitC_s, DL.gLstC.eq_1, DL.gTr.eq_1, DL.ggSub.eq_1, lstK_l, lstK_r, addLD_eq]
  refine frac_use (n + 23) rfl (by omega) ⟨by omega, by omega, by omega⟩ fun ex c5 e1 e2 e3 e4 hc5 => ?_
  refine frac_use (n + 20) rfl (by omega) ⟨by omega, by omega, by omega⟩ fun fx c6 g1 g2 g3 g4 hc6 => ?_
  simp! only [id_eq]
  refine ⟨by decide, ?_⟩
  simp! only [g__law_pair_b4]
  refine frac_use (n + 17) rfl (by omega) ⟨by omega, by omega, by omega⟩ fun ea c7 h1 h2 h3 h4 hc7 => ?_
  refine frac_use (n + 14) rfl (by omega) ⟨by omega, by omega, by omega⟩ fun la c8 l1 l2 l3 l4 hc8 => ?_
  have Ea := sm_of h1 h2 h3
  have La := sm_of l1 l2 l3
  have l4 := l4 rfl
  simp! only [g__law_pair_b5, sp__law_take]
  refine take_use (n + 13) rfl (by omega) ⟨by decide, log_of (by decide)⟩ fun t7 c9 t0 t1 hc9 => ?_
  have kp0 := Kp.1.pos
  have n7 : kp.2 * 7 ≠ 0 := by omega
  refine ⟨kp, t7, 7, rfl, ⟨kp0, by decide, Kp.lt.mono (by decide), Nat.lt_of_le_of_lt (show t7.natAbs ≤ 8 by omega) (by decide), by decide⟩, ?_⟩
  have ff := fr_norm (t := kp.1 * t7) n7
  have fe := norm_eq (t := kp.1 * t7) n7
  have fl : Lt2 120 (norm (kp.1 * t7) (kp.2 * 7)) := norm_lt n7 (nat_mono (wide_lt Kp.2.1 (show t7.natAbs < 2 ^ 4 from Nat.lt_of_le_of_lt (show t7.natAbs ≤ 8 by omega) (by decide))) (by decide)) (nat_mono (wide_lt (b := 3) Kp.2.2 (by decide)) (by decide))
  have fn : 0 ≤ (norm (kp.1 * t7) (kp.2 * 7)).1 := by
    have : 0 ≤ (norm (kp.1 * t7) (kp.2 * 7)).1 * (kp.2 * 7) := by
      rw [fe]
      exact Int.mul_nonneg (Int.mul_nonneg k4 t0) (Int.le_of_lt ff.pos)
    exact Int.nonneg_of_mul_nonneg_left this (by omega)
  have fle : (norm (kp.1 * t7) (kp.2 * 7)).1 * kp.2 ≤ kp.1 * (norm (kp.1 * t7) (kp.2 * 7)).2 := by
    have h1 : (norm (kp.1 * t7) (kp.2 * 7)).1 * kp.2 * 7 ≤ kp.1 * (norm (kp.1 * t7) (kp.2 * 7)).2 * 7 := by
      have e1 : (norm (kp.1 * t7) (kp.2 * 7)).1 * kp.2 * 7 = kp.1 * (norm (kp.1 * t7) (kp.2 * 7)).2 * t7 := by
        rw [Int.mul_assoc, fe]
        ac_rfl
      rw [e1]
      exact Int.mul_le_mul_of_nonneg_left (by omega) (Int.mul_nonneg k4 (Int.le_of_lt ff.pos))
    omega
  generalize norm (kp.1 * t7) (kp.2 * 7) = fq at ff fl fn fle ⊢
  have F2 : ∀ x ∈ [lf, kp], Sm x := by simp [L, Kp]
  have F3 : ∀ x ∈ [lf, kp, ea], Sm x := by simp [L, Kp, Ea]
  have NL : Fr (negQ la) := fr_neg La.1
  obtain ⟨A1, A2, A3⟩ := sm_sum F2 (by simp)
  obtain ⟨B1, B2, B3⟩ := sm_sum F3 (by simp)
  refine sum_use L.1.pos kp0 (L.lt.mono (by decide)) (Kp.lt.mono (by decide)) ?_
  refine sum_use A1.pos h1.pos (A2.mono (by decide)) (Ea.lt.mono (by decide)) ?_
  rw [snoc2 (fun x hx => (F2 x hx).1) h1]
  simp! only [ixD_f0, ixD_f1, ggTup_f, fIsi_f, fLen_f, eqD_ff, neD_ff]
  show 2 ≤ sizeLine ∧ sp__law_sum [fD (sumQ [lf, kp, ea]), fD (negQ la)] _ _ _
  refine ⟨by decide, sum_use B1.pos NL.pos (B2.mono (by decide)) ⟨by show (-la.1).natAbs < _; rw [Int.natAbs_neg]; exact nat_mono La.2.1 (by decide), nat_mono La.2.2 (by decide)⟩ ?_⟩
  rw [snoc2 (fun x hx => (F3 x hx).1) NL]
  exact pair_b7 (vs := [v0, v1, v2, v3, v4, v5, v6, v7]) hk hs hl hv L Kp k4 (sm_of e1 e2 e3) (sm_of g1 g2 g3) Ea La l4 ⟨ff, fl, fn, fle⟩ rfl (by omega)
theorem v__law_pair : ∀ ds w kx k, sp__law_pair ds w kx k → sem0 16 g__law_pair ds w kx k := by
  rintro ds w kx k ⟨s, c, n, rfl, ⟨hs, hn, hc⟩, hk⟩
  have e : rho 16 [D.st, D.str s] = [some .st, some (.str s), none, none, none, none, none, none, none, none, none, none, none, none, none, none] := rfl
  simp! only [g__law_pair, e, giRange1, sp__law_take]
  refine ⟨⟨by decide, by decide, by decide⟩, by decide, take_use (n + 48) hn (by omega) ⟨by decide, log_of (by decide)⟩ fun r0 c1 a0 a1 hc1 => ?_⟩
  refine ix_all (fun d => ∃ z : Int, d = .int z ∧ 2 ≤ z ∧ z ≤ 1000000000) a0 a1 (all_cons ⟨2, rfl, by decide, by decide⟩ (all_cons ⟨50, rfl, by decide, by decide⟩ (all_cons ⟨10 ^ 9, rfl, by decide, by decide⟩ all_nil))) ?_
  rintro d ⟨z, rfl, z2, z9⟩
  have sm : ∀ {q : Qp}, Fr q → q.1.natAbs < 2 ^ 53 → q.2 ≤ 1000000 → Sm q := fun {q} f h1 h2 => ⟨f, h1, by
    have := f.pos
    exact Nat.lt_of_le_of_lt (show q.2.natAbs ≤ 1000000 by omega) (by decide)⟩
  simp! only [id_eq]
  refine frac_use (n + 45) rfl (by omega) ⟨by omega, by omega, by omega⟩ fun lf c2 f1 f2 f3 f4 hc2 => ?_
  refine frac_use (n + 42) rfl (by omega) ⟨by omega, by omega, by omega⟩ fun kp c3 k1 k2 k3 k4 hc3 => ?_
  have L := sm f1 f2 f3
  have Kp := sm k1 k2 k3
  have k4 := k4 rfl
  simp! only [id_eq]
  refine ⟨⟨by decide, by decide⟩, fun rem acc w' => ∃ (vs : List Int) (c' : Nat), acc = vs.map D.int ∧ vs.length + rem.length = 8 ∧ (∀ v ∈ vs, 0 ≤ v ∧ v ≤ 2000000000) ∧ n + 26 + 2 * rem.length ≤ c' ∧ w' = ⟨w.M, some c'⟩, ⟨[], c3, rfl, by rw [range_len]; rfl, (fun _ h => nomatch h), by rw [range_len]; show n + 26 + 16 ≤ c3; omega, rfl⟩, ?_, ?_⟩
  · rintro acc w' ⟨vs, c4, rfl, hl, hv, hc4, rfl⟩
    have hl : vs.length = 8 := by simpa using hl
    have hc4 : n + 26 ≤ c4 := by simpa using hc4
    refine ⟨trivial, ?_⟩
    exact pair_b3 hk hs hl hv L Kp k4 ⟨z2, z9⟩ hc4
  · rintro x rem acc w' ⟨vs, c4, rfl, hl, hv, hc4, rfl⟩
    rw [List.length_cons] at hl hc4
    refine ⟨trivial, ?_⟩
    simp! only [id_eq]
    refine take_use (n + 26 + 2 * rem.length + 1) rfl (by omega) ⟨by decide, log_of (by decide)⟩ fun a c5 b0 b1 hc5 => take_use (n + 26 + 2 * rem.length) rfl (by omega) ⟨by omega, log_of (Nat.lt_of_le_of_lt (show z.natAbs ≤ 1000000000 by omega) (by decide))⟩ fun b c6 b2 b3 hc6 => ?_
    simp! only [id_eq]
    have p0 : 0 ≤ a * b := Int.mul_nonneg b0 b2
    have p1 : a * b ≤ 2 * 1000000000 := Int.mul_le_mul (by omega) (by omega) b2 (by omega)
    refine ⟨mulx_ok (a := 3) (b := 32) (by omega) (by omega) (by decide), lt_sl (by rw [List.length_map]; omega), vs ++ [a * b], c6, by simp, by simp; omega, fun v hv2 => ?_, hc6, rfl⟩
    rcases List.mem_append.mp hv2 with h | h
    · exact hv v h
    · rw [List.mem_singleton.mp h]
      omega
theorem ok__law_pair {P : Program} {w : World} {K : PySem.W.Frag} {mg : Str → Option Value} {base : Heap} (T : DefAt K mg "_law_pair" s__law_pair ["_law_state", "_law_name"]) (B : Blt mg) (F__law_times : FnAt P w K mg base CX0 2 "_law_times" 3 sp__law_times) (F__law_sum : FnAt P w K mg base CX0 1 "_law_sum" 2 sp__law_sum) (F__law_take : FnAt P w K mg base CX0 1 "_law_take" 2 sp__law_take) (F__law_fraction : FnAt P w K mg base CX0 2 "_law_fraction" 3 sp__law_fraction) : FnAt P w K mg base CX0 3 "_law_pair" 2 sp__law_pair := (w__law_pair T B F__law_times F__law_sum F__law_take F__law_fraction).imp v__law_pair


end LW

namespace LW
open PySem PySem.Spec PyProof.Rows L2 RZ DL
local macro_rules | `(tactic| simp! only [$xs,*] $[$loc]?) => `(tactic| simp only [$xs,*, sem0,List.map_cons,List.map_nil,List.length_cons,List.length_nil,gSeq,gNext,gRet,gRetN,gIfS,gSet,gPar,gAsg,gDrop,gVar,gC,gBin,gUn,gB,gTru,gAnd,gOr,gNot,gAndV,gOrV,gNotV,gIf,gChain,gaNil,gaCons,DL.gTup,DL.gLst,gCB,gCall0,gAug,addD_i,addD_s,addD_l,addD_t,subD_i,mulD_i,mulD_l,fdivD_i,modD_i,powD_i,ltD_i,ltD_s,leD_i,gtD_i,geD_i,isD_n,isnotD_n,isNonD_non,isNonD_bl,isNonD_int,isNonD_str,isNonD_lst,isNonD_tup,negD_i,iaddD_i,truD_non,truD_bl,truD_int,truD_str,truD_lst,truD_tup,someK_some,ixD_l,ixD_t,fAbs_i,fInt_i,fInt_b,fMin2_i,fLen_l,fLen_t,fLen_s,fList_l,fList_t,fTuple_l,fTuple_t,optBK_some,fIsi_non,fIsi_bl,fIsi_int,fIsi_str,fIsi_lst,fIsi_tup,List.getElem?_cons_zero,List.getElem?_cons_succ,List.set_cons_zero,List.set_cons_succ,DL.ggName,ggNil0,ggCons1,ggTup2,ggTup3,gFor,giSeq,gLc,gYes,wipeR,true_and,and_true,at_0,at_1,at_2,kit_int_int,kit_bool_int,kit_str_int,kit_non_int,kit_list_int,kit_tuple_int,kit_int_bool,kit_bool_bool,kit_str_bool,kit_non_bool,kit_list_bool,kit_tuple_bool,kit_int_str,kit_bool_str,kit_str_str,kit_non_str,kit_list_str,kit_tuple_str,kit_int_list,kit_bool_list,kit_str_list,kit_non_list,kit_list_list,kit_tuple_list,kit_int_tuple,kit_bool_tuple,kit_str_tuple,kit_non_tuple,kit_list_tuple,kit_tuple_tuple,eqD_i,neD_i,eqD_s,neD_s,eqD_f,neD_f,Nat.zero_add,Nat.reduceAdd,nc0,nc1,nc2,nc3,nc4,nc5,nc6,nc7,nc8,nc9,eq_self,decide_true,decide_false,Int.reduceEq,Int.reduceLT,Int.reduceLE,Int.reduceNeg,Bool.not_true,Bool.not_false,Bool.false_eq_true,if_true,if_false,↓reduceIte,false_and,and_false,List.all_cons,List.all_nil,List.any_cons,List.any_nil,id_eq,Bool.and_true,Bool.true_and,Bool.or_false,Bool.false_or,Bool.and_false,Bool.false_and,gCut,eqD_b,neD_b,giZip,reduceCtorEq,Bool.true_eq_false,Bool.false_eq_true,gRevL,gSl,goNone,goSome,slD_l,ne_eq,not_false_eq_true,not_true_eq_false,gBM,isTy_l,isTy_s,new_at,new_set,isTy_new,cellK_new,append_new,popAt_new,gFrz_eq,frzK_new,fLen_new,fTuple_new,ixD_new,slA_l,slA_t,slA_new,addTD_t,addCD_l,mulCD_l,isbD_b,isnotbD_b,mSplitC_s,gLstC,gTr,ggSub,lstK_l,lstK_r,addLD_eq] $[$loc]?)


theorem letter_ok {s : Str} (h : s.length = 1 ∧ ∀ c ∈ s.cps.toList, c ∈ small.cps.toList) : PyData.strOk s = true := by
  unfold PyData.strOk
  rw [Array.all_eq_true']
  intro c hc
  have q : ∀ c ∈ small.cps.toList, decide (c < 0x110000) = true := by decide +kernel
  exact q c (h.2 c (Array.mem_toList_iff.mpr hc))
def Letter (s : Str) : Prop := s.length = 1 ∧ ∀ c ∈ s.cps.toList, c ∈ small.cps.toList
theorem ix_letter {r : Int} {w : Wd} {k : KD} (h0 : 0 ≤ r) (h1 : r < 26) (hk : ∀ s : Str, Letter s → k (.str s) w) : ixD (.str "abcdefghijklmnopqrstuvwxyz") (.int r) w k := by
  show small.length ≤ sizeLine ∧ _
  refine ⟨by decide, ?_⟩
  have hl : small.cps.toList.length = 26 := by decide +kernel
  have e : atI small.cps.toList r = some (small.cps.toList[r.toNat]'(by omega)) := by
    have := atI_nat (List.getElem?_eq_getElem (l := small.cps.toList) (i := r.toNat) (by omega))
    rwa [Int.toNat_of_nonneg h0] at this
  show (match atI small.cps.toList r with | some c => k (.str ⟨#[c]⟩) w | none => False)
  rw [e]
  refine hk _ ⟨rfl, fun c hc => ?_⟩
  have : c = small.cps.toList[r.toNat]'(by omega) := by simpa using hc
  rw [this]
  exact List.getElem_mem _
theorem joinL_nil : ∀ xs : List (List Nat), TL.joinL [] xs = xs.flatten
  | [] => rfl
  | [p] => by simp [TL.joinL]
  | p :: q :: r => by
    rw [TL.joinL, joinL_nil (q :: r)]
    rfl
theorem join_word {ss : List Str} (h : ∀ s ∈ ss, Letter s) : (Txt.join "" ss).length = ss.length ∧ ∀ c ∈ (Txt.join "" ss).cps.toList, c ∈ small.cps.toList := by
  have e : (Txt.join "" ss).cps.toList = (ss.map fun s => s.cps.toList).flatten := by
    rw [TL.join_eq]
    have := TL.tl_join "" ss
    have z : TL.tl "" = [] := rfl
    rw [z, joinL_nil] at this
    exact this
  have l : (Txt.join "" ss).length = (Txt.join "" ss).cps.toList.length := Array.length_toList.symm
  rw [l, e]
  clear l e
  induction ss with
  | nil => exact ⟨rfl, fun c hc => nomatch hc⟩
  | cons s ss ih =>
    obtain ⟨i1, i2⟩ := ih fun x hx => h x (List.mem_cons_of_mem _ hx)
    obtain ⟨h1, h2⟩ := h s List.mem_cons_self
    have h3 : s.cps.toList.length = 1 := by rw [Array.length_toList]; exact h1
    rw [List.map_cons, List.flatten_cons]
    refine ⟨by rw [List.length_append, i1, h3, List.length_cons]; omega, fun c hc => ?_⟩
    rcases List.mem_append.mp hc with hc | hc
    · exact h2 c hc
    · exact i2 c hc
theorem word_name {s : Str} (h1 : 1 ≤ s.length) (h2 : s.length ≤ 8) (h : ∀ c ∈ s.cps.toList, c ∈ small.cps.toList) : nameB (.str s) = true := by
  have hN : nameB (.str s) = (decide (1 ≤ s.length) && decide (s.length ≤ 8) && s.cps.toList.all fun c => decide (c ∈ small.cps.toList)) := rfl
  rw [hN, decide_eq_true h1, decide_eq_true h2, List.all_eq_true.mpr fun c hc => decide_eq_true (h c hc)]
  rfl
theorem len_app (a b : Str) : (a ++ b).length = a.length + b.length := by
  show (a.cps ++ b.cps).size = a.cps.size + b.cps.size
  exact Array.size_append
def keysD (ss : List Str) : List (Key × D) := ss.map fun s => (Sum.inr s, D.bl true)
theorem keys_val (ss : List Str) (s : Str) : (valD (keysD ss) (Sum.inr s)).isSome = decide (s ∈ ss) := by
  unfold valD keysD
  rw [Bool.eq_iff_iff, decide_eq_true_eq, Option.isSome_map, List.find?_isSome]
  constructor
  · rintro ⟨x, hx, e⟩
    obtain ⟨t, ht, rfl⟩ := List.mem_map.mp hx
    have : t = s := by simpa using e
    exact this ▸ ht
  · intro h
    exact ⟨_, List.mem_map.mpr ⟨s, h, rfl⟩, by simp⟩
theorem keys_put (ss : List Str) (s : Str) : putD (keysD ss) (Sum.inr s) (.bl true) = keysD (if s ∈ ss then ss else ss ++ [s]) := by
  have e : ((keysD ss).any fun kv => decide (kv.1 = (Sum.inr s : Key))) = decide (s ∈ ss) := by
    unfold keysD
    rw [Bool.eq_iff_iff, decide_eq_true_eq, List.any_eq_true]
    constructor
    · rintro ⟨x, hx, e⟩
      obtain ⟨t, ht, rfl⟩ := List.mem_map.mp hx
      have : t = s := by simpa using e
      exact this ▸ ht
    · intro h
      exact ⟨_, List.mem_map.mpr ⟨s, h, rfl⟩, by simp⟩
  unfold putD
  rw [e]
  by_cases h : s ∈ ss
  · rw [if_pos (decide_eq_true h), if_pos h]
    unfold keysD
    rw [List.map_map]
    refine List.map_congr_left fun t ht => ?_
    show (if (Sum.inr t : Key) = Sum.inr s then ((Sum.inr t : Key), D.bl true) else (Sum.inr t, D.bl true)) = _
    split <;> rfl
  · rw [if_neg (by rw [decide_eq_true_eq]; exact h), if_neg h]
    unfold keysD
    rw [List.map_append]
    rfl
theorem nameB_ok {s : Str} (h : nameB (.str s) = true) : PyData.strOk s = true ∧ 1 ≤ s.length ∧ s.length ≤ 8 := by
  have hN : nameB (.str s) = (decide (1 ≤ s.length) && decide (s.length ≤ 8) && s.cps.toList.all fun c => decide (c ∈ small.cps.toList)) := rfl
  rw [hN, Bool.and_eq_true, Bool.and_eq_true, decide_eq_true_eq, decide_eq_true_eq, List.all_eq_true] at h
  refine ⟨?_, h.1.1, h.1.2⟩
  unfold PyData.strOk
  rw [Array.all_eq_true']
  intro c hc
  have := of_decide_eq_true (h.2 c (Array.mem_toList_iff.mpr hc))
  have q : ∀ c ∈ small.cps.toList, decide (c < 0x110000) = true := by decide +kernel
  exact q c this
def NInv (w : Wd) (m : Int) (n : Nat) (rem : List D) (ρ : Rho) (w' : Wd) : Prop := ∃ (ss : List Str) (c' : Nat) (s4 s5 : Option D), (∀ z ∈ rem, ∃ i : Nat, z = .int (i : Int) ∧ i < 26) ∧ ss.length + rem.length ≤ m.toNat ∧ ss.Nodup ∧ (∀ s ∈ ss, nameB (.str s) = true) ∧ n + 9 * rem.length ≤ c' ∧ w' = ⟨w.M ++ [.dk (keysD ss)], some c'⟩ ∧
    ρ = [some .st, some (.int m), some (.str "abcdefghijklmnopqrstuvwxyz"), some (.rf w.M.length), s4, s5, none]
theorem letters_sum : ∀ {ls : List Str}, (∀ s ∈ ls, Letter s) → (ls.map (·.length)).sum = ls.length
  | [], _ => rfl
  | a :: ls, h => by
    rw [List.map_cons, List.sum_cons, letters_sum fun x hx => h x (List.mem_cons_of_mem _ hx), (h a List.mem_cons_self).1, List.length_cons]
    omega
def sp__law_names : GF := fun ds w _ k => ∃ (m : Int) (c n : Nat), ds = [.st, .int m] ∧ (0 ≤ m ∧ m ≤ 6 ∧ w.n = some c ∧ n + 60 ≤ c) ∧ ∀ (ss : List Str) c', (ss.length : Int) ≤ m → upB ss = true → (∀ s ∈ ss, nameB (.str s) = true) → n ≤ c' → k (.lst (ss.map D.str)) ⟨w.M, some c'⟩
abbrev s__law_names : Stmt := topS 26
theorem sc__law_names : FnScope ["_law_state", "_law_many", "_law_letters", "_law_found", "_law_k", "_law_word", "_law_turn"] ["_law_state", "_law_many"] (defScope s__law_names) := ⟨rfl, rfl, rfl, by decide +kernel, rfl, by decide +kernel, by decide +kernel⟩
def g__law_names : GS := (gSeq (gSet 2 (gC (.str "abcdefghijklmnopqrstuvwxyz")))
  (gSeq (gSet 3 gDNew)
  (gSeq (gFor (giRange1 (gaCons (gVar 1) gaNil)) (ggName 4) (gSeq (gSet 5 (gJoin "" (gLc (giRange1 (gaCons (gBin addD (gC (.int 1)) (gCall0 2 sp__law_take (gaCons (gVar 0) (gaCons (gC (.int 7)) gaNil)))) gaNil)) (ggName 6) gYes (gBin ixD (gVar 2) (gCall0 2 sp__law_take (gaCons (gVar 0) (gaCons (gC (.int 26)) gaNil)))) [6])))
  (gAsg (gC (.bl true)) (ggDPut (gVar 3) (gIf (gB (gBin notinCD (gVar 5) (gVar 3))) (gVar 5) (gBin addD (gVar 5) (gBin ixD (gVar 2) (gVar 4))))))))
  (gRet (gSortKeys (gVar 3))))))
theorem w__law_names {P : Program} {w : World} {K : PySem.W.Frag} {mg : Str → Option Value} {base : Heap} (T : DefAt K mg "_law_names" s__law_names ["_law_state", "_law_many"]) (B : Blt mg) (F__law_take : FnAt P w K mg base CX0 1 "_law_take" 2 sp__law_take) : FnAt P w K mg base CX0 2 "_law_names" 2 (sem0 7 g__law_names) := by
  have nd := sc__law_names.nd
  exact T.fn0 sc__law_names (fun f cdv A outer s H E hr => (dss_cons (ds_set (i := 2) nd rfl (by first | exact Or.inl rfl | exact Or.inr rfl) de_str)
  (dss_cons (ds_set (i := 3) nd rfl (by first | exact Or.inl rfl | exact Or.inr rfl) de_dnew)
  (dss_cons (ds_for PassesOwn.never rfl (di_range1 B (by rfl) (da_cons (de_var 1) da_nil)) (dg_name (i := 4) nd rfl (by first | exact Or.inl rfl | exact Or.inr rfl)) (dss_cons (ds_set (i := 5) nd rfl (by first | exact Or.inl rfl | exact Or.inr rfl) (de_join (de_lc (own := [("_law_turn", 6)]) (us := [6]) rfl nd (di_range1 B (by rfl) (da_cons (de_add de_int (de_call0 F__law_take hr (by rfl) (da_cons (de_var 0) (da_cons de_int da_nil)))) da_nil)) (blkOk_by (N := ["_law_state", "_law_many", "_law_letters", "_law_found", "_law_k", "_law_word", "_law_turn"]) (sc := defScope s__law_names) (by decide +kernel)) (by decide) (fun _ _ _ _ _ => (dg_name (i := 6) nd rfl (by first | exact Or.inl rfl | exact Or.inr rfl))) (fun _ _ _ _ _ => dts_nil) (fun _ _ _ _ _ => (de_ix (de_var 2) (de_call0 F__law_take hr (by rfl) (da_cons (de_var 0) (da_cons de_int da_nil))))))))
  (dss_one (ds_asg de_bl (dg_dput (E := E0) (hu_of hr) (de_var 3) (de_ifExp (dt_notinC hr (de_var 5) (de_var 3)) (de_var 5) (de_add (de_var 5) (de_ix (de_var 2) (de_var 4)))))))))
  (dss_one (ds_ret (de_sortKeys B rfl (by rfl) (de_var 3))))))))

theorem v__law_names : ∀ ds w kx k, sp__law_names ds w kx k → gTr (sem0 7 g__law_names) ds w kx k := by
  rintro ds w kx k ⟨m, c, n, rfl, ⟨hm0, hm, hn, hc⟩, hk⟩
  have e : rho 7 [D.st, D.int m] = [some .st, some (.int m), none, none, none, none, none] := rfl
  simp! only [g__law_names, e, giRange1, gDNew, sp__law_take]
  refine ⟨⟨by omega, by omega⟩, NInv w m n, ⟨[], c, none, none, fun z hz => ?_, ?_, List.nodup_nil, (fun _ h => nomatch h), ?_, ?_, rfl⟩, ?_, ?_⟩
  · obtain ⟨i, hi, rfl⟩ := List.mem_map.mp hz
    rw [List.mem_range] at hi
    exact ⟨i, rfl, by omega⟩
  · rw [range_len]
    exact Nat.le_of_eq (Nat.zero_add _)
  · rw [range_len]
    omega
  · rw [hn]
    rfl
  · rintro ρ w' ⟨ss, c', s4, s5, _, h2, h3, h4, h5, rfl, rfl⟩
    refine ⟨trivial, ?_⟩
    have h2 : ss.length ≤ m.toNat := by simpa using h2
    simp! only [gSortKeys, rfK, dkK, new_at]
    refine ⟨ss, by unfold keysD; rw [List.map_map]; rfl, by omega, fun ys p hs => ⟨⟨_, rfl⟩, lows_of fun x hx => ?_, ?_⟩⟩
    · obtain ⟨s, _, rfl⟩ := List.mem_map.mp hx
      rfl
    · refine hk ys c' (by have := p.length_eq; omega) ?_ (fun s hs => h4 s (p.mem_iff.mp hs)) (by simpa using h5)
      exact upB_of ((List.Pairwise.and (sorted_pw hs) (p.nodup_iff.mpr h3)).imp fun {a b} h => leS_ltS h.1 h.2)
  · rintro x rem ρ w' ⟨ss, c', s4, s5, h1, h2, h3, h4, h5, rfl, rfl⟩
    rw [List.length_cons] at h2 h5
    obtain ⟨i, rfl, hi⟩ := h1 x List.mem_cons_self
    refine ⟨trivial, ?_⟩
    simp! only [gJoin, giRange1]
    refine take_use (n + 9 * rem.length + 8) rfl (by omega) ⟨by decide, log_of (by decide)⟩ fun r c2 r0 r1 hc2 => ?_
    simp! only [id_eq]
    refine ⟨⟨by omega, by omega⟩, fun rem2 acc w2 => ∃ (ls : List Str) (c3 : Nat), acc = ls.map D.str ∧ ls.length + rem2.length = (1 + r).toNat ∧ (∀ s ∈ ls, Letter s) ∧ n + 9 * rem.length + rem2.length ≤ c3 ∧ w2 = ⟨w.M ++ [.dk (keysD ss)], some c3⟩, ⟨[], c2, rfl, by rw [range_len]; exact Nat.zero_add _, (fun _ h => nomatch h), by rw [range_len]; omega, rfl⟩, ?_, ?_⟩
    · rintro acc w2 ⟨ls, c3, rfl, hl, hL, hc3, rfl⟩
      have hl : ls.length = (1 + r).toNat := by simpa using hl
      have hc3 : n + 9 * rem.length ≤ c3 := by simpa using hc3
      obtain ⟨j1, j2⟩ := join_word hL
      refine ⟨trivial, ls, .inl rfl, ?_, ?_⟩
      · rw [letters_sum hL]
        show ls.length + ls.length * 0 ≤ _
        omega
      · generalize Txt.join "" ls = word at j1 j2
        have inn : ∀ (K : Bool → Prop), K (decide (word ∈ ss)) → inC (.str word) (.rf w.M.length) ⟨w.M ++ [.dk (keysD ss)], some c3⟩ K := fun K h => by
          unfold inC
          simp only [new_at]
          show K (valD (keysD ss) (Sum.inr word)).isSome
          rw [keys_val]
          exact h
        have fin : ∀ (q : Str) , nameB (.str q) = true → (keysD ss).length < sizeLine ∧ NInv w m n rem [some .st, some (.int m), some (.str "abcdefghijklmnopqrstuvwxyz"), some (.rf w.M.length), some (.int (i : Int)), some (.str word), none] ⟨(w.M ++ [Cell.dk (keysD ss)]).set w.M.length (Cell.dk (putD (keysD ss) (Sum.inr q) (.bl true))), some c3⟩ := fun q hq => by
          refine ⟨lt_sl (by unfold keysD; rw [List.length_map]; omega), if q ∈ ss then ss else ss ++ [q], c3, _, _, fun z hz => h1 z (List.mem_cons_of_mem _ hz), ?_, ?_, ?_, hc3, by rw [new_set, keys_put], rfl⟩
          · split
            · omega
            · rw [List.length_append]
              show ss.length + 1 + rem.length ≤ m.toNat
              omega
          · split
            · exact h3
            · rename_i hn
              exact List.nodup_append.mpr ⟨h3, by simp, fun a ha b hb => by rw [List.mem_singleton.mp hb]; exact fun z => hn (z ▸ ha)⟩
          · split
            · exact h4
            · intro s hs
              rcases List.mem_append.mp hs with hs | hs
              · exact h4 s hs
              · rw [List.mem_singleton.mp hs]
                exact hq
        simp! only [ggDPut, gIf, notinCD]
        have dk : ∀ (F : List (Key × D) → Prop), F (keysD ss) → dkK w.M.length ⟨w.M ++ [Cell.dk (keysD ss)], some c3⟩ F := fun F h => by
          unfold dkK
          simp only [new_at]
          exact h
        refine inn _ ?_
        refine ite2 (fun _ => ?_) (fun _ => ?_)
        · show dkK w.M.length _ _
          exact dk _ (fin word (word_name (by omega) (by omega) j2))
        · refine ix_letter (by omega) (by omega) fun t ht => ?_
          have l1 : word.length + t.length ≤ 8 := by rw [ht.1]; omega
          refine ⟨le_sl (by omega), ?_⟩
          show dkK w.M.length _ _
          refine dk _ (fin (word ++ t) (word_name (by rw [len_app]; omega) (by rw [len_app]; omega) fun c hc => ?_))
          have e2 : (word ++ t).cps.toList = word.cps.toList ++ t.cps.toList := by
            show (word.cps ++ t.cps).toList = _
            exact Array.toList_append
          rw [e2] at hc
          rcases List.mem_append.mp hc with hc | hc
          · exact j2 c hc
          · exact ht.2 c hc
    · rintro y rem2 acc w2 ⟨ls, c3, rfl, hl, hL, hc3, rfl⟩
      rw [List.length_cons] at hl hc3
      refine ⟨trivial, ?_⟩
      simp! only [id_eq]
      refine take_use (n + 9 * rem.length + rem2.length) rfl (by omega) ⟨by decide, log_of (by decide)⟩ fun r2 c4 u0 u1 hc4 => ?_
      refine ix_letter u0 u1 fun s hs => ?_
      refine ⟨lt_sl (by rw [List.length_map]; omega), ls ++ [s], c4, by simp, by simp; omega, fun t ht => ?_, hc4, rfl⟩
      rcases List.mem_append.mp ht with ht | ht
      · exact hL t ht
      · rw [List.mem_singleton.mp ht]
        exact hs
theorem ok__law_names {P : Program} {w : World} {K : PySem.W.Frag} {mg : Str → Option Value} {base : Heap} (T : DefAt K mg "_law_names" s__law_names ["_law_state", "_law_many"]) (B : Blt mg) (F__law_take : FnAt P w K mg base CX0 1 "_law_take" 2 sp__law_take) : FnAt P w K mg base CX0 2 "_law_names" 2 sp__law_names := (w__law_names T B F__law_take).trunc.imp v__law_names


end LW

namespace LW
open PySem PySem.Spec PyProof.Rows L2 RZ DL


def stL (s : St) : List D := [.str s.nm, fD s.ea, fD s.fr, .int s.wo, .int s.pa, fD s.op, fD s.ke, .int s.wr, .int s.ad]
theorem at_all {xs : List D} {r : Int} {f : D → Prop} (Q : D → Prop) (h0 : 0 ≤ r) (h1 : r < xs.length) (hP : ∀ x ∈ xs, Q x) (hk : ∀ x, Q x → f x) : someK (atI xs r) f := by
  have hl : r.toNat < xs.length := by omega
  have e : atI xs r = some (xs[r.toNat]) := by
    have := atI_nat (List.getElem?_eq_getElem hl)
    rwa [Int.toNat_of_nonneg h0] at this
  rw [e]
  exact hk _ (hP _ (List.getElem_mem hl))
def FI (d : D) : Prop := (∃ q : Qp, d = fD q ∧ 0 < q.2 ∧ Lt2 130 q) ∨ ∃ i : Int, d = .int i ∧ i.natAbs < 2 ^ 130
theorem fi_it {d : D} (h : FI d) : ItF d := by
  rcases h with ⟨q, rfl, _, l⟩ | ⟨i, rfl, l⟩
  · exact it_pair (nat_mono l.1 (by decide)) (nat_mono l.2 (by decide))
  · exact it_int (nat_mono l (by decide))
theorem fi_rest {s : St} (h : StB s) : ∀ d ∈ (stL s).drop 1, FI d := by
  intro d hd
  have f : ∀ {q : Qp}, Fr q → Lt2 130 q → FI (fD q) := fun h l => .inl ⟨_, rfl, h.pos, l⟩
  have g : ∀ {i : Int}, i.natAbs < 2 ^ 130 → FI (.int i) := fun h => .inr ⟨_, rfl, h⟩
  simp only [stL, List.drop_succ_cons, List.drop_zero, List.mem_cons, List.not_mem_nil, or_false] at hd
  rcases hd with rfl | rfl | rfl | rfl | rfl | rfl | rfl | rfl
  · exact f h.ok.ea.1 h.ea
  · exact f h.ok.fr.1 h.fr
  · exact g h.wo
  · exact g h.pa
  · exact f h.ok.op.1 h.op
  · exact f h.ok.ke.1 h.ke
  · exact g h.wr
  · exact g h.ad
theorem it_stL {s : St} (h : StB s) : ∀ d ∈ stL s, ItF d := by
  obtain ⟨n1, n2, n3⟩ := nameB_ok h.ok.nm
  intro d hd
  unfold stL at hd
  rcases List.mem_cons.mp hd with rfl | hd
  · exact it_str (by rw [n1, decide_eq_true (show s.nm.length ≤ 100 by omega)]; rfl)
  · exact fi_it (fi_rest h d hd)
theorem at_place {s : St} (h : StB s) {p : Int} (h1 : 1 ≤ p) (h2 : p < 9) {f : D → Prop} (hk : ∀ d, FI d → f d) : someK (atI (stL s) p) f := by
  have hl : p.toNat < (stL s).length := by show p.toNat < 9; omega
  have e : atI (stL s) p = some ((stL s)[p.toNat]) := by
    have := atI_nat (List.getElem?_eq_getElem hl)
    rwa [Int.toNat_of_nonneg (by omega)] at this
  rw [e]
  refine hk _ (fi_rest h _ ?_)
  have e2 : (stL s)[p.toNat] = ((stL s).drop 1)[p.toNat - 1]'(by rw [List.length_drop]; omega) := by
    rw [List.getElem_drop]
    congr 1
    omega
  rw [e2]
  exact List.getElem_mem _
theorem at_pl {s : St} (h : StB s) {p : Int} (h1 : 1 ≤ p) (h2 : p < 9) : ∃ d, FI d ∧ atI (stL s) p = some d := by
  refine at_place (f := fun d => ∃ d', FI d' ∧ some d = some d') h h1 h2 (fun d hd => ⟨d, hd, rfl⟩) |> fun q => ?_
  cases e : atI (stL s) p with
  | none => rw [e] at q; exact q.elim
  | some d =>
    rw [e] at q
    obtain ⟨d', h, e2⟩ := q
    exact ⟨d', h, e2⟩
structure RowsB (xs : List D) : Prop where
  st : ∀ x ∈ xs, ∃ s, x = stD s ∧ StB s
  ne : 0 < xs.length
  le : xs.length ≤ 6
theorem row_st {s : St} (h : StB s) : RowF (stD s) := row_tup (it_stL h) (by show 9 ≤ 12; decide)
theorem RowsB.row {xs : List D} (h : RowsB xs) : ∀ x ∈ xs, RowF x := fun x hx => by
  obtain ⟨s, rfl, hs⟩ := h.st x hx
  exact row_st hs
theorem cut_mem {α : Type} {xs : List α} {lo hi : Option Int} {x : α} (h : x ∈ DL.cutD xs lo hi) : x ∈ xs := List.mem_of_mem_drop (List.mem_of_mem_take h)
theorem cut_to {α : Type} {xs : List α} {i : Int} (h0 : 0 ≤ i) (h1 : i ≤ xs.length) : DL.cutD xs none (some i) = xs.take i.toNat := by
  unfold DL.cutD
  obtain ⟨j, rfl⟩ := Int.eq_ofNat_of_zero_le h0
  rw [HT.sIx_none, HT.sIx_nat, List.drop_zero, Nat.sub_zero, Nat.min_eq_left (by omega)]
  rfl
theorem cut_fr {α : Type} {xs : List α} {i : Int} (h0 : 0 ≤ i) : DL.cutD xs (some i) none = xs.drop i.toNat := by
  unfold DL.cutD
  obtain ⟨j, rfl⟩ := Int.eq_ofNat_of_zero_le h0
  rw [HT.sIx_none, HT.sIx_nat]
  show (xs.drop (min j xs.length)).take _ = xs.drop j
  by_cases h : j ≤ xs.length
  · rw [Nat.min_eq_left h, List.take_of_length_le (by rw [List.length_drop]; exact Nat.le_refl _)]
  · rw [Nat.min_eq_right (by omega), List.drop_of_length_le (Nat.le_refl _), List.take_nil, List.drop_of_length_le (by omega)]
theorem pf_low {m : Nat} : ∀ {n : Nat} {d : D}, PF n d = true → low m d = true
  | 0, d, h => by cases d <;> (unfold PF at h; cases h)
  | n + 1, d, h => by
    cases d with
    | lst xs =>
      rw [PF, Bool.and_eq_true, List.all_eq_true] at h
      exact lows_of fun x hx => pf_low (h.1 x hx)
    | tup xs =>
      rw [PF, Bool.and_eq_true, List.all_eq_true] at h
      exact lows_of fun x hx => pf_low (h.1 x hx)
    | rf i => unfold PF at h; cases h
    | _ => rfl
theorem rows_low {m : Nat} {ys : List D} (h : ∀ y ∈ ys, RowF y) : low m (.lst ys) = true := lows_of fun y hy => pf_low (h y hy).1
theorem cellK_at {M : List Cell} {i : Nat} {n : Option Nat} {xs : List D} {f : List D → Prop} (h : M[i]? = some (.lst xs)) : cellK i ⟨M, n⟩ f = f xs := by
  unfold cellK
  simp [h]
theorem fTuple_at {M : List Cell} {i : Nat} {n : Option Nat} {xs : List D} {k : KD} (h : M[i]? = some (.lst xs)) : fTuple [.rf i] ⟨M, n⟩ k = k (.tup xs) ⟨M, n⟩ := by
  simp [fTuple, seqD, h]
theorem slA_at {M : List Cell} {i : Nat} {n : Option Nat} {xs : List D} {lo hi : Option Int} {k : KD} (h : M[i]? = some (.lst xs)) : slA (.rf i) lo hi ⟨M, n⟩ k = k (.lst (DL.cutD xs lo hi)) ⟨M, n⟩ := by
  unfold slA
  exact cellK_at h
theorem ixD_at {M : List Cell} {i : Nat} {n : Option Nat} {xs : List D} {k : KD} {j : Int} (h : M[i]? = some (.lst xs)) : ixD (.rf i) (.int j) ⟨M, n⟩ k = someK (atI xs j) (fun d => k d ⟨M, n⟩) := by
  simp [ixD, seqD, h]
  rfl
theorem set_mem {xs : List D} {j : Nat} {d : D} {P : D → Prop} (h : ∀ x ∈ xs, P x) (hd : P d) : ∀ x ∈ xs.set j d, P x := fun x hx => by
  rcases List.mem_or_eq_of_mem_set hx with q | q
  · exact h x q
  · rw [q]
    exact hd
def OInv (w : Wd) (n : Nat) (xs : List D) (a p : Int) (ρ : Rho) (w' : Wd) : Prop := ∃ (R : List Cell) (c' j : Nat) (row : List D) (s4 s6 s7 s8 s9 s10 : Option D), w' = ⟨w.M ++ R, some c'⟩ ∧ n ≤ c' ∧ (w.M ++ R)[j]? = some (.lst row) ∧ (∀ x ∈ row, ItF x) ∧ row.length ≤ 12 ∧
  ρ = [some .st, some (.lst xs), some (.int a), some (.int p), s4, some (.rf j), s6, s7, s8, s9, s10]
theorem oinv {w w' : Wd} {n : Nat} {xs row : List D} {a p : Int} {C : List Cell} {c' j : Nat} {s4 s6 s7 s8 s9 s10 : Option D} (e1 : w'.M = w.M ++ C) (e2 : w'.n = some c') (h1 : n ≤ c') (h2 : w'.M[j]? = some (.lst row)) (h3 : ∀ x ∈ row, ItF x) (h4 : row.length ≤ 12) : OInv w n xs a p [some .st, some (.lst xs), some (.int a), some (.int p), s4, some (.rf j), s6, s7, s8, s9, s10] w' := by
  obtain ⟨M', n'⟩ := w'
  obtain rfl : M' = w.M ++ C := e1
  obtain rfl : n' = some c' := e2
  exact ⟨C, c', j, row, s4, s6, s7, s8, s9, s10, rfl, h1, h2, h3, h4, rfl⟩
theorem it_bl {b : Bool} : ItF (.bl b) := ⟨rfl, by show 1 ≤ 4; decide⟩
theorem it_non : ItF .non := ⟨rfl, by show 1 ≤ 4; decide⟩
def sp__law_one_bent : GF := fun ds w _ k => ∃ (xs : List D) (c n : Nat), ds = [.st, .lst xs] ∧ (RowsB xs ∧ w.n = some c ∧ n + 5 ≤ c) ∧ ∀ (ys : List D) c', LF ys → n ≤ c' → k (.lst ys) ⟨w.M, some c'⟩
abbrev s__law_one_bent : Stmt := topS 32
theorem sc__law_one_bent : FnScope ["_law_state", "_law_some", "_law_at", "_law_place", "_law_way", "_law_row", "_law_more", "_law_kept", "_law_top", "_law_below", "_law_bent"] ["_law_state", "_law_some"] (defScope s__law_one_bent) := ⟨rfl, rfl, rfl, by decide +kernel, rfl, by decide +kernel, by decide +kernel⟩
def g__law_one_bent : GS := (gSeq (gPar3 2 3 4 (gaCons (gCall0 2 sp__law_take (gaCons (gVar 0) (gaCons (gCB fLen (gaCons (gVar 1) gaNil)) gaNil))) (gaCons (gBin addD (gC (.int 1)) (gCall0 2 sp__law_take (gaCons (gVar 0) (gaCons (gC (.int 8)) gaNil)))) (gaCons (gCall0 2 sp__law_take (gaCons (gVar 0) (gaCons (gC (.int 5)) gaNil))) gaNil))))
  (gSeq (gPar 5 6 (gaCons (gCB fListC (gaCons (gBin ixD (gVar 1) (gVar 2)) gaNil)) (gaCons (gBin subD (gC (.int 1)) (gBin mulD (gC (.int 2)) (gCall0 2 sp__law_take (gaCons (gVar 0) (gaCons (gC (.int 2)) gaNil))))) gaNil)))
  (gCut (gIfS (gB (gBin eqD (gVar 4) (gC (.int 4)))) (gSeq (gSet 7 (gBin mulD (gSl slA (gVar 5) (goSome (gVar 3)) (goSome (gBin addD (gVar 3) (gC (.int 1))))) (gBin subD (gC (.int 1)) (gVar 6))))
  (gSet 5 (gBin addCD (gBin addD (gSl slA (gVar 5) goNone (goSome (gVar 3))) (gVar 7)) (gSl slA (gVar 5) (goSome (gBin addD (gVar 3) (gC (.int 1)))) goNone)))) (gIfS (gTru (gCB fIsi (gaCons (gBin ixD (gVar 5) (gVar 3)) (gaCons (gC (.ob (.ty "tuple"))) gaNil)))) (gSeq (gAsg (gBin ixD (gVar 5) (gVar 3)) (ggTup 2 (ggCons (ggName 8) (ggCons (ggName 9) ggNil))))
  (gSeq (gSet 10 (DL.gLst (gaCons (gTup (gaCons (gBin addD (gVar 8) (gVar 6)) (gaCons (gVar 9) gaNil))) (gaCons (gTup (gaCons (gVar 8) (gaCons (gBin addD (gVar 9) (gVar 6)) gaNil))) (gaCons (gTup (gaCons (gBin mulD (gVar 8) (gC (.int 2))) (gaCons (gBin mulD (gVar 9) (gC (.int 2))) gaNil))) (gaCons (gCall0 2 sp__law_sum (gaCons (gTup (gaCons (gVar 8) (gaCons (gVar 9) gaNil))) (gaCons (gTup (gaCons (gVar 6) (gaCons (gC (.int 1)) gaNil))) gaNil))) gaNil))))))
  (gAsg (gBin ixD (gVar 10) (gVar 4)) (ggSub (gVar 5) (gVar 3))))) (gAsg (gBin ixD (DL.gLst (gaCons (gBin addD (gBin ixD (gVar 5) (gVar 3)) (gVar 6)) (gaCons (gBin addD (gBin ixD (gVar 5) (gVar 3)) (gVar 6)) (gaCons (gC (.bl true)) (gaCons (gC .non) gaNil))))) (gVar 4)) (ggSub (gVar 5) (gVar 3)))))
  (gRet (gBin addD (gBin addD (gSl slA (gVar 1) goNone (goSome (gVar 2))) (DL.gLst (gaCons (gCB fTuple (gaCons (gVar 5) gaNil)) gaNil))) (gSl slA (gVar 1) (goSome (gBin addD (gVar 2) (gC (.int 1)))) goNone))))))
theorem w__law_one_bent {P : Program} {w : World} {K : PySem.W.Frag} {mg : Str → Option Value} {base : Heap} (T : DefAt K mg "_law_one_bent" s__law_one_bent ["_law_state", "_law_some"]) (B : Blt mg) (F__law_take : FnAt P w K mg base CX0 1 "_law_take" 2 sp__law_take) (F__law_sum : FnAt P w K mg base CX0 1 "_law_sum" 2 sp__law_sum) : FnAt P w K mg base CX0 2 "_law_one_bent" 2 (sem0 11 g__law_one_bent) := by
  have nd := sc__law_one_bent.nd
  exact T.fn0 sc__law_one_bent (fun f cdv A outer s H E hr => (dss_cons (ds_par3 (i := 2) (j := 3) (l := 4) rfl nd rfl rfl rfl (by decide) (by decide) (by decide) rfl rfl rfl (da_cons (de_call0 F__law_take hr (by rfl) (da_cons (de_var 0) (da_cons (de_len B (by rfl) (da_cons (de_var 1) da_nil)) da_nil))) (da_cons (de_add de_int (de_call0 F__law_take hr (by rfl) (da_cons (de_var 0) (da_cons de_int da_nil)))) (da_cons (de_call0 F__law_take hr (by rfl) (da_cons (de_var 0) (da_cons de_int da_nil))) da_nil))) (by rfl))
  (dss_cons (ds_par (i := 5) (j := 6) rfl nd rfl rfl (by decide) rfl rfl (da_cons (de_listC B (by rfl) (da_cons (de_ix (de_var 1) (de_var 2)) da_nil)) (da_cons (de_sub de_int (de_mul de_int (de_call0 F__law_take hr (by rfl) (da_cons (de_var 0) (da_cons de_int da_nil))))) da_nil)) (by rfl))
  (dss_cut (ds_if (dt_eq hr (de_var 4) de_int) (dss_cons (ds_set (i := 7) nd rfl (by first | exact Or.inl rfl | exact Or.inr rfl) (de_mul (de_slA (de_var 5) (do_some (de_var 3)) (do_some (de_add (de_var 3) de_int))) (de_sub de_int (de_var 6))))
  (dss_one (ds_set (i := 5) nd rfl (by first | exact Or.inl rfl | exact Or.inr rfl) (de_addC (de_add (de_slA (de_var 5) do_none (do_some (de_var 3))) (de_var 7)) (de_slA (de_var 5) (do_some (de_add (de_var 3) de_int)) do_none))))) (dss_one (ds_if (dt_truth (de_isi B (by rfl) (da_cons (de_ix (de_var 5) (de_var 3)) (da_cons (de_type (by rfl) B.tuple_ (by decide +kernel)) da_nil)))) (dss_cons (ds_asg (de_ix (de_var 5) (de_var 3)) (dg_tup rfl (dgs_cons (dg_name (i := 8) nd rfl (by first | exact Or.inl rfl | exact Or.inr rfl)) (dgs_cons (dg_name (i := 9) nd rfl (by first | exact Or.inl rfl | exact Or.inr rfl)) dgs_nil))))
  (dss_cons (ds_set (i := 10) nd rfl (by first | exact Or.inl rfl | exact Or.inr rfl) (de_lst (da_cons (de_tup (da_cons (de_add (de_var 8) (de_var 6)) (da_cons (de_var 9) da_nil))) (da_cons (de_tup (da_cons (de_var 8) (da_cons (de_add (de_var 9) (de_var 6)) da_nil))) (da_cons (de_tup (da_cons (de_mul (de_var 8) de_int) (da_cons (de_mul (de_var 9) de_int) da_nil))) (da_cons (de_call0 F__law_sum hr (by rfl) (da_cons (de_tup (da_cons (de_var 8) (da_cons (de_var 9) da_nil))) (da_cons (de_tup (da_cons (de_var 6) (da_cons de_int da_nil))) da_nil))) da_nil))))))
  (dss_one (ds_asg (de_ix (de_var 10) (de_var 4)) (dg_sub (E := E0) (de_var 5) (de_var 3)))))) (dss_one (ds_asg (de_ix (de_lst (da_cons (de_add (de_ix (de_var 5) (de_var 3)) (de_var 6)) (da_cons (de_add (de_ix (de_var 5) (de_var 3)) (de_var 6)) (da_cons de_bl (da_cons de_non da_nil))))) (de_var 4)) (dg_sub (E := E0) (de_var 5) (de_var 3)))))))
  (dss_one (ds_ret (de_add (de_add (de_slA (de_var 1) do_none (do_some (de_var 2))) (de_lst (da_cons (de_tuple B (by rfl) (da_cons (de_var 5) da_nil)) da_nil))) (de_slA (de_var 1) (do_some (de_add (de_var 2) de_int)) do_none))))))))

theorem v__law_one_bent : ∀ ds w kx k, sp__law_one_bent ds w kx k → gTr (sem0 11 g__law_one_bent) ds w kx k := by
  rintro ds w kx k ⟨xs, c, n, rfl, ⟨hx, hn, hc⟩, hk⟩
  have e : rho 11 [D.st, D.lst xs] = [some .st, some (.lst xs), none, none, none, none, none, none, none, none, none] := rfl
  have hp := hx.ne
  have hl := hx.le
  simp -implicitDefEqProofs only [g__law_one_bent.eq_1, e, sp__law_take.eq_1, DL.gPar3.eq_1, DL.sem0.eq_1, List.map_cons, List.map_nil, List.length_cons, List.length_nil, DL.gSeq.eq_1, DL.gNext.eq_1, DL.gRet.eq_1, DL.gRetN.eq_1, DL.gIfS.eq_1, DL.gSet.eq_1, DL.gPar.eq_1, DL.gAsg.eq_1, DL.gDrop.eq_1, DL.gVar.eq_1, DL.gC.eq_1, DL.gBin.eq_1, DL.gUn.eq_1, DL.gB.eq_1, DL.gTru.eq_1, DL.gAnd.eq_1, DL.gOr.eq_1, DL.gNot.eq_1, DL.gAndV.eq_1, DL.gOrV.eq_1, DL.gNotV.eq_1, DL.gIf.eq_1, DL.gChain.eq_1, DL.gaNil.eq_1, DL.gaCons.eq_1, DL.gTup.eq_1, DL.gLst.eq_1, DL.gCB.eq_1, DL.gCall0.eq_1, DL.gAug.eq_1, addD_i, addD_s, addD_l, addD_t, subD_i, mulD_i, mulD_l, fdivD_i, modD_i, powD_i, ltD_i, ltD_s, leD_i, gtD_i, geD_i, isD_n, isnotD_n, isNonD_non, isNonD_bl, isNonD_int, isNonD_str, isNonD_lst, isNonD_tup, negD_i, iaddD_i, truD_non, truD_bl, truD_int, truD_str, truD_lst, truD_tup, someK_some, ixD_l, ixD_t, fAbs_i, fInt_i, fInt_b, fMin2_i, fLen_l, fLen_t, fLen_s, fList_l, fList_t, fTuple_l, fTuple_t, optBK_some, fIsi_non, fIsi_bl, fIsi_int, fIsi_str, fIsi_lst, fIsi_tup, List.getElem?_cons_zero, List.getElem?_cons_succ, List.set_cons_zero, List.set_cons_succ, DL.ggName.eq_1, ggNil0, ggCons1, ggTup2, ggTup3, DL.gFor.eq_1, DL.giSeq.eq_1, DL.gLc.eq_1, DL.gYes.eq_1, DL.wipeR.eq_1, true_and, and_true, at_0, at_1, at_2, kit_int_int, kit_bool_int, kit_str_int, kit_non_int, kit_list_int, kit_tuple_int, kit_int_bool, kit_bool_bool, kit_str_bool, kit_non_bool, kit_list_bool, kit_tuple_bool, kit_int_str, kit_bool_str, kit_str_str, kit_non_str, kit_list_str, kit_tuple_str, kit_int_list, kit_bool_list, kit_str_list, kit_non_list, kit_list_list, kit_tuple_list, kit_int_tuple, kit_bool_tuple, kit_str_tuple, kit_non_tuple, kit_list_tuple, kit_tuple_tuple, eqD_i, neD_i, eqD_s, neD_s, eqD_f, neD_f, Nat.zero_add, Nat.reduceAdd, nc0, nc1, nc2, nc3, nc4, nc5, nc6, nc7, nc8, nc9, eq_self, decide_true, decide_false, Int.reduceEq, Int.reduceLT, Int.reduceLE, Int.reduceNeg, Bool.not_true, Bool.not_false, Bool.false_eq_true, if_true, if_false, ↓reduceIte, false_and, and_false, List.all_cons, List.all_nil, List.any_cons, List.any_nil, id_eq, Bool.and_true, Bool.true_and, Bool.or_false, Bool.false_or, Bool.and_false, Bool.false_and, DL.gCut.eq_1, eqD_b, neD_b, DL.giZip.eq_1, reduceCtorEq, Bool.true_eq_false, Bool.false_eq_true, DL.gRevL.eq_1, DL.gSl.eq_1, DL.goNone.eq_1, DL.goSome.eq_1, slD_l, ne_eq, not_false_eq_true, not_true_eq_false, DL.gBM.eq_1, isTy_l, isTy_s, new_at, new_set, isTy_new, cellK_new, append_new, popAt_new, gFrz_eq, frzK_new, fLen_new, fTuple_new, ixD_new, slA_l, slA_t, slA_new, addTD_t, addCD_l, mulCD_l, isbD_b, isnotbD_b, mSplitC_s, DL.gLstC.eq_1, DL.gTr.eq_1, DL.ggSub.eq_1, lstK_l, lstK_r, addLD_eq]
  refine take_use (n + 4) hn (by omega) ⟨by omega, log_of (Nat.lt_of_le_of_lt (show ((xs.length : Nat) : Int).natAbs ≤ 8 by omega) (by decide))⟩ fun at_ c1 a0 a1 hc1 => ?_
  refine take_use (n + 3) rfl (by omega) ⟨by decide, log_of (by decide)⟩ fun pl c2 b0 b1 hc2 => ?_
  simp -implicitDefEqProofs only [DL.sem0.eq_1, List.map_cons, List.map_nil, List.length_cons, List.length_nil, DL.gSeq.eq_1, DL.gNext.eq_1, DL.gRet.eq_1, DL.gRetN.eq_1, DL.gIfS.eq_1, DL.gSet.eq_1, DL.gPar.eq_1, DL.gAsg.eq_1, DL.gDrop.eq_1, DL.gVar.eq_1, DL.gC.eq_1, DL.gBin.eq_1, DL.gUn.eq_1, DL.gB.eq_1, DL.gTru.eq_1, DL.gAnd.eq_1, DL.gOr.eq_1, DL.gNot.eq_1, DL.gAndV.eq_1, DL.gOrV.eq_1, DL.gNotV.eq_1, DL.gIf.eq_1, DL.gChain.eq_1, DL.gaNil.eq_1, DL.gaCons.eq_1, DL.gTup.eq_1, DL.gLst.eq_1, DL.gCB.eq_1, DL.gCall0.eq_1, DL.gAug.eq_1, addD_i, addD_s, addD_l, addD_t, subD_i, mulD_i, mulD_l, fdivD_i, modD_i, powD_i, ltD_i, ltD_s, leD_i, gtD_i, geD_i, isD_n, isnotD_n, isNonD_non, isNonD_bl, isNonD_int, isNonD_str, isNonD_lst, isNonD_tup, negD_i, iaddD_i, truD_non, truD_bl, truD_int, truD_str, truD_lst, truD_tup, someK_some, ixD_l, ixD_t, fAbs_i, fInt_i, fInt_b, fMin2_i, fLen_l, fLen_t, fLen_s, fList_l, fList_t, fTuple_l, fTuple_t, optBK_some, fIsi_non, fIsi_bl, fIsi_int, fIsi_str, fIsi_lst, fIsi_tup, List.getElem?_cons_zero, List.getElem?_cons_succ, List.set_cons_zero, List.set_cons_succ, DL.ggName.eq_1, ggNil0, ggCons1, ggTup2, ggTup3, DL.gFor.eq_1, DL.giSeq.eq_1, DL.gLc.eq_1, DL.gYes.eq_1, DL.wipeR.eq_1, true_and, and_true, at_0, at_1, at_2, kit_int_int, kit_bool_int, kit_str_int, kit_non_int, kit_list_int, kit_tuple_int, kit_int_bool, kit_bool_bool, kit_str_bool, kit_non_bool, kit_list_bool, kit_tuple_bool, kit_int_str, kit_bool_str, kit_str_str, kit_non_str, kit_list_str, kit_tuple_str, kit_int_list, kit_bool_list, kit_str_list, kit_non_list, kit_list_list, kit_tuple_list, kit_int_tuple, kit_bool_tuple, kit_str_tuple, kit_non_tuple, kit_list_tuple, kit_tuple_tuple, eqD_i, neD_i, eqD_s, neD_s, eqD_f, neD_f, Nat.zero_add, Nat.reduceAdd, nc0, nc1, nc2, nc3, nc4, nc5, nc6, nc7, nc8, nc9, eq_self, decide_true, decide_false, Int.reduceEq, Int.reduceLT, Int.reduceLE, Int.reduceNeg, Bool.not_true, Bool.not_false, Bool.false_eq_true, if_true, if_false, ↓reduceIte, false_and, and_false, List.all_cons, List.all_nil, List.any_cons, List.any_nil, id_eq, Bool.and_true, Bool.true_and, Bool.or_false, Bool.false_or, Bool.and_false, Bool.false_and, DL.gCut.eq_1, eqD_b, neD_b, DL.giZip.eq_1, reduceCtorEq, Bool.true_eq_false, Bool.false_eq_true, DL.gRevL.eq_1, DL.gSl.eq_1, DL.goNone.eq_1, DL.goSome.eq_1, slD_l, ne_eq, not_false_eq_true, not_true_eq_false, DL.gBM.eq_1, isTy_l, isTy_s, new_at, new_set, isTy_new, cellK_new, append_new, popAt_new, gFrz_eq, frzK_new, fLen_new, fTuple_new, ixD_new, slA_l, slA_t, slA_new, addTD_t, addCD_l, mulCD_l, isbD_b, isnotbD_b, mSplitC_s, DL.gLstC.eq_1, DL.gTr.eq_1, DL.ggSub.eq_1, lstK_l, lstK_r, addLD_eq]
  refine take_use (n + 2) rfl (by omega) ⟨by decide, log_of (by decide)⟩ fun way c3 d0 d1 hc3 => ?_
  simp -implicitDefEqProofs only [DL.sem0.eq_1, List.map_cons, List.map_nil, List.length_cons, List.length_nil, DL.gSeq.eq_1, DL.gNext.eq_1, DL.gRet.eq_1, DL.gRetN.eq_1, DL.gIfS.eq_1, DL.gSet.eq_1, DL.gPar.eq_1, DL.gAsg.eq_1, DL.gDrop.eq_1, DL.gVar.eq_1, DL.gC.eq_1, DL.gBin.eq_1, DL.gUn.eq_1, DL.gB.eq_1, DL.gTru.eq_1, DL.gAnd.eq_1, DL.gOr.eq_1, DL.gNot.eq_1, DL.gAndV.eq_1, DL.gOrV.eq_1, DL.gNotV.eq_1, DL.gIf.eq_1, DL.gChain.eq_1, DL.gaNil.eq_1, DL.gaCons.eq_1, DL.gTup.eq_1, DL.gLst.eq_1, DL.gCB.eq_1, DL.gCall0.eq_1, DL.gAug.eq_1, addD_i, addD_s, addD_l, addD_t, subD_i, mulD_i, mulD_l, fdivD_i, modD_i, powD_i, ltD_i, ltD_s, leD_i, gtD_i, geD_i, isD_n, isnotD_n, isNonD_non, isNonD_bl, isNonD_int, isNonD_str, isNonD_lst, isNonD_tup, negD_i, iaddD_i, truD_non, truD_bl, truD_int, truD_str, truD_lst, truD_tup, someK_some, ixD_l, ixD_t, fAbs_i, fInt_i, fInt_b, fMin2_i, fLen_l, fLen_t, fLen_s, fList_l, fList_t, fTuple_l, fTuple_t, optBK_some, fIsi_non, fIsi_bl, fIsi_int, fIsi_str, fIsi_lst, fIsi_tup, List.getElem?_cons_zero, List.getElem?_cons_succ, List.set_cons_zero, List.set_cons_succ, DL.ggName.eq_1, ggNil0, ggCons1, ggTup2, ggTup3, DL.gFor.eq_1, DL.giSeq.eq_1, DL.gLc.eq_1, DL.gYes.eq_1, DL.wipeR.eq_1, true_and, and_true, at_0, at_1, at_2, kit_int_int, kit_bool_int, kit_str_int, kit_non_int, kit_list_int, kit_tuple_int, kit_int_bool, kit_bool_bool, kit_str_bool, kit_non_bool, kit_list_bool, kit_tuple_bool, kit_int_str, kit_bool_str, kit_str_str, kit_non_str, kit_list_str, kit_tuple_str, kit_int_list, kit_bool_list, kit_str_list, kit_non_list, kit_list_list, kit_tuple_list, kit_int_tuple, kit_bool_tuple, kit_str_tuple, kit_non_tuple, kit_list_tuple, kit_tuple_tuple, eqD_i, neD_i, eqD_s, neD_s, eqD_f, neD_f, Nat.zero_add, Nat.reduceAdd, nc0, nc1, nc2, nc3, nc4, nc5, nc6, nc7, nc8, nc9, eq_self, decide_true, decide_false, Int.reduceEq, Int.reduceLT, Int.reduceLE, Int.reduceNeg, Bool.not_true, Bool.not_false, Bool.false_eq_true, if_true, if_false, ↓reduceIte, false_and, and_false, List.all_cons, List.all_nil, List.any_cons, List.any_nil, id_eq, Bool.and_true, Bool.true_and, Bool.or_false, Bool.false_or, Bool.and_false, Bool.false_and, DL.gCut.eq_1, eqD_b, neD_b, DL.giZip.eq_1, reduceCtorEq, Bool.true_eq_false, Bool.false_eq_true, DL.gRevL.eq_1, DL.gSl.eq_1, DL.goNone.eq_1, DL.goSome.eq_1, slD_l, ne_eq, not_false_eq_true, not_true_eq_false, DL.gBM.eq_1, isTy_l, isTy_s, new_at, new_set, isTy_new, cellK_new, append_new, popAt_new, gFrz_eq, frzK_new, fLen_new, fTuple_new, ixD_new, slA_l, slA_t, slA_new, addTD_t, addCD_l, mulCD_l, isbD_b, isnotbD_b, mSplitC_s, DL.gLstC.eq_1, DL.gTr.eq_1, DL.ggSub.eq_1, lstK_l, lstK_r, addLD_eq]
  have e0 : ∀ {s : St} {K : KD} {M : List Cell} {n : Option Nat}, fListC [stD s] ⟨M, n⟩ K = K (.rf M.length) ⟨M ++ [.lst (stL s)], n⟩ := rfl
  refine at_all (fun d => ∃ s, d = stD s ∧ StB s) a0 a1 hx.st ?_
  rintro _ ⟨s, rfl, sb⟩
  rw [e0]
  refine take_use (n + 1) rfl (by omega) ⟨by decide, log_of (by decide)⟩ fun mo c4 m0 m1 hc4 => ?_
  have mo2 : mo = 0 ∨ mo = 1 := by omega
  simp only [mulD_i, subD_i]
  refine ⟨mulx_ok (a := 2) (b := 2) (by decide) (by rcases mo2 with rfl | rfl <;> decide) (by decide), OInv w n xs at_ (1 + pl), ?_, ?_⟩
  · obtain ⟨mr, hmr, mr2⟩ : ∃ mr : Int, 1 - 2 * mo = mr ∧ (mr = 1 ∨ mr = -1) := ⟨_, rfl, by omega⟩
    rw [hmr]
    have g1 : (w.M ++ [Cell.lst (stL s)])[w.M.length]? = some (.lst (stL s)) := by simp
    have sit := it_stL sb
    have put : ∀ {x : D} {s7 s8 s9 s10 : Option D}, ItF x → 0 ≤ 1 + pl ∧ 1 + pl < (stL s).length ∧ OInv w n xs at_ (1 + pl) [some .st, some (.lst xs), some (.int at_), some (.int (1 + pl)), some (.int way), some (.rf w.M.length), some (.int mr), s7, s8, s9, s10] ⟨w.M ++ [Cell.lst ((stL s).set (1 + pl).toNat x)], some c4⟩ := by
      intro x s7 s8 s9 s10 hx
      exact ⟨by omega, by show 1 + pl < 9; omega, oinv (C := [.lst ((stL s).set (1 + pl).toNat x)]) (c' := c4) rfl rfl (by omega) (by simp) (set_mem (j := (1 + pl).toNat) sit hx) (by rw [List.length_set]; show 9 ≤ 12; decide)⟩
    refine ite2 (fun _ => ?_) (fun nw => ?_)
    · rw [slA_at g1]
      simp only [subD_i, mulD_l]
      rw [slA_at g1]
      have l1 : (DL.cutD (stL s) (some (1 + pl)) (some (1 + pl + 1))).length ≤ 1 := by
        unfold DL.cutD
        obtain ⟨j, hj⟩ := Int.eq_ofNat_of_zero_le (show 0 ≤ 1 + pl by omega)
        rw [List.length_take, hj]
        have e1 : (some ((j : Int) + 1)) = some ((j + 1 : Nat) : Int) := by simp
        rw [HT.sIx_nat, e1, HT.sIx_nat]
        omega
      have rl : (List.replicate (1 - mr).toNat (DL.cutD (stL s) (some (1 + pl)) (some (1 + pl + 1)))).flatten.length ≤ 2 := by
        rw [rep_flen]
        have : (1 - mr).toNat ≤ 2 := by omega
        calc _ ≤ 2 * 1 := Nat.mul_le_mul this l1
          _ = 2 := rfl
      have lt : (DL.cutD (stL s) none (some (1 + pl))).length + (DL.cutD (stL s) (some (1 + pl + 1)) none).length ≤ 9 := by
        have l9 : (stL s).length = 9 := rfl
        rw [cut_to (by omega) (by rw [l9]; omega), cut_fr (by omega), List.length_take, List.length_drop]
        omega
      refine ⟨by omega, by omega, ?_, ?_⟩
      · refine Nat.le_trans (Nat.mul_le_mul l1 (show (1 - mr).toNat ≤ 2 by omega)) (by decide)
      · simp only [addD_l]
        refine ⟨le_sl (by omega), ?_⟩
        rw [slA_at g1]
        show _ ∧ _
        refine ⟨le_sl (by rw [List.length_append]; omega), oinv (C := [.lst (stL s), .lst _]) (c' := c4) (by rw [List.append_assoc]; rfl) rfl (by omega) List.getElem?_concat_length (fun x hx2 => ?_) ?_⟩
        · rcases List.mem_append.mp hx2 with hx2 | hx2
          · rcases List.mem_append.mp hx2 with hx2 | hx2
            · exact sit x (cut_mem hx2)
            · exact sit x (cut_mem (rep_mem hx2))
          · exact sit x (cut_mem hx2)
        · rw [List.length_append, List.length_append]
          omega
    · rw [ixD_at g1]
      have nw4 : way ≠ 4 := by simpa using nw
      obtain ⟨d, hd, ed⟩ := at_pl sb (p := 1 + pl) (by omega) (by omega)
      rw [ed, someK_some]
      have ad := (pf_pl (M := w.M ++ [Cell.lst (stL s)]) (fi_it hd).1).any
      rw [isi_tup ad]
      rcases hd with ⟨q, rfl, q0, ql⟩ | ⟨i, rfl, il⟩
      · simp only [show isT (fD q) = true from rfl, truD, ite_true]
        rw [ixD_at g1, ed, someK_some]
        show ggTup 2 _ (.tup [.int q.1, .int q.2]) _ _ _
        simp -implicitDefEqProofs only [sp__law_sum.eq_1, DL.sem0.eq_1, List.map_cons, List.map_nil, List.length_cons, List.length_nil, DL.gSeq.eq_1, DL.gNext.eq_1, DL.gRet.eq_1, DL.gRetN.eq_1, DL.gIfS.eq_1, DL.gSet.eq_1, DL.gPar.eq_1, DL.gAsg.eq_1, DL.gDrop.eq_1, DL.gVar.eq_1, DL.gC.eq_1, DL.gBin.eq_1, DL.gUn.eq_1, DL.gB.eq_1, DL.gTru.eq_1, DL.gAnd.eq_1, DL.gOr.eq_1, DL.gNot.eq_1, DL.gAndV.eq_1, DL.gOrV.eq_1, DL.gNotV.eq_1, DL.gIf.eq_1, DL.gChain.eq_1, DL.gaNil.eq_1, DL.gaCons.eq_1, DL.gTup.eq_1, DL.gLst.eq_1, DL.gCB.eq_1, DL.gCall0.eq_1, DL.gAug.eq_1, addD_i, addD_s, addD_l, addD_t, subD_i, mulD_i, mulD_l, fdivD_i, modD_i, powD_i, ltD_i, ltD_s, leD_i, gtD_i, geD_i, isD_n, isnotD_n, isNonD_non, isNonD_bl, isNonD_int, isNonD_str, isNonD_lst, isNonD_tup, negD_i, iaddD_i, truD_non, truD_bl, truD_int, truD_str, truD_lst, truD_tup, someK_some, ixD_l, ixD_t, fAbs_i, fInt_i, fInt_b, fMin2_i, fLen_l, fLen_t, fLen_s, fList_l, fList_t, fTuple_l, fTuple_t, optBK_some, fIsi_non, fIsi_bl, fIsi_int, fIsi_str, fIsi_lst, fIsi_tup, List.getElem?_cons_zero, List.getElem?_cons_succ, List.set_cons_zero, List.set_cons_succ, DL.ggName.eq_1, ggNil0, ggCons1, ggTup2, ggTup3, DL.gFor.eq_1, DL.giSeq.eq_1, DL.gLc.eq_1, DL.gYes.eq_1, DL.wipeR.eq_1, true_and, and_true, at_0, at_1, at_2, kit_int_int, kit_bool_int, kit_str_int, kit_non_int, kit_list_int, kit_tuple_int, kit_int_bool, kit_bool_bool, kit_str_bool, kit_non_bool, kit_list_bool, kit_tuple_bool, kit_int_str, kit_bool_str, kit_str_str, kit_non_str, kit_list_str, kit_tuple_str, kit_int_list, kit_bool_list, kit_str_list, kit_non_list, kit_list_list, kit_tuple_list, kit_int_tuple, kit_bool_tuple, kit_str_tuple, kit_non_tuple, kit_list_tuple, kit_tuple_tuple, eqD_i, neD_i, eqD_s, neD_s, eqD_f, neD_f, Nat.zero_add, Nat.reduceAdd, nc0, nc1, nc2, nc3, nc4, nc5, nc6, nc7, nc8, nc9, eq_self, decide_true, decide_false, Int.reduceEq, Int.reduceLT, Int.reduceLE, Int.reduceNeg, Bool.not_true, Bool.not_false, Bool.false_eq_true, if_true, if_false, ↓reduceIte, false_and, and_false, List.all_cons, List.all_nil, List.any_cons, List.any_nil, id_eq, Bool.and_true, Bool.true_and, Bool.or_false, Bool.false_or, Bool.and_false, Bool.false_and, DL.gCut.eq_1, eqD_b, neD_b, DL.giZip.eq_1, reduceCtorEq, Bool.true_eq_false, Bool.false_eq_true, DL.gRevL.eq_1, DL.gSl.eq_1, DL.goNone.eq_1, DL.goSome.eq_1, slD_l, ne_eq, not_false_eq_true, not_true_eq_false, DL.gBM.eq_1, isTy_l, isTy_s, new_at, new_set, isTy_new, cellK_new, append_new, popAt_new, gFrz_eq, frzK_new, fLen_new, fTuple_new, ixD_new, slA_l, slA_t, slA_new, addTD_t, addCD_l, mulCD_l, isbD_b, isnotbD_b, mSplitC_s, DL.gLstC.eq_1, DL.gTr.eq_1, DL.ggSub.eq_1, lstK_l, lstK_r, addLD_eq]
        have m1 : mr.natAbs < 2 := by omega
        have la1 : (q.1 + mr).natAbs < 2 ^ 150 := Nat.lt_of_lt_of_le (show (q.1 + mr).natAbs < 2 ^ 130 + 2 by have := ql.1; omega) (by decide)
        have la2 : (q.2 + mr).natAbs < 2 ^ 150 := Nat.lt_of_lt_of_le (show (q.2 + mr).natAbs < 2 ^ 130 + 2 by have := ql.2; omega) (by decide)
        have lb1 : q.1.natAbs < 2 ^ 150 := nat_mono ql.1 (by decide)
        have lb2 : q.2.natAbs < 2 ^ 150 := nat_mono ql.2 (by decide)
        have lc1 : (q.1 * 2).natAbs < 2 ^ 150 := nat_mono (wide_lt (a := 130) (b := 2) ql.1 (by decide)) (by decide)
        have lc2 : (q.2 * 2).natAbs < 2 ^ 150 := nat_mono (wide_lt (a := 130) (b := 2) ql.2 (by decide)) (by decide)
        refine ⟨by decide, by decide, mulx_ok ql.1 (b := 2) (by decide) (by decide), mulx_ok ql.2 (b := 2) (by decide) (by decide), by decide, by decide, by decide, q.1, q.2, mr, 1, rfl, ⟨q0, by decide, ⟨nat_mono ql.1 (by decide), nat_mono ql.2 (by decide)⟩, Nat.lt_of_lt_of_le m1 (by decide), show (1 : Int).natAbs < 2 ^ 1900 by decide⟩, by decide, ?_⟩
        have bd : q.2 * 1 ≠ 0 := by omega
        have fl := fr_le (t := q.1 * 1 + mr * q.2) bd
        have l1 : (q.1 * 1 + mr * q.2).natAbs < 2 ^ 150 := by
          refine Nat.lt_of_lt_of_le (show _ < 2 ^ 130 + 2 ^ 132 from ?_) (by decide)
          have e1 : (mr * q.2).natAbs < 2 ^ 132 := nat_mono (wide_lt (a := 2) (b := 130) (Nat.lt_trans m1 (by decide)) ql.2) (by decide)
          have := ql.1
          omega
        have ln : ItF (fD (norm (q.1 * 1 + mr * q.2) (q.2 * 1))) := by
          refine it_pair (Nat.lt_of_le_of_lt fl.1 l1) (Nat.lt_of_le_of_lt (fl.2) ?_)
          rw [Int.mul_one]
          exact lb2
        exact at_all ItF d0 (by show way < 4; omega) (all_cons (it_pair la1 lb2) (all_cons (it_pair lb1 la2) (all_cons (it_pair lc1 lc2) (all_cons ln all_nil)))) fun x hx => put hx
      · simp only [isT, truD, if_false, reduceCtorEq, Bool.false_eq_true]
        rw [ixD_at g1, ed, someK_some]
        simp -implicitDefEqProofs only [DL.sem0.eq_1, List.map_cons, List.map_nil, List.length_cons, List.length_nil, DL.gSeq.eq_1, DL.gNext.eq_1, DL.gRet.eq_1, DL.gRetN.eq_1, DL.gIfS.eq_1, DL.gSet.eq_1, DL.gPar.eq_1, DL.gAsg.eq_1, DL.gDrop.eq_1, DL.gVar.eq_1, DL.gC.eq_1, DL.gBin.eq_1, DL.gUn.eq_1, DL.gB.eq_1, DL.gTru.eq_1, DL.gAnd.eq_1, DL.gOr.eq_1, DL.gNot.eq_1, DL.gAndV.eq_1, DL.gOrV.eq_1, DL.gNotV.eq_1, DL.gIf.eq_1, DL.gChain.eq_1, DL.gaNil.eq_1, DL.gaCons.eq_1, DL.gTup.eq_1, DL.gLst.eq_1, DL.gCB.eq_1, DL.gCall0.eq_1, DL.gAug.eq_1, addD_i, addD_s, addD_l, addD_t, subD_i, mulD_i, mulD_l, fdivD_i, modD_i, powD_i, ltD_i, ltD_s, leD_i, gtD_i, geD_i, isD_n, isnotD_n, isNonD_non, isNonD_bl, isNonD_int, isNonD_str, isNonD_lst, isNonD_tup, negD_i, iaddD_i, truD_non, truD_bl, truD_int, truD_str, truD_lst, truD_tup, someK_some, ixD_l, ixD_t, fAbs_i, fInt_i, fInt_b, fMin2_i, fLen_l, fLen_t, fLen_s, fList_l, fList_t, fTuple_l, fTuple_t, optBK_some, fIsi_non, fIsi_bl, fIsi_int, fIsi_str, fIsi_lst, fIsi_tup, List.getElem?_cons_zero, List.getElem?_cons_succ, List.set_cons_zero, List.set_cons_succ, DL.ggName.eq_1, ggNil0, ggCons1, ggTup2, ggTup3, DL.gFor.eq_1, DL.giSeq.eq_1, DL.gLc.eq_1, DL.gYes.eq_1, DL.wipeR.eq_1, true_and, and_true, at_0, at_1, at_2, kit_int_int, kit_bool_int, kit_str_int, kit_non_int, kit_list_int, kit_tuple_int, kit_int_bool, kit_bool_bool, kit_str_bool, kit_non_bool, kit_list_bool, kit_tuple_bool, kit_int_str, kit_bool_str, kit_str_str, kit_non_str, kit_list_str, kit_tuple_str, kit_int_list, kit_bool_list, kit_str_list, kit_non_list, kit_list_list, kit_tuple_list, kit_int_tuple, kit_bool_tuple, kit_str_tuple, kit_non_tuple, kit_list_tuple, kit_tuple_tuple, eqD_i, neD_i, eqD_s, neD_s, eqD_f, neD_f, Nat.zero_add, Nat.reduceAdd, nc0, nc1, nc2, nc3, nc4, nc5, nc6, nc7, nc8, nc9, eq_self, decide_true, decide_false, Int.reduceEq, Int.reduceLT, Int.reduceLE, Int.reduceNeg, Bool.not_true, Bool.not_false, Bool.false_eq_true, if_true, if_false, ↓reduceIte, false_and, and_false, List.all_cons, List.all_nil, List.any_cons, List.any_nil, id_eq, Bool.and_true, Bool.true_and, Bool.or_false, Bool.false_or, Bool.and_false, Bool.false_and, DL.gCut.eq_1, eqD_b, neD_b, DL.giZip.eq_1, reduceCtorEq, Bool.true_eq_false, Bool.false_eq_true, DL.gRevL.eq_1, DL.gSl.eq_1, DL.goNone.eq_1, DL.goSome.eq_1, slD_l, ne_eq, not_false_eq_true, not_true_eq_false, DL.gBM.eq_1, isTy_l, isTy_s, new_at, new_set, isTy_new, cellK_new, append_new, popAt_new, gFrz_eq, frzK_new, fLen_new, fTuple_new, ixD_new, slA_l, slA_t, slA_new, addTD_t, addCD_l, mulCD_l, isbD_b, isnotbD_b, mSplitC_s, DL.gLstC.eq_1, DL.gTr.eq_1, DL.ggSub.eq_1, lstK_l, lstK_r, addLD_eq]
        rw [ed, someK_some]
        simp -implicitDefEqProofs only [DL.sem0.eq_1, List.map_cons, List.map_nil, List.length_cons, List.length_nil, DL.gSeq.eq_1, DL.gNext.eq_1, DL.gRet.eq_1, DL.gRetN.eq_1, DL.gIfS.eq_1, DL.gSet.eq_1, DL.gPar.eq_1, DL.gAsg.eq_1, DL.gDrop.eq_1, DL.gVar.eq_1, DL.gC.eq_1, DL.gBin.eq_1, DL.gUn.eq_1, DL.gB.eq_1, DL.gTru.eq_1, DL.gAnd.eq_1, DL.gOr.eq_1, DL.gNot.eq_1, DL.gAndV.eq_1, DL.gOrV.eq_1, DL.gNotV.eq_1, DL.gIf.eq_1, DL.gChain.eq_1, DL.gaNil.eq_1, DL.gaCons.eq_1, DL.gTup.eq_1, DL.gLst.eq_1, DL.gCB.eq_1, DL.gCall0.eq_1, DL.gAug.eq_1, addD_i, addD_s, addD_l, addD_t, subD_i, mulD_i, mulD_l, fdivD_i, modD_i, powD_i, ltD_i, ltD_s, leD_i, gtD_i, geD_i, isD_n, isnotD_n, isNonD_non, isNonD_bl, isNonD_int, isNonD_str, isNonD_lst, isNonD_tup, negD_i, iaddD_i, truD_non, truD_bl, truD_int, truD_str, truD_lst, truD_tup, someK_some, ixD_l, ixD_t, fAbs_i, fInt_i, fInt_b, fMin2_i, fLen_l, fLen_t, fLen_s, fList_l, fList_t, fTuple_l, fTuple_t, optBK_some, fIsi_non, fIsi_bl, fIsi_int, fIsi_str, fIsi_lst, fIsi_tup, List.getElem?_cons_zero, List.getElem?_cons_succ, List.set_cons_zero, List.set_cons_succ, DL.ggName.eq_1, ggNil0, ggCons1, ggTup2, ggTup3, DL.gFor.eq_1, DL.giSeq.eq_1, DL.gLc.eq_1, DL.gYes.eq_1, DL.wipeR.eq_1, true_and, and_true, at_0, at_1, at_2, kit_int_int, kit_bool_int, kit_str_int, kit_non_int, kit_list_int, kit_tuple_int, kit_int_bool, kit_bool_bool, kit_str_bool, kit_non_bool, kit_list_bool, kit_tuple_bool, kit_int_str, kit_bool_str, kit_str_str, kit_non_str, kit_list_str, kit_tuple_str, kit_int_list, kit_bool_list, kit_str_list, kit_non_list, kit_list_list, kit_tuple_list, kit_int_tuple, kit_bool_tuple, kit_str_tuple, kit_non_tuple, kit_list_tuple, kit_tuple_tuple, eqD_i, neD_i, eqD_s, neD_s, eqD_f, neD_f, Nat.zero_add, Nat.reduceAdd, nc0, nc1, nc2, nc3, nc4, nc5, nc6, nc7, nc8, nc9, eq_self, decide_true, decide_false, Int.reduceEq, Int.reduceLT, Int.reduceLE, Int.reduceNeg, Bool.not_true, Bool.not_false, Bool.false_eq_true, if_true, if_false, ↓reduceIte, false_and, and_false, List.all_cons, List.all_nil, List.any_cons, List.any_nil, id_eq, Bool.and_true, Bool.true_and, Bool.or_false, Bool.false_or, Bool.and_false, Bool.false_and, DL.gCut.eq_1, eqD_b, neD_b, DL.giZip.eq_1, reduceCtorEq, Bool.true_eq_false, Bool.false_eq_true, DL.gRevL.eq_1, DL.gSl.eq_1, DL.goNone.eq_1, DL.goSome.eq_1, slD_l, ne_eq, not_false_eq_true, not_true_eq_false, DL.gBM.eq_1, isTy_l, isTy_s, new_at, new_set, isTy_new, cellK_new, append_new, popAt_new, gFrz_eq, frzK_new, fLen_new, fTuple_new, ixD_new, slA_l, slA_t, slA_new, addTD_t, addCD_l, mulCD_l, isbD_b, isnotbD_b, mSplitC_s, DL.gLstC.eq_1, DL.gTr.eq_1, DL.ggSub.eq_1, lstK_l, lstK_r, addLD_eq]
        have il2 : (i + mr).natAbs < 2 ^ 150 := Nat.lt_of_lt_of_le (show (i + mr).natAbs < 2 ^ 130 + 2 by omega) (by decide)
        refine ⟨by decide, at_all ItF d0 (by show way < 4; omega) (all_cons (it_int il2) (all_cons (it_int il2) (all_cons it_bl (all_cons it_non all_nil)))) fun x hx => put hx⟩
  · rintro ρ w' ⟨R, c', j, row, s4, s6, s7, s8, s9, s10, rfl, hc', hj, hr, hrl, rfl⟩
    simp -implicitDefEqProofs only [DL.sem0.eq_1, List.map_cons, List.map_nil, List.length_cons, List.length_nil, DL.gSeq.eq_1, DL.gNext.eq_1, DL.gRet.eq_1, DL.gRetN.eq_1, DL.gIfS.eq_1, DL.gSet.eq_1, DL.gPar.eq_1, DL.gAsg.eq_1, DL.gDrop.eq_1, DL.gVar.eq_1, DL.gC.eq_1, DL.gBin.eq_1, DL.gUn.eq_1, DL.gB.eq_1, DL.gTru.eq_1, DL.gAnd.eq_1, DL.gOr.eq_1, DL.gNot.eq_1, DL.gAndV.eq_1, DL.gOrV.eq_1, DL.gNotV.eq_1, DL.gIf.eq_1, DL.gChain.eq_1, DL.gaNil.eq_1, DL.gaCons.eq_1, DL.gTup.eq_1, DL.gLst.eq_1, DL.gCB.eq_1, DL.gCall0.eq_1, DL.gAug.eq_1, addD_i, addD_s, addD_l, addD_t, subD_i, mulD_i, mulD_l, fdivD_i, modD_i, powD_i, ltD_i, ltD_s, leD_i, gtD_i, geD_i, isD_n, isnotD_n, isNonD_non, isNonD_bl, isNonD_int, isNonD_str, isNonD_lst, isNonD_tup, negD_i, iaddD_i, truD_non, truD_bl, truD_int, truD_str, truD_lst, truD_tup, someK_some, ixD_l, ixD_t, fAbs_i, fInt_i, fInt_b, fMin2_i, fLen_l, fLen_t, fLen_s, fList_l, fList_t, fTuple_l, fTuple_t, optBK_some, fIsi_non, fIsi_bl, fIsi_int, fIsi_str, fIsi_lst, fIsi_tup, List.getElem?_cons_zero, List.getElem?_cons_succ, List.set_cons_zero, List.set_cons_succ, DL.ggName.eq_1, ggNil0, ggCons1, ggTup2, ggTup3, DL.gFor.eq_1, DL.giSeq.eq_1, DL.gLc.eq_1, DL.gYes.eq_1, DL.wipeR.eq_1, true_and, and_true, at_0, at_1, at_2, kit_int_int, kit_bool_int, kit_str_int, kit_non_int, kit_list_int, kit_tuple_int, kit_int_bool, kit_bool_bool, kit_str_bool, kit_non_bool, kit_list_bool, kit_tuple_bool, kit_int_str, kit_bool_str, kit_str_str, kit_non_str, kit_list_str, kit_tuple_str, kit_int_list, kit_bool_list, kit_str_list, kit_non_list, kit_list_list, kit_tuple_list, kit_int_tuple, kit_bool_tuple, kit_str_tuple, kit_non_tuple, kit_list_tuple, kit_tuple_tuple, eqD_i, neD_i, eqD_s, neD_s, eqD_f, neD_f, Nat.zero_add, Nat.reduceAdd, nc0, nc1, nc2, nc3, nc4, nc5, nc6, nc7, nc8, nc9, eq_self, decide_true, decide_false, Int.reduceEq, Int.reduceLT, Int.reduceLE, Int.reduceNeg, Bool.not_true, Bool.not_false, Bool.false_eq_true, if_true, if_false, ↓reduceIte, false_and, and_false, List.all_cons, List.all_nil, List.any_cons, List.any_nil, id_eq, Bool.and_true, Bool.true_and, Bool.or_false, Bool.false_or, Bool.and_false, Bool.false_and, DL.gCut.eq_1, eqD_b, neD_b, DL.giZip.eq_1, reduceCtorEq, Bool.true_eq_false, Bool.false_eq_true, DL.gRevL.eq_1, DL.gSl.eq_1, DL.goNone.eq_1, DL.goSome.eq_1, slD_l, ne_eq, not_false_eq_true, not_true_eq_false, DL.gBM.eq_1, isTy_l, isTy_s, new_at, new_set, isTy_new, cellK_new, append_new, popAt_new, gFrz_eq, frzK_new, fLen_new, fTuple_new, ixD_new, slA_l, slA_t, slA_new, addTD_t, addCD_l, mulCD_l, isbD_b, isnotbD_b, mSplitC_s, DL.gLstC.eq_1, DL.gTr.eq_1, DL.ggSub.eq_1, lstK_l, lstK_r, addLD_eq]
    rw [fTuple_at hj]
    simp only [addD_l, List.length_cons, List.length_nil]
    have la : (DL.cutD xs none (some at_)).length ≤ xs.length ∧ (DL.cutD xs (some (at_ + 1)) none).length ≤ xs.length := by
      rw [cut_to a0 (by omega), cut_fr (by omega), List.length_take, List.length_drop]
      omega
    have LR : LF (DL.cutD xs none (some at_) ++ [.tup row] ++ DL.cutD xs (some (at_ + 1)) none) := by
      refine ⟨fun x hx2 => ?_, ?_⟩
      · rcases List.mem_append.mp hx2 with hx2 | hx2
        · rcases List.mem_append.mp hx2 with hx2 | hx2
          · exact hx.row x (cut_mem hx2)
          · rw [List.mem_singleton.mp hx2]
            exact row_tup hr hrl
        · exact hx.row x (cut_mem hx2)
      · rw [cut_to a0 (by omega), cut_fr (by omega), List.length_append, List.length_append, List.length_take, List.length_drop, List.length_singleton]
        omega
    have lx := LR.2
    have lx2 : (DL.cutD xs none (some at_)).length + 1 ≤ 12 := by omega
    refine ⟨by decide, le_sl (by omega), le_sl (by rw [List.length_append, List.length_singleton]; omega), ⟨R, rfl⟩, rows_low LR.row, hk _ c' LR hc'⟩
theorem ok__law_one_bent {P : Program} {w : World} {K : PySem.W.Frag} {mg : Str → Option Value} {base : Heap} (T : DefAt K mg "_law_one_bent" s__law_one_bent ["_law_state", "_law_some"]) (B : Blt mg) (F__law_take : FnAt P w K mg base CX0 1 "_law_take" 2 sp__law_take) (F__law_sum : FnAt P w K mg base CX0 1 "_law_sum" 2 sp__law_sum) : FnAt P w K mg base CX0 2 "_law_one_bent" 2 sp__law_one_bent := (w__law_one_bent T B F__law_take F__law_sum).trunc.imp v__law_one_bent


end LW

namespace LW
open PySem PySem.Spec PyProof.Rows L2 RZ DL


def bothBody : GS := (gIfS (gB (gBin ltD (gVar 3) (gC (.int 2)))) (gSet 11 (gBin addD (gBin addD (gSl slA (gVar 11) goNone (goSome (gVar 4))) (gBin mulD (DL.gLst (gaCons (gBin ixD (gVar 11) (gVar 4)) gaNil)) (gVar 6))) (gSl slA (gVar 11) (goSome (gVar 4)) goNone))) (gIfS (gB (gBin eqD (gVar 3) (gC (.int 2)))) (gSeq (gSet 12 (gSl slA (gVar 11) (goSome (gVar 4)) (goSome (gBin addD (gVar 4) (gC (.int 2))))))
  (gSet 11 (gBin addD (gBin addD (gSl slA (gVar 11) goNone (goSome (gVar 4))) (gRevA (gVar 12))) (gSl slA (gVar 11) (goSome (gBin addD (gVar 4) (gC (.int 2)))) goNone)))) (gIfS (gB (gBin eqD (gVar 3) (gC (.int 3)))) (gSet 11 (gRevA (gVar 11))) (gIfS (gB (gBin eqD (gVar 3) (gC (.int 4)))) (gSet 11 (gBin addD (gSl slA (gVar 11) goNone (goSome (gVar 4))) (gSl slA (gVar 11) (goSome (gBin addD (gVar 4) (gC (.int 1)))) goNone))) (gIfS (gB (gBin ltD (gVar 3) (gC (.int 7)))) (gAsg (gBin addTD (gTup (gaCons (gVar 9) gaNil)) (gSl slA (gBin ixD (gVar 11) (gVar 4)) (goSome (gC (.int 1))) goNone)) (ggSub (gVar 11) (gVar 4))) (gIfS (gB (gBin eqD (gVar 3) (gC (.int 7)))) (gAsg (gCB fList (gaCons (gBin ixD (gVar 11) (gVar 4)) gaNil)) (ggSub (gVar 11) (gVar 4))) (gSet 11 (gBin addLD (gVar 11) (gSl slA (gVar 11) goNone (goSome (gC (.int 1))))))))))))

def BP (M : List Cell) (n : Option Nat) (j : Nat) (s : List (Option D)) (ρ : Rho) (w' : Wd) : Prop := ∃ (zs : List D) (s12 : Option D), LF zs ∧ (ρ = s ++ [some (.lst zs), s12] ∧ w' = ⟨M, n⟩ ∨ ρ = s ++ [some (.rf j), s12] ∧ w' = ⟨M.set j (.lst zs), n⟩)
theorem cut_len {α : Type} {xs : List α} {lo hi : Option Int} : (DL.cutD xs lo hi).length ≤ xs.length := by
  unfold DL.cutD
  rw [List.length_take, List.length_drop]
  omega
theorem both_body {M : List Cell} {n : Option Nat} {j : Nat} {xs : List D} {way at_ ag : Int} {s0 s1 s2 s5 s7 s8 s10 s12 : Option D} {word : D} {F : DEnds} (hj : M[j]? = some (.lst xs)) (hx : RowsB xs) (a0 : 0 ≤ at_) (a1 : at_ < xs.length) (g0 : 0 ≤ ag) (g1 : ag ≤ 2) (hw : ItF word) :
    bothBody { F with nx := BP M n j [s0, s1, s2, some (.int way), some (.int at_), s5, some (.int ag), s7, s8, some word, s10] } [s0, s1, s2, some (.int way), some (.int at_), s5, some (.int ag), s7, s8, some word, s10, some (.rf j), s12] ⟨M, n⟩ := by
  have hp := hx.ne
  have hl := hx.le
  simp -implicitDefEqProofs only [bothBody.eq_1, gRevA.eq_1, DL.sem0.eq_1, List.map_cons, List.map_nil, List.length_cons, List.length_nil, DL.gSeq.eq_1, DL.gNext.eq_1, DL.gRet.eq_1, DL.gRetN.eq_1, DL.gIfS.eq_1, DL.gSet.eq_1, DL.gPar.eq_1, DL.gAsg.eq_1, DL.gDrop.eq_1, DL.gVar.eq_1, DL.gC.eq_1, DL.gBin.eq_1, DL.gUn.eq_1, DL.gB.eq_1, DL.gTru.eq_1, DL.gAnd.eq_1, DL.gOr.eq_1, DL.gNot.eq_1, DL.gAndV.eq_1, DL.gOrV.eq_1, DL.gNotV.eq_1, DL.gIf.eq_1, DL.gChain.eq_1, DL.gaNil.eq_1, DL.gaCons.eq_1, DL.gTup.eq_1, DL.gLst.eq_1, DL.gCB.eq_1, DL.gCall0.eq_1, DL.gAug.eq_1, addD_i, addD_s, addD_l, addD_t, subD_i, mulD_i, mulD_l, fdivD_i, modD_i, powD_i, ltD_i, ltD_s, leD_i, gtD_i, geD_i, isD_n, isnotD_n, isNonD_non, isNonD_bl, isNonD_int, isNonD_str, isNonD_lst, isNonD_tup, negD_i, iaddD_i, truD_non, truD_bl, truD_int, truD_str, truD_lst, truD_tup, someK_some, ixD_l, ixD_t, fAbs_i, fInt_i, fInt_b, fMin2_i, fLen_l, fLen_t, fLen_s, fList_l, fList_t, fTuple_l, fTuple_t, optBK_some, fIsi_non, fIsi_bl, fIsi_int, fIsi_str, fIsi_lst, fIsi_tup, List.getElem?_cons_zero, List.getElem?_cons_succ, List.set_cons_zero, List.set_cons_succ, DL.ggName.eq_1, ggNil0, ggCons1, ggTup2, ggTup3, DL.gFor.eq_1, DL.giSeq.eq_1, DL.gLc.eq_1, DL.gYes.eq_1, DL.wipeR.eq_1, true_and, and_true, at_0, at_1, at_2, kit_int_int, kit_bool_int, kit_str_int, kit_non_int, kit_list_int, kit_tuple_int, kit_int_bool, kit_bool_bool, kit_str_bool, kit_non_bool, kit_list_bool, kit_tuple_bool, kit_int_str, kit_bool_str, kit_str_str, kit_non_str, kit_list_str, kit_tuple_str, kit_int_list, kit_bool_list, kit_str_list, kit_non_list, kit_list_list, kit_tuple_list, kit_int_tuple, kit_bool_tuple, kit_str_tuple, kit_non_tuple, kit_list_tuple, kit_tuple_tuple, eqD_i, neD_i, eqD_s, neD_s, eqD_f, neD_f, Nat.zero_add, Nat.reduceAdd, nc0, nc1, nc2, nc3, nc4, nc5, nc6, nc7, nc8, nc9, eq_self, decide_true, decide_false, Int.reduceEq, Int.reduceLT, Int.reduceLE, Int.reduceNeg, Bool.not_true, Bool.not_false, Bool.false_eq_true, if_true, if_false, ↓reduceIte, false_and, and_false, List.all_cons, List.all_nil, List.any_cons, List.any_nil, id_eq, Bool.and_true, Bool.true_and, Bool.or_false, Bool.false_or, Bool.and_false, Bool.false_and, DL.gCut.eq_1, eqD_b, neD_b, DL.giZip.eq_1, reduceCtorEq, Bool.true_eq_false, Bool.false_eq_true, DL.gRevL.eq_1, DL.gSl.eq_1, DL.goNone.eq_1, DL.goSome.eq_1, slD_l, ne_eq, not_false_eq_true, not_true_eq_false, DL.gBM.eq_1, isTy_l, isTy_s, new_at, new_set, isTy_new, cellK_new, append_new, popAt_new, gFrz_eq, frzK_new, fLen_new, fTuple_new, ixD_new, slA_l, slA_t, slA_new, addTD_t, addCD_l, mulCD_l, isbD_b, isnotbD_b, mSplitC_s, DL.gLstC.eq_1, DL.gTr.eq_1, DL.ggSub.eq_1, lstK_l, lstK_r, addLD_eq]
  have lo : ∀ {zs : List D} {s12 : Option D}, LF zs → BP M n j [s0, s1, s2, some (.int way), some (.int at_), s5, some (.int ag), s7, s8, some word, s10] [s0, s1, s2, some (.int way), some (.int at_), s5, some (.int ag), s7, s8, some word, s10, some (.lst zs), s12] ⟨M, n⟩ := fun {zs} {s12} h => ⟨zs, s12, h, .inl ⟨rfl, rfl⟩⟩
  have so : ∀ {d : D}, RowF d → BP M n j [s0, s1, s2, some (.int way), some (.int at_), s5, some (.int ag), s7, s8, some word, s10] [s0, s1, s2, some (.int way), some (.int at_), s5, some (.int ag), s7, s8, some word, s10, some (.rf j), s12] ⟨M.set j (.lst (xs.set at_.toNat d)), n⟩ := fun {d} h => ⟨_, s12, ⟨set_mem hx.row h, by rw [List.length_set]; omega⟩, .inr ⟨rfl, rfl⟩⟩
  have rc : ∀ {lo hi : Option Int}, ∀ x ∈ DL.cutD xs lo hi, RowF x := fun x h => hx.row x (cut_mem h)
  have app : ∀ {a b : List D}, (∀ x ∈ a, RowF x) → (∀ x ∈ b, RowF x) → ∀ x ∈ a ++ b, RowF x := fun ha hb x h => (List.mem_append.mp h).elim (ha x) (hb x)
  have lt := cut_to (xs := xs) a0 (Int.le_of_lt a1)
  refine ite2 (fun _ => ?_) (fun _ => ite2 (fun _ => ?_) (fun _ => ite2 (fun _ => ?_) (fun _ => ite2 (fun _ => ?_) (fun _ => ite2 (fun _ => ?_) (fun _ => ite2 (fun _ => ?_) (fun _ => ?_))))))
  · rw [slA_at hj, ixD_at hj]
    refine at_all RowF a0 a1 hx.row fun x hr => ?_
    refine ⟨by decide, by omega, by omega, le_sl (by omega), ?_⟩
    have rl : (List.replicate ag.toNat [x]).flatten.length ≤ 2 := by
      rw [rep_flen]
      show ag.toNat * 1 ≤ 2
      omega
    have lf := cut_fr (xs := xs) (i := at_) a0
    simp only [addD_l]
    have l1 : (DL.cutD xs none (some at_) ++ (List.replicate ag.toNat [x]).flatten).length + (DL.cutD xs (some at_) none).length ≤ 8 := by
      rw [lt, lf, List.length_append, List.length_take, List.length_drop]
      omega
    refine ⟨le_sl (by rw [List.length_append] at l1; omega), ?_⟩
    rw [slA_at hj]
    refine ⟨le_sl (by omega), lo ⟨app (app rc fun y hy => ?_) rc, by rw [List.length_append]; exact l1⟩⟩
    have := rep_mem hy
    rw [List.mem_singleton.mp this]
    exact hr
  · rw [slA_at hj, slA_at hj]
    have lf := cut_fr (xs := xs) (i := at_ + 2) (by omega)
    have lm : (DL.cutD xs (some at_) (some (at_ + 2))).length ≤ xs.length - at_.toNat ∧ (DL.cutD xs (some at_) (some (at_ + 2))).length ≤ 2 := by
      obtain ⟨i, hi⟩ := Int.eq_ofNat_of_zero_le a0
      unfold DL.cutD
      have e1 : (some ((i : Int) + 2)) = some ((i + 2 : Nat) : Int) := by simp
      rw [hi, e1, HT.sIx_nat, HT.sIx_nat, List.length_take, List.length_drop]
      omega
    show addD _ _ _ _
    simp only [addD_l]
    have l1 : (DL.cutD xs none (some at_) ++ (DL.cutD xs (some at_) (some (at_ + 2))).reverse).length + (DL.cutD xs (some (at_ + 2)) none).length ≤ 8 := by
      rw [lt, lf, List.length_append, List.length_take, List.length_drop, List.length_reverse]
      omega
    refine ⟨le_sl (by rw [List.length_append] at l1; omega), ?_⟩
    rw [slA_at hj]
    exact ⟨le_sl (by omega), lo ⟨app (app rc fun y hy => rc y (List.mem_reverse.mp hy)) rc, by rw [List.length_append]; exact l1⟩⟩
  · rw [cellK_at hj]
    exact lo ⟨fun y hy => hx.row y (List.mem_reverse.mp hy), by rw [List.length_reverse]; omega⟩
  · rw [slA_at hj, slA_at hj]
    have l1 := cut_len (xs := xs) (lo := some (at_ + 1)) (hi := none)
    have lf := cut_fr (xs := xs) (i := at_ + 1) (by omega)
    have l1 : (DL.cutD xs none (some at_)).length + (DL.cutD xs (some (at_ + 1)) none).length ≤ 8 := by
      rw [lt, lf, List.length_take, List.length_drop]
      omega
    simp only [addD_l]
    exact ⟨le_sl (by omega), lo ⟨app rc rc, by rw [List.length_append]; exact l1⟩⟩
  · refine ⟨by decide, ?_⟩
    rw [ixD_at hj]
    refine at_all _ a0 a1 hx.st ?_
    rintro _ ⟨s, rfl, sb⟩
    rw [show stD s = .tup (stL s) from rfl, slA_t, addTD_t]
    refine ⟨le_sl (by rw [cut_fr (by decide)]; show 9 ≤ 100000; decide), ?_⟩
    rw [cellK_at hj]
    refine ⟨a0, a1, so (row_tup (fun x hx2 => ?_) ?_)⟩
    · rcases List.mem_append.mp hx2 with hx2 | hx2
      · rw [List.mem_singleton.mp hx2]
        exact hw
      · exact it_stL sb x (cut_mem hx2)
    · rw [cut_fr (by decide)]
      show 9 ≤ 12
      decide
  · rw [ixD_at hj]
    refine at_all _ a0 a1 hx.st ?_
    rintro _ ⟨s, rfl, sb⟩
    show cellK _ _ _
    rw [cellK_at hj]
    exact ⟨a0, a1, so (row_lst (it_stL sb) (by show 9 ≤ 12; decide))⟩
  · rw [slA_at hj, cellK_at hj]
    show _ ∧ _
    have := cut_len (xs := xs) (lo := none) (hi := some 1)
    have l1 := cut_to (xs := xs) (i := 1) (by decide) (by omega)
    refine ⟨le_sl (by omega), lo ⟨app hx.row rc, ?_⟩⟩
    rw [List.length_append, l1, List.length_take]
    have : (1 : Int).toNat = 1 := rfl
    omega

theorem ok_app {a b : Str} (ha : PyData.strOk a = true) (hb : PyData.strOk b = true) : PyData.strOk (a ++ b) = true := by
  have e : (a ++ b).cps = a.cps ++ b.cps := rfl
  unfold PyData.strOk at *
  rw [e, Array.all_append, ha, hb]
  rfl
theorem cutS_ok {z : Str} {lo hi : Option Int} (h : PyData.strOk z = true) : PyData.strOk (L2.cutS z lo hi) = true ∧ (L2.cutS z lo hi).length ≤ z.length := by
  unfold L2.cutS
  refine ⟨?_, ?_⟩
  · unfold PyData.strOk at h ⊢
    rw [Array.all_eq_true'] at h ⊢
    intro c hc
    exact h c (Array.mem_toList_iff.mp (List.mem_of_mem_drop (List.mem_of_mem_take (List.mem_toArray.mp hc))))
  · show (List.toArray _).size ≤ z.length
    rw [List.size_toArray, List.length_take, List.length_drop]
    have : z.cps.toList.length = z.length := Array.length_toList
    omega
theorem letter_ok2 {s : Str} (h : Letter s) : PyData.strOk s = true ∧ s.length = 1 := ⟨letter_ok h, h.1⟩
theorem at_last {xs : List D} {Q : D → Prop} (hQ : ∀ x ∈ xs, Q x) (h : 0 < xs.length) : ∃ x, Q x ∧ atI xs (-1) = some x := by
  obtain ⟨ys, x, rfl⟩ : ∃ ys x, xs = ys ++ [x] := ⟨xs.dropLast, xs.getLast (by intro z; rw [z] at h; exact absurd h (by decide)), (List.dropLast_concat_getLast _).symm⟩
  exact ⟨x, hQ x (by simp), at_last1 _ _⟩
def BInv (M : List Cell) (xs ys : List D) (at_ : Int) (s : List (Option D)) (n : Nat) (rem : List D) (ρ : Rho) (w' : Wd) : Prop := ∃ (s11 s12 : Option D) (c' : Nat), n ≤ c' ∧ ρ = s ++ [some (.rf M.length), s11, s12] ∧
  ((rem = [.rf (M.length + 1), .rf (M.length + 2)] ∧ w' = ⟨M ++ [.lst [], .lst xs, .lst ys], some c'⟩) ∨
   (∃ us c1, rem = [.rf (M.length + 2)] ∧ LF us ∧ w' = ⟨M ++ [.lst [.lst us], c1, .lst ys], some c'⟩) ∨
   (∃ us vs c1 c2, rem = [] ∧ LF us ∧ LF vs ∧ w' = ⟨M ++ [.lst [.lst us, .lst vs], c1, c2], some c'⟩))
theorem app_at {M : List Cell} {a b c : Cell} : (M ++ [a, b, c])[M.length]? = some a ∧ (M ++ [a, b, c])[M.length + 1]? = some b ∧ (M ++ [a, b, c])[M.length + 2]? = some c := by
  refine ⟨?_, ?_, ?_⟩ <;> rw [List.getElem?_append_right (by omega)] <;> simp
theorem app_set {M : List Cell} {a b c d : Cell} : (M ++ [a, b, c]).set M.length d = M ++ [d, b, c] ∧ (M ++ [a, b, c]).set (M.length + 1) d = M ++ [a, d, c] ∧ (M ++ [a, b, c]).set (M.length + 2) d = M ++ [a, b, d] := by
  refine ⟨?_, ?_, ?_⟩ <;> rw [List.set_append_right (h := by omega)] <;> simp
theorem app_ap {M : List Cell} {fs : List D} {b c : Cell} {n : Option Nat} {d : D} {k : KD} (hl : fs.length ≤ 2) (h : k .non ⟨M ++ [.lst (fs ++ [d]), b, c], n⟩) : mAppend (.rf M.length) [d] ⟨M ++ [.lst fs, b, c], n⟩ k := by
  show cellK M.length _ _
  rw [cellK_at app_at.1]
  refine ⟨lt_sl (by omega), ?_⟩
  rw [app_set.1]
  exact h
theorem app_ty {M : List Cell} {fs : List D} {b c : Cell} {n : Option Nat} : isTy "list" (.rf M.length) ⟨M ++ [.lst fs, b, c], n⟩ := by
  unfold isTy
  simp
def sp__law_both_bent : GF := fun ds w _ k => ∃ (xs ys : List D) (c n : Nat), ds = [.st, .lst xs, .lst ys] ∧ (RowsB xs ∧ RowsB ys ∧ xs.length = ys.length ∧ w.n = some c ∧ n + 6 ≤ c) ∧ ∀ (us vs : List D) c', LF us → LF vs → n ≤ c' → k (.tup [.lst us, .lst vs]) ⟨w.M, some c'⟩
abbrev s__law_both_bent : Stmt := topS 31
theorem sc__law_both_bent : FnScope ["_law_state", "_law_one", "_law_other", "_law_way", "_law_at", "_law_name", "_law_again", "_law_letter", "_law_called", "_law_word", "_law_found", "_law_some", "_law_pair_here"] ["_law_state", "_law_one", "_law_other"] (defScope s__law_both_bent) := ⟨rfl, rfl, rfl, by decide +kernel, rfl, by decide +kernel, by decide +kernel⟩
def g__law_both_bent : GS := (gSeq (gPar3 3 4 5 (gaCons (gCall0 2 sp__law_take (gaCons (gVar 0) (gaCons (gC (.int 9)) gaNil))) (gaCons (gCall0 2 sp__law_take (gaCons (gVar 0) (gaCons (gCB fLen (gaCons (gVar 1) gaNil)) gaNil))) (gaCons (gBin ixD (gBin ixD (gVar 1) (gUn negD (gC (.int 1)))) (gC (.int 0))) gaNil))))
  (gSeq (gPar 6 7 (gaCons (gBin ixD (DL.gLst (gaCons (gC (.int 1)) (gaCons (gC (.int 1)) (gaCons (gC (.int 2)) gaNil)))) (gCall0 2 sp__law_take (gaCons (gVar 0) (gaCons (gC (.int 3)) gaNil)))) (gaCons (gBin ixD (gC (.str "abcdefghijklmnopqrstuvwxyz")) (gCall0 2 sp__law_take (gaCons (gVar 0) (gaCons (gC (.int 26)) gaNil)))) gaNil)))
  (gSeq (gSet 8 (DL.gLst (gaCons (gVar 7) (gaCons (gBin ixD (gBin ixD (gVar 1) (gCall0 2 sp__law_take (gaCons (gVar 0) (gaCons (gCB fLen (gaCons (gVar 1) gaNil)) gaNil)))) (gC (.int 0))) (gaCons (gSl slS (gBin addD (gVar 5) (gC (.str "z"))) goNone (goSome (gC (.int 8)))) (gaCons (gC (.str "")) (gaCons (gC (.str "A")) (gaCons (gC (.str "abcdefghi")) (gaCons (gBin addD (gVar 5) (gC (.str " "))) (gaCons (gC (.int 7)) gaNil))))))))))
  (gSeq (gSet 9 (gBin ixD (gVar 8) (gCall0 2 sp__law_take (gaCons (gVar 0) (gaCons (gC (.int 8)) gaNil)))))
  (gSeq (gSet 10 (gLstC gaNil))
  (gSeq (gFor (giSeq (gTup (gaCons (gCB fListC (gaCons (gVar 1) gaNil)) (gaCons (gCB fListC (gaCons (gVar 2) gaNil)) gaNil)))) (ggName 11) (gCut (gIfS (gB (gBin ltD (gVar 3) (gC (.int 2)))) (gSet 11 (gBin addD (gBin addD (gSl slA (gVar 11) goNone (goSome (gVar 4))) (gBin mulD (DL.gLst (gaCons (gBin ixD (gVar 11) (gVar 4)) gaNil)) (gVar 6))) (gSl slA (gVar 11) (goSome (gVar 4)) goNone))) (gIfS (gB (gBin eqD (gVar 3) (gC (.int 2)))) (gSeq (gSet 12 (gSl slA (gVar 11) (goSome (gVar 4)) (goSome (gBin addD (gVar 4) (gC (.int 2))))))
  (gSet 11 (gBin addD (gBin addD (gSl slA (gVar 11) goNone (goSome (gVar 4))) (gRevA (gVar 12))) (gSl slA (gVar 11) (goSome (gBin addD (gVar 4) (gC (.int 2)))) goNone)))) (gIfS (gB (gBin eqD (gVar 3) (gC (.int 3)))) (gSet 11 (gRevA (gVar 11))) (gIfS (gB (gBin eqD (gVar 3) (gC (.int 4)))) (gSet 11 (gBin addD (gSl slA (gVar 11) goNone (goSome (gVar 4))) (gSl slA (gVar 11) (goSome (gBin addD (gVar 4) (gC (.int 1)))) goNone))) (gIfS (gB (gBin ltD (gVar 3) (gC (.int 7)))) (gAsg (gBin addTD (gTup (gaCons (gVar 9) gaNil)) (gSl slA (gBin ixD (gVar 11) (gVar 4)) (goSome (gC (.int 1))) goNone)) (ggSub (gVar 11) (gVar 4))) (gIfS (gB (gBin eqD (gVar 3) (gC (.int 7)))) (gAsg (gCB fList (gaCons (gBin ixD (gVar 11) (gVar 4)) gaNil)) (ggSub (gVar 11) (gVar 4))) (gSet 11 (gBin addLD (gVar 11) (gSl slA (gVar 11) goNone (goSome (gC (.int 1))))))))))))
  (gDrop (gBM "list" mAppend (gVar 10) (gaCons (gFrzO (gVar 11)) gaNil)))))
  (gRet (gTup (gaCons (gBin ixD (gVar 10) (gC (.int 0))) (gaCons (gBin ixD (gVar 10) (gC (.int 1))) gaNil))))))))))
theorem w__law_both_bent {P : Program} {w : World} {K : PySem.W.Frag} {mg : Str → Option Value} {base : Heap} (T : DefAt K mg "_law_both_bent" s__law_both_bent ["_law_state", "_law_one", "_law_other"]) (B : Blt mg) (F__law_take : FnAt P w K mg base CX0 1 "_law_take" 2 sp__law_take) : FnAt P w K mg base CX0 2 "_law_both_bent" 3 (sem0 13 g__law_both_bent) := by
  have nd := sc__law_both_bent.nd
  exact T.fn0 sc__law_both_bent (fun f cdv A outer s H E hr => (dss_cons (ds_par3 (i := 3) (j := 4) (l := 5) rfl nd rfl rfl rfl (by decide) (by decide) (by decide) rfl rfl rfl (da_cons (de_call0 F__law_take hr (by rfl) (da_cons (de_var 0) (da_cons de_int da_nil))) (da_cons (de_call0 F__law_take hr (by rfl) (da_cons (de_var 0) (da_cons (de_len B (by rfl) (da_cons (de_var 1) da_nil)) da_nil))) (da_cons (de_ix (de_ix (de_var 1) (de_neg de_int)) de_int) da_nil))) (by rfl))
  (dss_cons (ds_par (i := 6) (j := 7) rfl nd rfl rfl (by decide) rfl rfl (da_cons (de_ix (de_lst (da_cons de_int (da_cons de_int (da_cons de_int da_nil)))) (de_call0 F__law_take hr (by rfl) (da_cons (de_var 0) (da_cons de_int da_nil)))) (da_cons (de_ix de_str (de_call0 F__law_take hr (by rfl) (da_cons (de_var 0) (da_cons de_int da_nil)))) da_nil)) (by rfl))
  (dss_cons (ds_set (i := 8) nd rfl (by first | exact Or.inl rfl | exact Or.inr rfl) (de_lst (da_cons (de_var 7) (da_cons (de_ix (de_ix (de_var 1) (de_call0 F__law_take hr (by rfl) (da_cons (de_var 0) (da_cons (de_len B (by rfl) (da_cons (de_var 1) da_nil)) da_nil)))) de_int) (da_cons (de_slS (de_add (de_var 5) de_str) do_none (do_some de_int)) (da_cons de_str (da_cons de_str (da_cons de_str (da_cons (de_add (de_var 5) de_str) (da_cons de_int da_nil))))))))))
  (dss_cons (ds_set (i := 9) nd rfl (by first | exact Or.inl rfl | exact Or.inr rfl) (de_ix (de_var 8) (de_call0 F__law_take hr (by rfl) (da_cons (de_var 0) (da_cons de_int da_nil)))))
  (dss_cons (ds_set (i := 10) nd rfl (by first | exact Or.inl rfl | exact Or.inr rfl) (de_lstC da_nil))
  (dss_cons (ds_for PassesOwn.never rfl (di_seq (de_tup (da_cons (de_listC B (by rfl) (da_cons (de_var 1) da_nil)) (da_cons (de_listC B (by rfl) (da_cons (de_var 2) da_nil)) da_nil)))) (dg_name (i := 11) nd rfl (by first | exact Or.inl rfl | exact Or.inr rfl)) (dss_cut (ds_if (dt_lt (de_var 3) de_int) (dss_one (ds_set (i := 11) nd rfl (by first | exact Or.inl rfl | exact Or.inr rfl) (de_add (de_add (de_slA (de_var 11) do_none (do_some (de_var 4))) (de_mul (de_lst (da_cons (de_ix (de_var 11) (de_var 4)) da_nil)) (de_var 6))) (de_slA (de_var 11) (do_some (de_var 4)) do_none)))) (dss_one (ds_if (dt_eq hr (de_var 3) de_int) (dss_cons (ds_set (i := 12) nd rfl (by first | exact Or.inl rfl | exact Or.inr rfl) (de_slA (de_var 11) (do_some (de_var 4)) (do_some (de_add (de_var 4) de_int))))
  (dss_one (ds_set (i := 11) nd rfl (by first | exact Or.inl rfl | exact Or.inr rfl) (de_add (de_add (de_slA (de_var 11) do_none (do_some (de_var 4))) (de_revA (de_var 12))) (de_slA (de_var 11) (do_some (de_add (de_var 4) de_int)) do_none))))) (dss_one (ds_if (dt_eq hr (de_var 3) de_int) (dss_one (ds_set (i := 11) nd rfl (by first | exact Or.inl rfl | exact Or.inr rfl) (de_revA (de_var 11)))) (dss_one (ds_if (dt_eq hr (de_var 3) de_int) (dss_one (ds_set (i := 11) nd rfl (by first | exact Or.inl rfl | exact Or.inr rfl) (de_add (de_slA (de_var 11) do_none (do_some (de_var 4))) (de_slA (de_var 11) (do_some (de_add (de_var 4) de_int)) do_none)))) (dss_one (ds_if (dt_lt (de_var 3) de_int) (dss_one (ds_asg (de_addt (de_tup (da_cons (de_var 9) da_nil)) (de_slA (de_ix (de_var 11) (de_var 4)) (do_some de_int) do_none)) (dg_sub (E := E0) (de_var 11) (de_var 4)))) (dss_one (ds_if (dt_eq hr (de_var 3) de_int) (dss_one (ds_asg (de_list B (by rfl) (da_cons (de_ix (de_var 11) (de_var 4)) da_nil)) (dg_sub (E := E0) (de_var 11) (de_var 4)))) (dss_one (ds_set (i := 11) nd rfl (by first | exact Or.inl rfl | exact Or.inr rfl) (de_addl (de_var 11) (de_slA (de_var 11) do_none (do_some de_int))))))))))))))))
  (dss_one (ds_expr (de_bm PySem.F.plainAttrs_list PySem.F.slot_list_append (by rfl) mt_append ok_append (de_var 10) (da_cons (de_frzO (de_var 11)) da_nil) (by rfl) (by rfl) (by rfl) (by rfl) (by rfl))))))
  (dss_one (ds_ret (de_tup (da_cons (de_ix (de_var 10) de_int) (da_cons (de_ix (de_var 10) de_int) da_nil))))))))))))

theorem v__law_both_bent : ∀ ds w kx k, sp__law_both_bent ds w kx k → gTr (sem0 13 g__law_both_bent) ds w kx k := by
  rintro ds w kx k ⟨xs, ys, c, n, rfl, ⟨hx, hy, hxy, hn, hc⟩, hk⟩
  have e : rho 13 [D.st, D.lst xs, D.lst ys] = [some .st, some (.lst xs), some (.lst ys), none, none, none, none, none, none, none, none, none, none] := rfl
  have hp := hx.ne
  have hl := hx.le
  have lx : 0 < ((xs.length : Nat) : Int) ∧ (((xs.length : Nat) : Int)).natAbs.log2 < 9000 := ⟨by omega, log_of (Nat.lt_of_le_of_lt (show ((xs.length : Nat) : Int).natAbs ≤ 8 by omega) (by decide))⟩
  simp -implicitDefEqProofs only [g__law_both_bent.eq_1, e, sp__law_take.eq_1, DL.gPar3.eq_1, DL.sem0.eq_1, List.map_cons, List.map_nil, List.length_cons, List.length_nil, DL.gSeq.eq_1, DL.gNext.eq_1, DL.gRet.eq_1, DL.gRetN.eq_1, DL.gIfS.eq_1, DL.gSet.eq_1, DL.gPar.eq_1, DL.gAsg.eq_1, DL.gDrop.eq_1, DL.gVar.eq_1, DL.gC.eq_1, DL.gBin.eq_1, DL.gUn.eq_1, DL.gB.eq_1, DL.gTru.eq_1, DL.gAnd.eq_1, DL.gOr.eq_1, DL.gNot.eq_1, DL.gAndV.eq_1, DL.gOrV.eq_1, DL.gNotV.eq_1, DL.gIf.eq_1, DL.gChain.eq_1, DL.gaNil.eq_1, DL.gaCons.eq_1, DL.gTup.eq_1, DL.gLst.eq_1, DL.gCB.eq_1, DL.gCall0.eq_1, DL.gAug.eq_1, addD_i, addD_s, addD_l, addD_t, subD_i, mulD_i, mulD_l, fdivD_i, modD_i, powD_i, ltD_i, ltD_s, leD_i, gtD_i, geD_i, isD_n, isnotD_n, isNonD_non, isNonD_bl, isNonD_int, isNonD_str, isNonD_lst, isNonD_tup, negD_i, iaddD_i, truD_non, truD_bl, truD_int, truD_str, truD_lst, truD_tup, someK_some, ixD_l, ixD_t, fAbs_i, fInt_i, fInt_b, fMin2_i, fLen_l, fLen_t, fLen_s, fList_l, fList_t, fTuple_l, fTuple_t, optBK_some, fIsi_non, fIsi_bl, fIsi_int, fIsi_str, fIsi_lst, fIsi_tup, List.getElem?_cons_zero, List.getElem?_cons_succ, List.set_cons_zero, List.set_cons_succ, DL.ggName.eq_1, ggNil0, ggCons1, ggTup2, ggTup3, DL.gFor.eq_1, DL.giSeq.eq_1, DL.gLc.eq_1, DL.gYes.eq_1, DL.wipeR.eq_1, true_and, and_true, at_0, at_1, at_2, kit_int_int, kit_bool_int, kit_str_int, kit_non_int, kit_list_int, kit_tuple_int, kit_int_bool, kit_bool_bool, kit_str_bool, kit_non_bool, kit_list_bool, kit_tuple_bool, kit_int_str, kit_bool_str, kit_str_str, kit_non_str, kit_list_str, kit_tuple_str, kit_int_list, kit_bool_list, kit_str_list, kit_non_list, kit_list_list, kit_tuple_list, kit_int_tuple, kit_bool_tuple, kit_str_tuple, kit_non_tuple, kit_list_tuple, kit_tuple_tuple, eqD_i, neD_i, eqD_s, neD_s, eqD_f, neD_f, Nat.zero_add, Nat.reduceAdd, nc0, nc1, nc2, nc3, nc4, nc5, nc6, nc7, nc8, nc9, eq_self, decide_true, decide_false, Int.reduceEq, Int.reduceLT, Int.reduceLE, Int.reduceNeg, Bool.not_true, Bool.not_false, Bool.false_eq_true, if_true, if_false, ↓reduceIte, false_and, and_false, List.all_cons, List.all_nil, List.any_cons, List.any_nil, id_eq, Bool.and_true, Bool.true_and, Bool.or_false, Bool.false_or, Bool.and_false, Bool.false_and, DL.gCut.eq_1, eqD_b, neD_b, DL.giZip.eq_1, reduceCtorEq, Bool.true_eq_false, Bool.false_eq_true, DL.gRevL.eq_1, DL.gSl.eq_1, DL.goNone.eq_1, DL.goSome.eq_1, slD_l, ne_eq, not_false_eq_true, not_true_eq_false, DL.gBM.eq_1, isTy_l, isTy_s, new_at, new_set, isTy_new, cellK_new, append_new, popAt_new, gFrz_eq, frzK_new, fLen_new, fTuple_new, ixD_new, slA_l, slA_t, slA_new, addTD_t, addCD_l, mulCD_l, isbD_b, isnotbD_b, mSplitC_s, DL.gLstC.eq_1, DL.gTr.eq_1, DL.ggSub.eq_1, lstK_l, lstK_r, addLD_eq]
  refine take_use (n + 5) hn (by omega) ⟨by decide, log_of (by decide)⟩ fun way c1 a0 a1 hc1 => ?_
  refine take_use (n + 4) rfl (by omega) lx fun at_ c2 b0 b1 hc2 => ?_
  obtain ⟨l, hl, el⟩ := at_last hx.st hp
  rw [el, someK_some]
  obtain ⟨s, rfl, sb⟩ := hl
  have ix0 : ∀ {s : St} {w : Wd} {K : KD}, ixD (stD s) (.int 0) w K = K (.str s.nm) w := rfl
  rw [ix0]
  refine ⟨by decide, take_use (n + 3) rfl (by omega) ⟨by decide, log_of (by decide)⟩ fun r3 c3 d0 d1 hc3 => ?_⟩
  refine ix_all (fun d => ∃ g : Int, d = .int g ∧ 0 ≤ g ∧ g ≤ 2) d0 d1 (all_cons ⟨1, rfl, by decide⟩ (all_cons ⟨1, rfl, by decide⟩ (all_cons ⟨2, rfl, by decide⟩ all_nil))) ?_
  rintro _ ⟨ag, rfl, g0, g1⟩
  refine take_use (n + 2) rfl (by omega) ⟨by decide, log_of (by decide)⟩ fun r4 c4 e0 e1 hc4 => ?_
  refine ix_letter e0 e1 fun lt hlt => ?_
  refine take_use (n + 1) rfl (by omega) lx fun r5 c5 f0 f1 hc5 => ?_
  rw [ixD_l]
  refine at_all _ f0 f1 hx.st ?_
  rintro _ ⟨t, rfl, tb⟩
  rw [ix0]
  simp -implicitDefEqProofs only [DL.sem0.eq_1, List.map_cons, List.map_nil, List.length_cons, List.length_nil, DL.gSeq.eq_1, DL.gNext.eq_1, DL.gRet.eq_1, DL.gRetN.eq_1, DL.gIfS.eq_1, DL.gSet.eq_1, DL.gPar.eq_1, DL.gAsg.eq_1, DL.gDrop.eq_1, DL.gVar.eq_1, DL.gC.eq_1, DL.gBin.eq_1, DL.gUn.eq_1, DL.gB.eq_1, DL.gTru.eq_1, DL.gAnd.eq_1, DL.gOr.eq_1, DL.gNot.eq_1, DL.gAndV.eq_1, DL.gOrV.eq_1, DL.gNotV.eq_1, DL.gIf.eq_1, DL.gChain.eq_1, DL.gaNil.eq_1, DL.gaCons.eq_1, DL.gTup.eq_1, DL.gLst.eq_1, DL.gCB.eq_1, DL.gCall0.eq_1, DL.gAug.eq_1, addD_i, addD_s, addD_l, addD_t, subD_i, mulD_i, mulD_l, fdivD_i, modD_i, powD_i, ltD_i, ltD_s, leD_i, gtD_i, geD_i, isD_n, isnotD_n, isNonD_non, isNonD_bl, isNonD_int, isNonD_str, isNonD_lst, isNonD_tup, negD_i, iaddD_i, truD_non, truD_bl, truD_int, truD_str, truD_lst, truD_tup, someK_some, ixD_l, ixD_t, fAbs_i, fInt_i, fInt_b, fMin2_i, fLen_l, fLen_t, fLen_s, fList_l, fList_t, fTuple_l, fTuple_t, optBK_some, fIsi_non, fIsi_bl, fIsi_int, fIsi_str, fIsi_lst, fIsi_tup, List.getElem?_cons_zero, List.getElem?_cons_succ, List.set_cons_zero, List.set_cons_succ, DL.ggName.eq_1, ggNil0, ggCons1, ggTup2, ggTup3, DL.gFor.eq_1, DL.giSeq.eq_1, DL.gLc.eq_1, DL.gYes.eq_1, DL.wipeR.eq_1, true_and, and_true, at_0, at_1, at_2, kit_int_int, kit_bool_int, kit_str_int, kit_non_int, kit_list_int, kit_tuple_int, kit_int_bool, kit_bool_bool, kit_str_bool, kit_non_bool, kit_list_bool, kit_tuple_bool, kit_int_str, kit_bool_str, kit_str_str, kit_non_str, kit_list_str, kit_tuple_str, kit_int_list, kit_bool_list, kit_str_list, kit_non_list, kit_list_list, kit_tuple_list, kit_int_tuple, kit_bool_tuple, kit_str_tuple, kit_non_tuple, kit_list_tuple, kit_tuple_tuple, eqD_i, neD_i, eqD_s, neD_s, eqD_f, neD_f, Nat.zero_add, Nat.reduceAdd, nc0, nc1, nc2, nc3, nc4, nc5, nc6, nc7, nc8, nc9, eq_self, decide_true, decide_false, Int.reduceEq, Int.reduceLT, Int.reduceLE, Int.reduceNeg, Bool.not_true, Bool.not_false, Bool.false_eq_true, if_true, if_false, ↓reduceIte, false_and, and_false, List.all_cons, List.all_nil, List.any_cons, List.any_nil, id_eq, Bool.and_true, Bool.true_and, Bool.or_false, Bool.false_or, Bool.and_false, Bool.false_and, DL.gCut.eq_1, eqD_b, neD_b, DL.giZip.eq_1, reduceCtorEq, Bool.true_eq_false, Bool.false_eq_true, DL.gRevL.eq_1, DL.gSl.eq_1, DL.goNone.eq_1, DL.goSome.eq_1, slD_l, ne_eq, not_false_eq_true, not_true_eq_false, DL.gBM.eq_1, isTy_l, isTy_s, new_at, new_set, isTy_new, cellK_new, append_new, popAt_new, gFrz_eq, frzK_new, fLen_new, fTuple_new, ixD_new, slA_l, slA_t, slA_new, addTD_t, addCD_l, mulCD_l, isbD_b, isnotbD_b, mSplitC_s, DL.gLstC.eq_1, DL.gTr.eq_1, DL.ggSub.eq_1, lstK_l, lstK_r, addLD_eq]
  obtain ⟨m1, m2, m3⟩ := nameB_ok sb.ok.nm
  obtain ⟨u1, u2, u3⟩ := nameB_ok tb.ok.nm
  have z1 : (Str.ofString "z").length = 1 ∧ PyData.strOk (Str.ofString "z") = true := by decide +kernel
  have z2 : (Str.ofString " ").length = 1 ∧ PyData.strOk (Str.ofString " ") = true := by decide +kernel
  have cz := cutS_ok (z := s.nm ++ Str.ofString "z") (lo := none) (hi := some 8) (ok_app m1 z1.2)
  have lz : (s.nm ++ Str.ofString "z").length ≤ 9 := by rw [len_app]; omega
  refine ⟨le_sl (by omega), ?_⟩
  refine (show slS (.str _) _ _ _ _ = (_ ∧ _) from rfl) ▸ ?_
  refine ⟨le_sl (by omega), le_sl (by omega), by decide, take_use n rfl (by omega) ⟨by decide, log_of (by decide)⟩ fun r6 c6 h0 h1 hc6 => ?_⟩
  have is : ∀ {s : Str}, PyData.strOk s = true → s.length ≤ 100 → ItF (.str s) := fun h l => it_str (by rw [h, decide_eq_true l]; rfl)
  have il := letter_ok2 hlt
  refine ix_all ItF h0 h1 (all_cons (is il.1 (by omega)) (all_cons (is u1 (by omega)) (all_cons (is cz.1 (by omega)) (all_cons (is (by decide +kernel) (by decide +kernel)) (all_cons (is (by decide +kernel) (by decide +kernel)) (all_cons (is (by decide +kernel) (by decide +kernel)) (all_cons (is (ok_app m1 z2.2) (by rw [len_app]; omega)) (all_cons (it_int (by decide)) all_nil)))))))) ?_
  intro word hword
  generalize D.lst [D.str lt, D.str t.nm, _, _, _, _, _, _] = called
  simp -implicitDefEqProofs only [DL.sem0.eq_1, List.map_cons, List.map_nil, List.length_cons, List.length_nil, DL.gSeq.eq_1, DL.gNext.eq_1, DL.gRet.eq_1, DL.gRetN.eq_1, DL.gIfS.eq_1, DL.gSet.eq_1, DL.gPar.eq_1, DL.gAsg.eq_1, DL.gDrop.eq_1, DL.gVar.eq_1, DL.gC.eq_1, DL.gBin.eq_1, DL.gUn.eq_1, DL.gB.eq_1, DL.gTru.eq_1, DL.gAnd.eq_1, DL.gOr.eq_1, DL.gNot.eq_1, DL.gAndV.eq_1, DL.gOrV.eq_1, DL.gNotV.eq_1, DL.gIf.eq_1, DL.gChain.eq_1, DL.gaNil.eq_1, DL.gaCons.eq_1, DL.gTup.eq_1, DL.gLst.eq_1, DL.gCB.eq_1, DL.gCall0.eq_1, DL.gAug.eq_1, addD_i, addD_s, addD_l, addD_t, subD_i, mulD_i, mulD_l, fdivD_i, modD_i, powD_i, ltD_i, ltD_s, leD_i, gtD_i, geD_i, isD_n, isnotD_n, isNonD_non, isNonD_bl, isNonD_int, isNonD_str, isNonD_lst, isNonD_tup, negD_i, iaddD_i, truD_non, truD_bl, truD_int, truD_str, truD_lst, truD_tup, someK_some, ixD_l, ixD_t, fAbs_i, fInt_i, fInt_b, fMin2_i, fLen_l, fLen_t, fLen_s, fList_l, fList_t, fTuple_l, fTuple_t, optBK_some, fIsi_non, fIsi_bl, fIsi_int, fIsi_str, fIsi_lst, fIsi_tup, List.getElem?_cons_zero, List.getElem?_cons_succ, List.set_cons_zero, List.set_cons_succ, DL.ggName.eq_1, ggNil0, ggCons1, ggTup2, ggTup3, DL.gFor.eq_1, DL.giSeq.eq_1, DL.gLc.eq_1, DL.gYes.eq_1, DL.wipeR.eq_1, true_and, and_true, at_0, at_1, at_2, kit_int_int, kit_bool_int, kit_str_int, kit_non_int, kit_list_int, kit_tuple_int, kit_int_bool, kit_bool_bool, kit_str_bool, kit_non_bool, kit_list_bool, kit_tuple_bool, kit_int_str, kit_bool_str, kit_str_str, kit_non_str, kit_list_str, kit_tuple_str, kit_int_list, kit_bool_list, kit_str_list, kit_non_list, kit_list_list, kit_tuple_list, kit_int_tuple, kit_bool_tuple, kit_str_tuple, kit_non_tuple, kit_list_tuple, kit_tuple_tuple, eqD_i, neD_i, eqD_s, neD_s, eqD_f, neD_f, Nat.zero_add, Nat.reduceAdd, nc0, nc1, nc2, nc3, nc4, nc5, nc6, nc7, nc8, nc9, eq_self, decide_true, decide_false, Int.reduceEq, Int.reduceLT, Int.reduceLE, Int.reduceNeg, Bool.not_true, Bool.not_false, Bool.false_eq_true, if_true, if_false, ↓reduceIte, false_and, and_false, List.all_cons, List.all_nil, List.any_cons, List.any_nil, id_eq, Bool.and_true, Bool.true_and, Bool.or_false, Bool.false_or, Bool.and_false, Bool.false_and, DL.gCut.eq_1, eqD_b, neD_b, DL.giZip.eq_1, reduceCtorEq, Bool.true_eq_false, Bool.false_eq_true, DL.gRevL.eq_1, DL.gSl.eq_1, DL.goNone.eq_1, DL.goSome.eq_1, slD_l, ne_eq, not_false_eq_true, not_true_eq_false, DL.gBM.eq_1, isTy_l, isTy_s, new_at, new_set, isTy_new, cellK_new, append_new, popAt_new, gFrz_eq, frzK_new, fLen_new, fTuple_new, ixD_new, slA_l, slA_t, slA_new, addTD_t, addCD_l, mulCD_l, isbD_b, isnotbD_b, mSplitC_s, DL.gLstC.eq_1, DL.gTr.eq_1, DL.ggSub.eq_1, lstK_l, lstK_r, addLD_eq]
  have fl : ∀ {zs : List D} {M : List Cell} {n : Option Nat} {K : KD}, fListC [.lst zs] ⟨M, n⟩ K = K (.rf M.length) ⟨M ++ [.lst zs], n⟩ := rfl
  refine ⟨by decide, ?_⟩
  rw [fl, fl]
  refine ⟨by decide, BInv w.M xs ys at_ [some .st, some (.lst xs), some (.lst ys), some (.int way), some (.int at_), some (.str s.nm), some (.int ag), some (.str lt), some called, some word] n, ⟨none, none, c6, hc6, rfl, .inl ⟨by simp, by simp⟩⟩, ?_, ?_⟩
  · rintro ρ w' ⟨s11, s12, c', hc', rfl, ⟨h, _⟩ | ⟨us, c1, h, _⟩ | ⟨us, vs, c1, c2, _, lu, lv, rfl⟩⟩
    · cases h
    · cases h
    · refine ⟨trivial, ?_⟩
      have q1 := (app_at (M := w.M) (a := .lst [.lst us, .lst vs]) (b := c1) (c := c2)).1
      simp -implicitDefEqProofs only [List.cons_append, List.nil_append, DL.sem0.eq_1, List.map_cons, List.map_nil, List.length_cons, List.length_nil, DL.gSeq.eq_1, DL.gNext.eq_1, DL.gRet.eq_1, DL.gRetN.eq_1, DL.gIfS.eq_1, DL.gSet.eq_1, DL.gPar.eq_1, DL.gAsg.eq_1, DL.gDrop.eq_1, DL.gVar.eq_1, DL.gC.eq_1, DL.gBin.eq_1, DL.gUn.eq_1, DL.gB.eq_1, DL.gTru.eq_1, DL.gAnd.eq_1, DL.gOr.eq_1, DL.gNot.eq_1, DL.gAndV.eq_1, DL.gOrV.eq_1, DL.gNotV.eq_1, DL.gIf.eq_1, DL.gChain.eq_1, DL.gaNil.eq_1, DL.gaCons.eq_1, DL.gTup.eq_1, DL.gLst.eq_1, DL.gCB.eq_1, DL.gCall0.eq_1, DL.gAug.eq_1, addD_i, addD_s, addD_l, addD_t, subD_i, mulD_i, mulD_l, fdivD_i, modD_i, powD_i, ltD_i, ltD_s, leD_i, gtD_i, geD_i, isD_n, isnotD_n, isNonD_non, isNonD_bl, isNonD_int, isNonD_str, isNonD_lst, isNonD_tup, negD_i, iaddD_i, truD_non, truD_bl, truD_int, truD_str, truD_lst, truD_tup, someK_some, ixD_l, ixD_t, fAbs_i, fInt_i, fInt_b, fMin2_i, fLen_l, fLen_t, fLen_s, fList_l, fList_t, fTuple_l, fTuple_t, optBK_some, fIsi_non, fIsi_bl, fIsi_int, fIsi_str, fIsi_lst, fIsi_tup, List.getElem?_cons_zero, List.getElem?_cons_succ, List.set_cons_zero, List.set_cons_succ, DL.ggName.eq_1, ggNil0, ggCons1, ggTup2, ggTup3, DL.gFor.eq_1, DL.giSeq.eq_1, DL.gLc.eq_1, DL.gYes.eq_1, DL.wipeR.eq_1, true_and, and_true, at_0, at_1, at_2, kit_int_int, kit_bool_int, kit_str_int, kit_non_int, kit_list_int, kit_tuple_int, kit_int_bool, kit_bool_bool, kit_str_bool, kit_non_bool, kit_list_bool, kit_tuple_bool, kit_int_str, kit_bool_str, kit_str_str, kit_non_str, kit_list_str, kit_tuple_str, kit_int_list, kit_bool_list, kit_str_list, kit_non_list, kit_list_list, kit_tuple_list, kit_int_tuple, kit_bool_tuple, kit_str_tuple, kit_non_tuple, kit_list_tuple, kit_tuple_tuple, eqD_i, neD_i, eqD_s, neD_s, eqD_f, neD_f, Nat.zero_add, Nat.reduceAdd, nc0, nc1, nc2, nc3, nc4, nc5, nc6, nc7, nc8, nc9, eq_self, decide_true, decide_false, Int.reduceEq, Int.reduceLT, Int.reduceLE, Int.reduceNeg, Bool.not_true, Bool.not_false, Bool.false_eq_true, if_true, if_false, ↓reduceIte, false_and, and_false, List.all_cons, List.all_nil, List.any_cons, List.any_nil, id_eq, Bool.and_true, Bool.true_and, Bool.or_false, Bool.false_or, Bool.and_false, Bool.false_and, DL.gCut.eq_1, eqD_b, neD_b, DL.giZip.eq_1, reduceCtorEq, Bool.true_eq_false, Bool.false_eq_true, DL.gRevL.eq_1, DL.gSl.eq_1, DL.goNone.eq_1, DL.goSome.eq_1, slD_l, ne_eq, not_false_eq_true, not_true_eq_false, DL.gBM.eq_1, isTy_l, isTy_s, new_at, new_set, isTy_new, cellK_new, append_new, popAt_new, gFrz_eq, frzK_new, fLen_new, fTuple_new, ixD_new, slA_l, slA_t, slA_new, addTD_t, addCD_l, mulCD_l, isbD_b, isnotbD_b, mSplitC_s, DL.gLstC.eq_1, DL.gTr.eq_1, DL.ggSub.eq_1, lstK_l, lstK_r, addLD_eq]
      rw [ixD_at q1, at_0, someK_some, ixD_at q1, at_1, someK_some]
      exact ⟨by decide, ⟨_, rfl⟩, lows_of (all_cons (rows_low lu.row) (all_cons (rows_low lv.row) all_nil)), hk us vs c' lu lv hc'⟩
  · rintro x rem ρ w' ⟨s11, s12, c', hc', rfl, ⟨h, rfl⟩ | ⟨us, c1, h, lu, rfl⟩ | ⟨us, vs, c1, c2, h, _⟩⟩
    · cases h
      have q1 := (app_at (M := w.M) (a := .lst []) (b := .lst xs) (c := .lst ys))
      refine ⟨trivial, BP _ _ _ _, both_body q1.2.1 hx b0 b1 g0 g1 hword, ?_⟩
      rintro ρ w' ⟨zs, s12', lz, ⟨rfl, rfl⟩ | ⟨rfl, rfl⟩⟩
      · simp -implicitDefEqProofs only [gFrzO.eq_1, List.cons_append, List.nil_append, DL.sem0.eq_1, List.map_cons, List.map_nil, List.length_cons, List.length_nil, DL.gSeq.eq_1, DL.gNext.eq_1, DL.gRet.eq_1, DL.gRetN.eq_1, DL.gIfS.eq_1, DL.gSet.eq_1, DL.gPar.eq_1, DL.gAsg.eq_1, DL.gDrop.eq_1, DL.gVar.eq_1, DL.gC.eq_1, DL.gBin.eq_1, DL.gUn.eq_1, DL.gB.eq_1, DL.gTru.eq_1, DL.gAnd.eq_1, DL.gOr.eq_1, DL.gNot.eq_1, DL.gAndV.eq_1, DL.gOrV.eq_1, DL.gNotV.eq_1, DL.gIf.eq_1, DL.gChain.eq_1, DL.gaNil.eq_1, DL.gaCons.eq_1, DL.gTup.eq_1, DL.gLst.eq_1, DL.gCB.eq_1, DL.gCall0.eq_1, DL.gAug.eq_1, addD_i, addD_s, addD_l, addD_t, subD_i, mulD_i, mulD_l, fdivD_i, modD_i, powD_i, ltD_i, ltD_s, leD_i, gtD_i, geD_i, isD_n, isnotD_n, isNonD_non, isNonD_bl, isNonD_int, isNonD_str, isNonD_lst, isNonD_tup, negD_i, iaddD_i, truD_non, truD_bl, truD_int, truD_str, truD_lst, truD_tup, someK_some, ixD_l, ixD_t, fAbs_i, fInt_i, fInt_b, fMin2_i, fLen_l, fLen_t, fLen_s, fList_l, fList_t, fTuple_l, fTuple_t, optBK_some, fIsi_non, fIsi_bl, fIsi_int, fIsi_str, fIsi_lst, fIsi_tup, List.getElem?_cons_zero, List.getElem?_cons_succ, List.set_cons_zero, List.set_cons_succ, DL.ggName.eq_1, ggNil0, ggCons1, ggTup2, ggTup3, DL.gFor.eq_1, DL.giSeq.eq_1, DL.gLc.eq_1, DL.gYes.eq_1, DL.wipeR.eq_1, true_and, and_true, at_0, at_1, at_2, kit_int_int, kit_bool_int, kit_str_int, kit_non_int, kit_list_int, kit_tuple_int, kit_int_bool, kit_bool_bool, kit_str_bool, kit_non_bool, kit_list_bool, kit_tuple_bool, kit_int_str, kit_bool_str, kit_str_str, kit_non_str, kit_list_str, kit_tuple_str, kit_int_list, kit_bool_list, kit_str_list, kit_non_list, kit_list_list, kit_tuple_list, kit_int_tuple, kit_bool_tuple, kit_str_tuple, kit_non_tuple, kit_list_tuple, kit_tuple_tuple, eqD_i, neD_i, eqD_s, neD_s, eqD_f, neD_f, Nat.zero_add, Nat.reduceAdd, nc0, nc1, nc2, nc3, nc4, nc5, nc6, nc7, nc8, nc9, eq_self, decide_true, decide_false, Int.reduceEq, Int.reduceLT, Int.reduceLE, Int.reduceNeg, Bool.not_true, Bool.not_false, Bool.false_eq_true, if_true, if_false, ↓reduceIte, false_and, and_false, List.all_cons, List.all_nil, List.any_cons, List.any_nil, id_eq, Bool.and_true, Bool.true_and, Bool.or_false, Bool.false_or, Bool.and_false, Bool.false_and, DL.gCut.eq_1, eqD_b, neD_b, DL.giZip.eq_1, reduceCtorEq, Bool.true_eq_false, Bool.false_eq_true, DL.gRevL.eq_1, DL.gSl.eq_1, DL.goNone.eq_1, DL.goSome.eq_1, slD_l, ne_eq, not_false_eq_true, not_true_eq_false, DL.gBM.eq_1, isTy_l, isTy_s, new_at, new_set, isTy_new, cellK_new, append_new, popAt_new, gFrz_eq, frzK_new, fLen_new, fTuple_new, ixD_new, slA_l, slA_t, slA_new, addTD_t, addCD_l, mulCD_l, isbD_b, isnotbD_b, mSplitC_s, DL.gLstC.eq_1, DL.gTr.eq_1, DL.ggSub.eq_1, lstK_l, lstK_r, addLD_eq]
        exact ⟨app_ty, .inr (app_ap (by decide) ⟨_, _, c', hc', rfl, .inr (.inl ⟨zs, _, rfl, lz, rfl⟩)⟩)⟩
      · simp -implicitDefEqProofs only [gFrzO.eq_1, List.cons_append, List.nil_append, app_set.2.1, app_at.2.1, DL.sem0.eq_1, List.map_cons, List.map_nil, List.length_cons, List.length_nil, DL.gSeq.eq_1, DL.gNext.eq_1, DL.gRet.eq_1, DL.gRetN.eq_1, DL.gIfS.eq_1, DL.gSet.eq_1, DL.gPar.eq_1, DL.gAsg.eq_1, DL.gDrop.eq_1, DL.gVar.eq_1, DL.gC.eq_1, DL.gBin.eq_1, DL.gUn.eq_1, DL.gB.eq_1, DL.gTru.eq_1, DL.gAnd.eq_1, DL.gOr.eq_1, DL.gNot.eq_1, DL.gAndV.eq_1, DL.gOrV.eq_1, DL.gNotV.eq_1, DL.gIf.eq_1, DL.gChain.eq_1, DL.gaNil.eq_1, DL.gaCons.eq_1, DL.gTup.eq_1, DL.gLst.eq_1, DL.gCB.eq_1, DL.gCall0.eq_1, DL.gAug.eq_1, addD_i, addD_s, addD_l, addD_t, subD_i, mulD_i, mulD_l, fdivD_i, modD_i, powD_i, ltD_i, ltD_s, leD_i, gtD_i, geD_i, isD_n, isnotD_n, isNonD_non, isNonD_bl, isNonD_int, isNonD_str, isNonD_lst, isNonD_tup, negD_i, iaddD_i, truD_non, truD_bl, truD_int, truD_str, truD_lst, truD_tup, someK_some, ixD_l, ixD_t, fAbs_i, fInt_i, fInt_b, fMin2_i, fLen_l, fLen_t, fLen_s, fList_l, fList_t, fTuple_l, fTuple_t, optBK_some, fIsi_non, fIsi_bl, fIsi_int, fIsi_str, fIsi_lst, fIsi_tup, List.getElem?_cons_zero, List.getElem?_cons_succ, List.set_cons_zero, List.set_cons_succ, DL.ggName.eq_1, ggNil0, ggCons1, ggTup2, ggTup3, DL.gFor.eq_1, DL.giSeq.eq_1, DL.gLc.eq_1, DL.gYes.eq_1, DL.wipeR.eq_1, true_and, and_true, at_0, at_1, at_2, kit_int_int, kit_bool_int, kit_str_int, kit_non_int, kit_list_int, kit_tuple_int, kit_int_bool, kit_bool_bool, kit_str_bool, kit_non_bool, kit_list_bool, kit_tuple_bool, kit_int_str, kit_bool_str, kit_str_str, kit_non_str, kit_list_str, kit_tuple_str, kit_int_list, kit_bool_list, kit_str_list, kit_non_list, kit_list_list, kit_tuple_list, kit_int_tuple, kit_bool_tuple, kit_str_tuple, kit_non_tuple, kit_list_tuple, kit_tuple_tuple, eqD_i, neD_i, eqD_s, neD_s, eqD_f, neD_f, Nat.zero_add, Nat.reduceAdd, nc0, nc1, nc2, nc3, nc4, nc5, nc6, nc7, nc8, nc9, eq_self, decide_true, decide_false, Int.reduceEq, Int.reduceLT, Int.reduceLE, Int.reduceNeg, Bool.not_true, Bool.not_false, Bool.false_eq_true, if_true, if_false, ↓reduceIte, false_and, and_false, List.all_cons, List.all_nil, List.any_cons, List.any_nil, id_eq, Bool.and_true, Bool.true_and, Bool.or_false, Bool.false_or, Bool.and_false, Bool.false_and, DL.gCut.eq_1, eqD_b, neD_b, DL.giZip.eq_1, reduceCtorEq, Bool.true_eq_false, Bool.false_eq_true, DL.gRevL.eq_1, DL.gSl.eq_1, DL.goNone.eq_1, DL.goSome.eq_1, slD_l, ne_eq, not_false_eq_true, not_true_eq_false, DL.gBM.eq_1, isTy_l, isTy_s, new_at, new_set, isTy_new, cellK_new, append_new, popAt_new, gFrz_eq, frzK_new, fLen_new, fTuple_new, ixD_new, slA_l, slA_t, slA_new, addTD_t, addCD_l, mulCD_l, isbD_b, isnotbD_b, mSplitC_s, DL.gLstC.eq_1, DL.gTr.eq_1, DL.ggSub.eq_1, lstK_l, lstK_r, addLD_eq]
        exact ⟨app_ty, .inl (app_ap (by decide) ⟨_, _, c', hc', rfl, .inr (.inl ⟨zs, _, rfl, lz, rfl⟩)⟩)⟩
    · cases h
      have q1 := (app_at (M := w.M) (a := .lst [.lst us]) (b := c1) (c := .lst ys))
      refine ⟨trivial, BP _ _ _ _, both_body q1.2.2 hy b0 (by omega) g0 g1 hword, ?_⟩
      rintro ρ w' ⟨zs, s12', lz, ⟨rfl, rfl⟩ | ⟨rfl, rfl⟩⟩
      · simp -implicitDefEqProofs only [gFrzO.eq_1, List.cons_append, List.nil_append, DL.sem0.eq_1, List.map_cons, List.map_nil, List.length_cons, List.length_nil, DL.gSeq.eq_1, DL.gNext.eq_1, DL.gRet.eq_1, DL.gRetN.eq_1, DL.gIfS.eq_1, DL.gSet.eq_1, DL.gPar.eq_1, DL.gAsg.eq_1, DL.gDrop.eq_1, DL.gVar.eq_1, DL.gC.eq_1, DL.gBin.eq_1, DL.gUn.eq_1, DL.gB.eq_1, DL.gTru.eq_1, DL.gAnd.eq_1, DL.gOr.eq_1, DL.gNot.eq_1, DL.gAndV.eq_1, DL.gOrV.eq_1, DL.gNotV.eq_1, DL.gIf.eq_1, DL.gChain.eq_1, DL.gaNil.eq_1, DL.gaCons.eq_1, DL.gTup.eq_1, DL.gLst.eq_1, DL.gCB.eq_1, DL.gCall0.eq_1, DL.gAug.eq_1, addD_i, addD_s, addD_l, addD_t, subD_i, mulD_i, mulD_l, fdivD_i, modD_i, powD_i, ltD_i, ltD_s, leD_i, gtD_i, geD_i, isD_n, isnotD_n, isNonD_non, isNonD_bl, isNonD_int, isNonD_str, isNonD_lst, isNonD_tup, negD_i, iaddD_i, truD_non, truD_bl, truD_int, truD_str, truD_lst, truD_tup, someK_some, ixD_l, ixD_t, fAbs_i, fInt_i, fInt_b, fMin2_i, fLen_l, fLen_t, fLen_s, fList_l, fList_t, fTuple_l, fTuple_t, optBK_some, fIsi_non, fIsi_bl, fIsi_int, fIsi_str, fIsi_lst, fIsi_tup, List.getElem?_cons_zero, List.getElem?_cons_succ, List.set_cons_zero, List.set_cons_succ, DL.ggName.eq_1, ggNil0, ggCons1, ggTup2, ggTup3, DL.gFor.eq_1, DL.giSeq.eq_1, DL.gLc.eq_1, DL.gYes.eq_1, DL.wipeR.eq_1, true_and, and_true, at_0, at_1, at_2, kit_int_int, kit_bool_int, kit_str_int, kit_non_int, kit_list_int, kit_tuple_int, kit_int_bool, kit_bool_bool, kit_str_bool, kit_non_bool, kit_list_bool, kit_tuple_bool, kit_int_str, kit_bool_str, kit_str_str, kit_non_str, kit_list_str, kit_tuple_str, kit_int_list, kit_bool_list, kit_str_list, kit_non_list, kit_list_list, kit_tuple_list, kit_int_tuple, kit_bool_tuple, kit_str_tuple, kit_non_tuple, kit_list_tuple, kit_tuple_tuple, eqD_i, neD_i, eqD_s, neD_s, eqD_f, neD_f, Nat.zero_add, Nat.reduceAdd, nc0, nc1, nc2, nc3, nc4, nc5, nc6, nc7, nc8, nc9, eq_self, decide_true, decide_false, Int.reduceEq, Int.reduceLT, Int.reduceLE, Int.reduceNeg, Bool.not_true, Bool.not_false, Bool.false_eq_true, if_true, if_false, ↓reduceIte, false_and, and_false, List.all_cons, List.all_nil, List.any_cons, List.any_nil, id_eq, Bool.and_true, Bool.true_and, Bool.or_false, Bool.false_or, Bool.and_false, Bool.false_and, DL.gCut.eq_1, eqD_b, neD_b, DL.giZip.eq_1, reduceCtorEq, Bool.true_eq_false, Bool.false_eq_true, DL.gRevL.eq_1, DL.gSl.eq_1, DL.goNone.eq_1, DL.goSome.eq_1, slD_l, ne_eq, not_false_eq_true, not_true_eq_false, DL.gBM.eq_1, isTy_l, isTy_s, new_at, new_set, isTy_new, cellK_new, append_new, popAt_new, gFrz_eq, frzK_new, fLen_new, fTuple_new, ixD_new, slA_l, slA_t, slA_new, addTD_t, addCD_l, mulCD_l, isbD_b, isnotbD_b, mSplitC_s, DL.gLstC.eq_1, DL.gTr.eq_1, DL.ggSub.eq_1, lstK_l, lstK_r, addLD_eq]
        exact ⟨app_ty, .inr (app_ap (by show 1 ≤ 2; decide) ⟨_, _, c', hc', rfl, .inr (.inr ⟨us, zs, _, _, rfl, lu, lz, rfl⟩)⟩)⟩
      · simp -implicitDefEqProofs only [gFrzO.eq_1, List.cons_append, List.nil_append, app_set.2.2, app_at.2.2, DL.sem0.eq_1, List.map_cons, List.map_nil, List.length_cons, List.length_nil, DL.gSeq.eq_1, DL.gNext.eq_1, DL.gRet.eq_1, DL.gRetN.eq_1, DL.gIfS.eq_1, DL.gSet.eq_1, DL.gPar.eq_1, DL.gAsg.eq_1, DL.gDrop.eq_1, DL.gVar.eq_1, DL.gC.eq_1, DL.gBin.eq_1, DL.gUn.eq_1, DL.gB.eq_1, DL.gTru.eq_1, DL.gAnd.eq_1, DL.gOr.eq_1, DL.gNot.eq_1, DL.gAndV.eq_1, DL.gOrV.eq_1, DL.gNotV.eq_1, DL.gIf.eq_1, DL.gChain.eq_1, DL.gaNil.eq_1, DL.gaCons.eq_1, DL.gTup.eq_1, DL.gLst.eq_1, DL.gCB.eq_1, DL.gCall0.eq_1, DL.gAug.eq_1, addD_i, addD_s, addD_l, addD_t, subD_i, mulD_i, mulD_l, fdivD_i, modD_i, powD_i, ltD_i, ltD_s, leD_i, gtD_i, geD_i, isD_n, isnotD_n, isNonD_non, isNonD_bl, isNonD_int, isNonD_str, isNonD_lst, isNonD_tup, negD_i, iaddD_i, truD_non, truD_bl, truD_int, truD_str, truD_lst, truD_tup, someK_some, ixD_l, ixD_t, fAbs_i, fInt_i, fInt_b, fMin2_i, fLen_l, fLen_t, fLen_s, fList_l, fList_t, fTuple_l, fTuple_t, optBK_some, fIsi_non, fIsi_bl, fIsi_int, fIsi_str, fIsi_lst, fIsi_tup, List.getElem?_cons_zero, List.getElem?_cons_succ, List.set_cons_zero, List.set_cons_succ, DL.ggName.eq_1, ggNil0, ggCons1, ggTup2, ggTup3, DL.gFor.eq_1, DL.giSeq.eq_1, DL.gLc.eq_1, DL.gYes.eq_1, DL.wipeR.eq_1, true_and, and_true, at_0, at_1, at_2, kit_int_int, kit_bool_int, kit_str_int, kit_non_int, kit_list_int, kit_tuple_int, kit_int_bool, kit_bool_bool, kit_str_bool, kit_non_bool, kit_list_bool, kit_tuple_bool, kit_int_str, kit_bool_str, kit_str_str, kit_non_str, kit_list_str, kit_tuple_str, kit_int_list, kit_bool_list, kit_str_list, kit_non_list, kit_list_list, kit_tuple_list, kit_int_tuple, kit_bool_tuple, kit_str_tuple, kit_non_tuple, kit_list_tuple, kit_tuple_tuple, eqD_i, neD_i, eqD_s, neD_s, eqD_f, neD_f, Nat.zero_add, Nat.reduceAdd, nc0, nc1, nc2, nc3, nc4, nc5, nc6, nc7, nc8, nc9, eq_self, decide_true, decide_false, Int.reduceEq, Int.reduceLT, Int.reduceLE, Int.reduceNeg, Bool.not_true, Bool.not_false, Bool.false_eq_true, if_true, if_false, ↓reduceIte, false_and, and_false, List.all_cons, List.all_nil, List.any_cons, List.any_nil, id_eq, Bool.and_true, Bool.true_and, Bool.or_false, Bool.false_or, Bool.and_false, Bool.false_and, DL.gCut.eq_1, eqD_b, neD_b, DL.giZip.eq_1, reduceCtorEq, Bool.true_eq_false, Bool.false_eq_true, DL.gRevL.eq_1, DL.gSl.eq_1, DL.goNone.eq_1, DL.goSome.eq_1, slD_l, ne_eq, not_false_eq_true, not_true_eq_false, DL.gBM.eq_1, isTy_l, isTy_s, new_at, new_set, isTy_new, cellK_new, append_new, popAt_new, gFrz_eq, frzK_new, fLen_new, fTuple_new, ixD_new, slA_l, slA_t, slA_new, addTD_t, addCD_l, mulCD_l, isbD_b, isnotbD_b, mSplitC_s, DL.gLstC.eq_1, DL.gTr.eq_1, DL.ggSub.eq_1, lstK_l, lstK_r, addLD_eq]
        exact ⟨app_ty, .inl (app_ap (by show 1 ≤ 2; decide) ⟨_, _, c', hc', rfl, .inr (.inr ⟨us, zs, _, _, rfl, lu, lz, rfl⟩)⟩)⟩
    · cases h
theorem ok__law_both_bent {P : Program} {w : World} {K : PySem.W.Frag} {mg : Str → Option Value} {base : Heap} (T : DefAt K mg "_law_both_bent" s__law_both_bent ["_law_state", "_law_one", "_law_other"]) (B : Blt mg) (F__law_take : FnAt P w K mg base CX0 1 "_law_take" 2 sp__law_take) : FnAt P w K mg base CX0 2 "_law_both_bent" 3 sp__law_both_bent := (w__law_both_bent T B F__law_take).trunc.imp v__law_both_bent


end LW

namespace LW
open PySem PySem.Spec PyProof.Rows L2 RZ DL
local macro_rules | `(tactic| simp! only [$xs,*] $[$loc]?) => `(tactic| simp only [$xs,*, sem0,List.map_cons,List.map_nil,List.length_cons,List.length_nil,gSeq,gNext,gRet,gRetN,gIfS,gSet,gPar,gAsg,gDrop,gVar,gC,gBin,gUn,gB,gTru,gAnd,gOr,gNot,gAndV,gOrV,gNotV,gIf,gChain,gaNil,gaCons,DL.gTup,DL.gLst,gCB,gCall0,gAug,addD_i,addD_s,addD_l,addD_t,subD_i,mulD_i,mulD_l,fdivD_i,modD_i,powD_i,ltD_i,ltD_s,leD_i,gtD_i,geD_i,isD_n,isnotD_n,isNonD_non,isNonD_bl,isNonD_int,isNonD_str,isNonD_lst,isNonD_tup,negD_i,iaddD_i,truD_non,truD_bl,truD_int,truD_str,truD_lst,truD_tup,someK_some,ixD_l,ixD_t,fAbs_i,fInt_i,fInt_b,fMin2_i,fLen_l,fLen_t,fLen_s,fList_l,fList_t,fTuple_l,fTuple_t,optBK_some,fIsi_non,fIsi_bl,fIsi_int,fIsi_str,fIsi_lst,fIsi_tup,List.getElem?_cons_zero,List.getElem?_cons_succ,List.set_cons_zero,List.set_cons_succ,DL.ggName,ggNil0,ggCons1,ggTup2,ggTup3,gFor,giSeq,gLc,gYes,wipeR,true_and,and_true,at_0,at_1,at_2,kit_int_int,kit_bool_int,kit_str_int,kit_non_int,kit_list_int,kit_tuple_int,kit_int_bool,kit_bool_bool,kit_str_bool,kit_non_bool,kit_list_bool,kit_tuple_bool,kit_int_str,kit_bool_str,kit_str_str,kit_non_str,kit_list_str,kit_tuple_str,kit_int_list,kit_bool_list,kit_str_list,kit_non_list,kit_list_list,kit_tuple_list,kit_int_tuple,kit_bool_tuple,kit_str_tuple,kit_non_tuple,kit_list_tuple,kit_tuple_tuple,eqD_i,neD_i,eqD_s,neD_s,eqD_f,neD_f,Nat.zero_add,Nat.reduceAdd,nc0,nc1,nc2,nc3,nc4,nc5,nc6,nc7,nc8,nc9,eq_self,decide_true,decide_false,Int.reduceEq,Int.reduceLT,Int.reduceLE,Int.reduceNeg,Bool.not_true,Bool.not_false,Bool.false_eq_true,if_true,if_false,↓reduceIte,false_and,and_false,List.all_cons,List.all_nil,List.any_cons,List.any_nil,id_eq,Bool.and_true,Bool.true_and,Bool.or_false,Bool.false_or,Bool.and_false,Bool.false_and,gCut,eqD_b,neD_b,giZip,reduceCtorEq,Bool.true_eq_false,Bool.false_eq_true,gRevL,gSl,goNone,goSome,slD_l,ne_eq,not_false_eq_true,not_true_eq_false,gBM,isTy_l,isTy_s,new_at,new_set,isTy_new,cellK_new,append_new,popAt_new,gFrz_eq,frzK_new,fLen_new,fTuple_new,ixD_new,slA_l,slA_t,slA_new,addTD_t,addCD_l,mulCD_l,isbD_b,isnotbD_b,mSplitC_s,gLstC,gTr,ggSub,lstK_l,lstK_r,addLD_eq] $[$loc]?)


def sp_law : GF := gLaw
def pD (p : St × St) : D := .tup [stD p.1, stD p.2]
structure Pairs (ps : List (St × St)) : Prop where
  le : ps.length ≤ 6
  ok : ∀ p ∈ ps, StB p.1 ∧ StB p.2 ∧ goQ p.1 p.2 = true ∧ p.2.nm = p.1.nm
  up : upB (ps.map fun p => p.1.nm) = true
def onesD (ps : List (St × St)) : List D := ps.map fun p => stD p.1
def othersD (ps : List (St × St)) : List D := ps.map fun p => stD p.2
theorem stB_ok {s : St} (h : StOk s) : stB (stD s) = true := by
  show (nameB (.str s.nm) && (frcB (fD s.ea) && frcB (fD s.fr) && frcB (fD s.op) && frcB (fD s.ke)) && (natB (.int s.wo) && natB (.int s.pa) && natB (.int s.wr) && natB (.int s.ad))) = true
  have f : ∀ {q : Qp}, Fr q → frcB (fD q) = true := fun h => frc_int.mpr h
  have n : ∀ {i : Int}, 0 ≤ i → natB (.int i) = true := fun h => decide_eq_true h
  rw [h.nm, f h.ea.1, f h.fr.1, f h.op.1, f h.ke.1, n h.wo.1, n h.pa.1, n h.wr, n h.ad]
  rfl
section
variable {ps : List (St × St)} (P : Pairs ps)
include P
theorem st_ones : ∀ z ∈ onesD ps, ∃ s, z = stD s ∧ StB s := fun z hz => by
  obtain ⟨p, hp, rfl⟩ := List.mem_map.mp hz
  exact ⟨_, rfl, (P.ok p hp).1⟩
theorem st_others : ∀ z ∈ othersD ps, ∃ s, z = stD s ∧ StB s := fun z hz => by
  obtain ⟨p, hp, rfl⟩ := List.mem_map.mp hz
  exact ⟨_, rfl, (P.ok p hp).2.1⟩
theorem len_ones : (onesD ps).length = ps.length := List.length_map _
theorem len_others : (othersD ps).length = ps.length := List.length_map _
theorem show_made (b c : Bool) : showB (seqB b (onesD ps)) (seqB c (othersD ps)) = true := by
  have n1 : (onesD ps).map nm0 = ps.map fun p => p.1.nm := by
    unfold onesD
    rw [List.map_map]
    rfl
  have n2 : (othersD ps).map nm0 = ps.map fun p => p.1.nm := by
    unfold othersD
    rw [List.map_map]
    refine List.map_congr_left fun p hp => ?_
    exact (P.ok p hp).2.2.2
  have L : ∀ (b : Bool) (xs : List D), isL (seqB b xs) = true := fun b xs => by cases b <;> rfl
  have a1 : areB (seqB b (onesD ps)) = true := by
    unfold areB
    rw [L, seqL_B, n1, P.up, List.all_eq_true.mpr]
    · rfl
    · intro z hz
      obtain ⟨s, rfl, h⟩ := st_ones P z hz
      exact stB_ok h.ok
  have a2 : areB (seqB c (othersD ps)) = true := by
    unfold areB
    rw [L, seqL_B, n2, P.up, List.all_eq_true.mpr]
    · rfl
    · intro z hz
      obtain ⟨s, rfl, h⟩ := st_others P z hz
      exact stB_ok h.ok
  unfold showB namesB
  rw [a1, a2, seqL_B, seqL_B, n1, n2, decide_eq_true rfl, Bool.true_and, Bool.true_and, Bool.true_and]
  have ok := P.ok
  clear a1 a2 n1 n2 P
  unfold onesD othersD zipD
  induction ps with
  | nil => rfl
  | cons p ps ih =>
    rw [List.map_cons, List.map_cons, List.zipWith_cons_cons, List.all_cons, ih fun q hq => ok q (List.mem_cons_of_mem _ hq), Bool.and_true]
    show goQ (toSt (stD p.1)) (toSt (stD p.2)) = true
    exact (ok p List.mem_cons_self).2.2.1
end
theorem rows_ones {ps : List (St × St)} (P : Pairs ps) (h : 0 < ps.length) : RowsB (onesD ps) := ⟨st_ones P, by rw [len_ones P]; exact h, by rw [len_ones P]; exact P.le⟩
theorem rows_others {ps : List (St × St)} (P : Pairs ps) (h : 0 < ps.length) : RowsB (othersD ps) := ⟨st_others P, by rw [len_others P]; exact h, by rw [len_others P]; exact P.le⟩
theorem lf_ones {ps : List (St × St)} (P : Pairs ps) : LF (onesD ps) := ⟨fun x hx => by
  obtain ⟨s, rfl, h⟩ := st_ones P x hx
  exact row_st h, by rw [len_ones P]; have := P.le; omega⟩
theorem lf_others {ps : List (St × St)} (P : Pairs ps) : LF (othersD ps) := ⟨fun x hx => by
  obtain ⟨s, rfl, h⟩ := st_others P x hx
  exact row_st h, by rw [len_others P]; have := P.le; omega⟩
theorem neD_nil {xs : List D} {w : Wd} {k : KD} (h : lays xs = true) (hd : deps xs ≤ 50) (hk : k (.bl (!xs.isEmpty)) w) : neD (.lst xs) (.lst []) w k := by
  obtain ⟨ps, e, c, d⟩ := lays_pd h
  have sh : SeqAt.shaped (.list ps) = true := by
    unfold SeqAt.shaped
    rw [Bool.and_eq_true]
    refine ⟨c, ?_⟩
    rw [decide_eq_true_eq]
    show PyData.depthAll ps + 1 ≤ 64
    omega
  have e4 : toPD (.lst xs) = some (.list ps) := by
    rw [toPD, e]
    rfl
  show neD0 _ _ _ _
  unfold neD0
  simp only [e4, show toPD (.lst []) = some (.list []) from rfl]
  refine ⟨sh, rfl, ?_⟩
  have ee : PyData.eqv (.list ps) (.list []) = xs.isEmpty := by
    cases xs with
    | nil =>
      cases ps with
      | nil => rfl
      | cons p r => rw [toPDs] at e; cases e
    | cons x r =>
      cases ps with
      | nil =>
        rw [toPDs] at e
        revert e
        cases toPD x <;> cases toPDs r <;> intro e <;> cases e
      | cons p r => rfl
  rw [ee]
  exact hk
abbrev s_law : Stmt := topS 34
theorem sc_law : FnScope ["_law_script", "_law_state", "_law_turn", "_law_pairs", "_law_one", "_law_other", "_law_again", "_law_first", "_law_second", "_law_name", "_law_pair_here"] ["_law_script"] (defScope s_law) := ⟨rfl, rfl, rfl, by decide +kernel, rfl, by decide +kernel, by decide +kernel⟩
def g_law : GS := (gSeq (gSet 1 (gCall0 1 sp__law_begin (gaCons (gVar 0) gaNil)))
  (gSeq (gFor (giRange1 (gaCons (gC (.int 3)) gaNil)) (ggName 2) (gSeq (gSet 3 (gLc (giSeq (gCall0 2 sp__law_names (gaCons (gVar 1) (gaCons (gCall0 2 sp__law_take (gaCons (gVar 1) (gaCons (gC (.int 6)) gaNil))) gaNil)))) (ggName 9) gYes (gCall0 2 sp__law_pair (gaCons (gVar 1) (gaCons (gVar 9) gaNil))) [9]))
  (gSeq (gPar 4 5 (gaCons (gLc (giSeq (gVar 3)) (ggName 10) gYes (gBin ixD (gVar 10) (gC (.int 0))) [10]) (gaCons (gLc (giSeq (gVar 3)) (ggName 10) gYes (gBin ixD (gVar 10) (gC (.int 1))) [10]) gaNil)))
  (gSeq (gIfS (gOr (gNot (gTru (gCall0 2 sp__law_right (gaCons (gVar 4) (gaCons (gVar 5) gaNil))))) (gOr (gNot (gTru (gCall0 2 sp__law_right (gaCons (gCB fTuple (gaCons (gVar 4) gaNil)) (gaCons (gVar 5) gaNil))))) (gNot (gTru (gCall0 2 sp__law_shown (gaCons (gVar 4) (gaCons (gVar 5) gaNil))))))) (gRet (gC (.bl false))) gNext)
  (gFor (giRange1 (gaCons (gBin mulD (gC (.int 12)) (gCB fInt (gaCons (gBin neD (gVar 3) (DL.gLst gaNil)) gaNil))) gaNil)) (ggName 6) (gSeq (gPar 7 8 (gaCons (gCB fList (gaCons (gVar 4) gaNil)) (gaCons (gCB fList (gaCons (gVar 5) gaNil)) gaNil)))
  (gCut (gIfS (gB (gBin gtD (gCall0 2 sp__law_take (gaCons (gVar 1) (gaCons (gC (.int 3)) gaNil))) (gC (.int 0)))) (gAsg (gCall0 3 sp__law_both_bent (gaCons (gVar 1) (gaCons (gVar 7) (gaCons (gVar 8) gaNil)))) (ggTup 2 (ggCons (ggName 7) (ggCons (ggName 8) ggNil)))) (gIfS (gB (gBin eqD (gCall0 2 sp__law_take (gaCons (gVar 1) (gaCons (gC (.int 2)) gaNil))) (gC (.int 0)))) (gSet 7 (gCall0 2 sp__law_one_bent (gaCons (gVar 1) (gaCons (gVar 7) gaNil)))) (gSet 8 (gCall0 2 sp__law_one_bent (gaCons (gVar 1) (gaCons (gVar 8) gaNil))))))
  (gIfS (gNot (gTru (gCall0 2 sp__law_right (gaCons (gVar 7) (gaCons (gVar 8) gaNil))))) (gRet (gC (.bl false))) gNext))))))))
  (gRet (gC (.bl true)))))
theorem w_law {P : Program} {w : World} {K : PySem.W.Frag} {mg : Str → Option Value} {base : Heap} {f : Addr} {fd : FuncData} (T : Fun K "law" "law" s_law f fd) (B : Blt mg) (F__law_begin : FnAt P w K mg base CX0 1 "_law_begin" 1 sp__law_begin) (F__law_pair : FnAt P w K mg base CX0 3 "_law_pair" 2 sp__law_pair) (F__law_names : FnAt P w K mg base CX0 2 "_law_names" 2 sp__law_names) (F__law_right : FnAtG P w K mg base CX0 7 "_law_right" 2 sp__law_right) (F__law_shown : FnAt P w K mg base CX0 4 "_law_shown" 2 sp__law_shown) (F__law_take : FnAt P w K mg base CX0 1 "_law_take" 2 sp__law_take) (F__law_both_bent : FnAt P w K mg base CX0 2 "_law_both_bent" 3 sp__law_both_bent) (F__law_one_bent : FnAt P w K mg base CX0 2 "_law_one_bent" 2 sp__law_one_bent) : FnOkG P w K mg base CX0 8 f fd ["_law_script"] (upF 1 K (sem0 11 g_law)) := by
  have nd := sc_law.nd
  exact fun_fn0G T sc_law (fun f cdv A outer s H E hq hr => (dss_cons (ds_set (i := 1) nd rfl (by first | exact Or.inl rfl | exact Or.inr rfl) (de_call0 F__law_begin hr (by rfl) (da_cons (de_var 0) da_nil)))
  (dss_cons (ds_for PassesOwn.never rfl (di_range1 B (by rfl) (da_cons de_int da_nil)) (dg_name (i := 2) nd rfl (by first | exact Or.inl rfl | exact Or.inr rfl)) (dss_cons (ds_setLc (i := 3) (own := [("_law_name", 9)]) (us := [9]) rfl nd rfl rfl (sw_true rfl rfl rfl (by decide +kernel)) (di_seq (de_call0 F__law_names hr (by rfl) (da_cons (de_var 1) (da_cons (de_call0 F__law_take hr (by rfl) (da_cons (de_var 1) (da_cons de_int da_nil))) da_nil)))) (blkOk_by (N := ["_law_script", "_law_state", "_law_turn", "_law_pairs", "_law_one", "_law_other", "_law_again", "_law_first", "_law_second", "_law_name", "_law_pair_here"]) (sc := defScope s_law) (by decide +kernel)) (by decide) (fun _ _ _ _ _ => (dg_name (i := 9) nd rfl (by first | exact Or.inl rfl | exact Or.inr rfl))) (fun _ _ _ _ _ => dts_nil) (fun _ _ _ _ _ => (de_call0 F__law_pair hr (by rfl) (da_cons (de_var 1) (da_cons (de_var 9) da_nil)))))
  (dss_cons (ds_par (i := 4) (j := 5) rfl nd rfl rfl (by decide) rfl rfl (da_cons (de_lc (own := [("_law_pair_here", 10)]) (us := [10]) rfl nd (di_seq (de_var 3)) (blkOk_by (N := ["_law_script", "_law_state", "_law_turn", "_law_pairs", "_law_one", "_law_other", "_law_again", "_law_first", "_law_second", "_law_name", "_law_pair_here"]) (sc := defScope s_law) (by decide +kernel)) (by decide) (fun _ _ _ _ _ => (dg_name (i := 10) nd rfl (by first | exact Or.inl rfl | exact Or.inr rfl))) (fun _ _ _ _ _ => dts_nil) (fun _ _ _ _ _ => (de_ix (de_var 10) de_int))) (da_cons (de_lc (own := [("_law_pair_here", 10)]) (us := [10]) rfl nd (di_seq (de_var 3)) (blkOk_by (N := ["_law_script", "_law_state", "_law_turn", "_law_pairs", "_law_one", "_law_other", "_law_again", "_law_first", "_law_second", "_law_name", "_law_pair_here"]) (sc := defScope s_law) (by decide +kernel)) (by decide) (fun _ _ _ _ _ => (dg_name (i := 10) nd rfl (by first | exact Or.inl rfl | exact Or.inr rfl))) (fun _ _ _ _ _ => dts_nil) (fun _ _ _ _ _ => (de_ix (de_var 10) de_int))) da_nil)) (by rfl))
  (dss_cons (ds_if (dt_w (dw_or (dt_not (dt_truth (de_call0G F__law_right hq hr (by rfl) (da_cons (de_var 4) (da_cons (de_var 5) da_nil))))) (dw_or (dt_not (dt_truth (de_call0G F__law_right hq hr (by rfl) (da_cons (de_tuple B (by rfl) (da_cons (de_var 4) da_nil)) (da_cons (de_var 5) da_nil))))) (dw_or1 (dt_not (dt_truth (de_call0 F__law_shown hr (by rfl) (da_cons (de_var 4) (da_cons (de_var 5) da_nil))))))))) (dss_one (ds_ret de_bl)) dss_nil)
  (dss_one (ds_for PassesOwn.never rfl (di_range1 B (by rfl) (da_cons (de_mul de_int (de_toint B (by rfl) (da_cons (de_ne hr (de_var 3) (de_lst da_nil)) da_nil))) da_nil)) (dg_name (i := 6) nd rfl (by first | exact Or.inl rfl | exact Or.inr rfl)) (dss_cons (ds_par (i := 7) (j := 8) rfl nd rfl rfl (by decide) rfl rfl (da_cons (de_list B (by rfl) (da_cons (de_var 4) da_nil)) (da_cons (de_list B (by rfl) (da_cons (de_var 5) da_nil)) da_nil)) (by rfl))
  (dss_cut (ds_if (dt_gt (de_call0 F__law_take hr (by rfl) (da_cons (de_var 1) (da_cons de_int da_nil))) de_int) (dss_one (ds_asg (de_call0 F__law_both_bent hr (by rfl) (da_cons (de_var 1) (da_cons (de_var 7) (da_cons (de_var 8) da_nil)))) (dg_tup rfl (dgs_cons (dg_name (i := 7) nd rfl (by first | exact Or.inl rfl | exact Or.inr rfl)) (dgs_cons (dg_name (i := 8) nd rfl (by first | exact Or.inl rfl | exact Or.inr rfl)) dgs_nil))))) (dss_one (ds_if (dt_eq hr (de_call0 F__law_take hr (by rfl) (da_cons (de_var 1) (da_cons de_int da_nil))) de_int) (dss_one (ds_set (i := 7) nd rfl (by first | exact Or.inl rfl | exact Or.inr rfl) (de_call0 F__law_one_bent hr (by rfl) (da_cons (de_var 1) (da_cons (de_var 7) da_nil))))) (dss_one (ds_set (i := 8) nd rfl (by first | exact Or.inl rfl | exact Or.inr rfl) (de_call0 F__law_one_bent hr (by rfl) (da_cons (de_var 1) (da_cons (de_var 8) da_nil))))))))
  (dss_one (ds_if (dt_not (dt_truth (de_call0G F__law_right hq hr (by rfl) (da_cons (de_var 7) (da_cons (de_var 8) da_nil))))) (dss_one (ds_ret de_bl)) dss_nil))))))))))
  (dss_one (ds_ret de_bl)))))

def Turn (ns : List Int) (rem : List D) (ρ : Rho) (w' : Wd) : Prop := ∃ (c' : Nat) (s2 s3 s4 s5 s6 s7 s8 s9 s10 : Option D), 10000 * rem.length ≤ c' ∧ w' = ⟨[], some c'⟩ ∧ ρ = [some (.scr ns), some .st, s2, s3, s4, s5, s6, s7, s8, s9, s10]
def Again (ns : List Int) (ps : List (St × St)) (m : Nat) (rem : List D) (ρ : Rho) (w' : Wd) : Prop := ∃ (c' : Nat) (s2 s3 s6 s7 s8 s9 s10 : Option D), rem.length ≤ 12 ∧ (0 < rem.length → 0 < ps.length) ∧ 10000 * m + 100 * rem.length ≤ c' ∧ w' = ⟨[], some c'⟩ ∧ ρ = [some (.scr ns), some .st, s2, s3, some (.lst (onesD ps)), some (.lst (othersD ps)), s6, s7, s8, s9, s10]
theorem v_law : ∀ ds w kx k, sp_law ds w kx k → sem0 11 g_law ds w kx k := by
  rintro ds w kx k ⟨ns, rfl, hl, rfl, hk⟩
  have e : rho 11 [D.scr ns] = [some (.scr ns), none, none, none, none, none, none, none, none, none, none] := rfl
  simp -implicitDefEqProofs only [g_law.eq_1, e, sp__law_begin.eq_1, giRange1.eq_1, DL.sem0.eq_1, List.map_cons, List.map_nil, List.length_cons, List.length_nil, DL.gSeq.eq_1, DL.gNext.eq_1, DL.gRet.eq_1, DL.gRetN.eq_1, DL.gIfS.eq_1, DL.gSet.eq_1, DL.gPar.eq_1, DL.gAsg.eq_1, DL.gDrop.eq_1, DL.gVar.eq_1, DL.gC.eq_1, DL.gBin.eq_1, DL.gUn.eq_1, DL.gB.eq_1, DL.gTru.eq_1, DL.gAnd.eq_1, DL.gOr.eq_1, DL.gNot.eq_1, DL.gAndV.eq_1, DL.gOrV.eq_1, DL.gNotV.eq_1, DL.gIf.eq_1, DL.gChain.eq_1, DL.gaNil.eq_1, DL.gaCons.eq_1, DL.gTup.eq_1, DL.gLst.eq_1, DL.gCB.eq_1, DL.gCall0.eq_1, DL.gAug.eq_1, addD_i, addD_s, addD_l, addD_t, subD_i, mulD_i, mulD_l, fdivD_i, modD_i, powD_i, ltD_i, ltD_s, leD_i, gtD_i, geD_i, isD_n, isnotD_n, isNonD_non, isNonD_bl, isNonD_int, isNonD_str, isNonD_lst, isNonD_tup, negD_i, iaddD_i, truD_non, truD_bl, truD_int, truD_str, truD_lst, truD_tup, someK_some, ixD_l, ixD_t, fAbs_i, fInt_i, fInt_b, fMin2_i, fLen_l, fLen_t, fLen_s, fList_l, fList_t, fTuple_l, fTuple_t, optBK_some, fIsi_non, fIsi_bl, fIsi_int, fIsi_str, fIsi_lst, fIsi_tup, List.getElem?_cons_zero, List.getElem?_cons_succ, List.set_cons_zero, List.set_cons_succ, DL.ggName.eq_1, ggNil0, ggCons1, ggTup2, ggTup3, DL.gFor.eq_1, DL.giSeq.eq_1, DL.gLc.eq_1, DL.gYes.eq_1, DL.wipeR.eq_1, true_and, and_true, at_0, at_1, at_2, kit_int_int, kit_bool_int, kit_str_int, kit_non_int, kit_list_int, kit_tuple_int, kit_int_bool, kit_bool_bool, kit_str_bool, kit_non_bool, kit_list_bool, kit_tuple_bool, kit_int_str, kit_bool_str, kit_str_str, kit_non_str, kit_list_str, kit_tuple_str, kit_int_list, kit_bool_list, kit_str_list, kit_non_list, kit_list_list, kit_tuple_list, kit_int_tuple, kit_bool_tuple, kit_str_tuple, kit_non_tuple, kit_list_tuple, kit_tuple_tuple, eqD_i, neD_i, eqD_s, neD_s, eqD_f, neD_f, Nat.zero_add, Nat.reduceAdd, nc0, nc1, nc2, nc3, nc4, nc5, nc6, nc7, nc8, nc9, eq_self, decide_true, decide_false, Int.reduceEq, Int.reduceLT, Int.reduceLE, Int.reduceNeg, Bool.not_true, Bool.not_false, Bool.false_eq_true, if_true, if_false, ↓reduceIte, false_and, and_false, List.all_cons, List.all_nil, List.any_cons, List.any_nil, id_eq, Bool.and_true, Bool.true_and, Bool.or_false, Bool.false_or, Bool.and_false, Bool.false_and, DL.gCut.eq_1, eqD_b, neD_b, DL.giZip.eq_1, reduceCtorEq, Bool.true_eq_false, Bool.false_eq_true, DL.gRevL.eq_1, DL.gSl.eq_1, DL.goNone.eq_1, DL.goSome.eq_1, slD_l, ne_eq, not_false_eq_true, not_true_eq_false, DL.gBM.eq_1, isTy_l, isTy_s, new_at, new_set, isTy_new, cellK_new, append_new, popAt_new, gFrz_eq, frzK_new, fLen_new, fTuple_new, ixD_new, slA_l, slA_t, slA_new, addTD_t, addCD_l, mulCD_l, isbD_b, isnotbD_b, mSplitC_s, DL.gLstC.eq_1, DL.gTr.eq_1, DL.ggSub.eq_1, lstK_l, lstK_r, addLD_eq]
  refine ⟨ns, rfl, rfl, ?_⟩
  simp -implicitDefEqProofs only [DL.sem0.eq_1, List.map_cons, List.map_nil, List.length_cons, List.length_nil, DL.gSeq.eq_1, DL.gNext.eq_1, DL.gRet.eq_1, DL.gRetN.eq_1, DL.gIfS.eq_1, DL.gSet.eq_1, DL.gPar.eq_1, DL.gAsg.eq_1, DL.gDrop.eq_1, DL.gVar.eq_1, DL.gC.eq_1, DL.gBin.eq_1, DL.gUn.eq_1, DL.gB.eq_1, DL.gTru.eq_1, DL.gAnd.eq_1, DL.gOr.eq_1, DL.gNot.eq_1, DL.gAndV.eq_1, DL.gOrV.eq_1, DL.gNotV.eq_1, DL.gIf.eq_1, DL.gChain.eq_1, DL.gaNil.eq_1, DL.gaCons.eq_1, DL.gTup.eq_1, DL.gLst.eq_1, DL.gCB.eq_1, DL.gCall0.eq_1, DL.gAug.eq_1, addD_i, addD_s, addD_l, addD_t, subD_i, mulD_i, mulD_l, fdivD_i, modD_i, powD_i, ltD_i, ltD_s, leD_i, gtD_i, geD_i, isD_n, isnotD_n, isNonD_non, isNonD_bl, isNonD_int, isNonD_str, isNonD_lst, isNonD_tup, negD_i, iaddD_i, truD_non, truD_bl, truD_int, truD_str, truD_lst, truD_tup, someK_some, ixD_l, ixD_t, fAbs_i, fInt_i, fInt_b, fMin2_i, fLen_l, fLen_t, fLen_s, fList_l, fList_t, fTuple_l, fTuple_t, optBK_some, fIsi_non, fIsi_bl, fIsi_int, fIsi_str, fIsi_lst, fIsi_tup, List.getElem?_cons_zero, List.getElem?_cons_succ, List.set_cons_zero, List.set_cons_succ, DL.ggName.eq_1, ggNil0, ggCons1, ggTup2, ggTup3, DL.gFor.eq_1, DL.giSeq.eq_1, DL.gLc.eq_1, DL.gYes.eq_1, DL.wipeR.eq_1, true_and, and_true, at_0, at_1, at_2, kit_int_int, kit_bool_int, kit_str_int, kit_non_int, kit_list_int, kit_tuple_int, kit_int_bool, kit_bool_bool, kit_str_bool, kit_non_bool, kit_list_bool, kit_tuple_bool, kit_int_str, kit_bool_str, kit_str_str, kit_non_str, kit_list_str, kit_tuple_str, kit_int_list, kit_bool_list, kit_str_list, kit_non_list, kit_list_list, kit_tuple_list, kit_int_tuple, kit_bool_tuple, kit_str_tuple, kit_non_tuple, kit_list_tuple, kit_tuple_tuple, eqD_i, neD_i, eqD_s, neD_s, eqD_f, neD_f, Nat.zero_add, Nat.reduceAdd, nc0, nc1, nc2, nc3, nc4, nc5, nc6, nc7, nc8, nc9, eq_self, decide_true, decide_false, Int.reduceEq, Int.reduceLT, Int.reduceLE, Int.reduceNeg, Bool.not_true, Bool.not_false, Bool.false_eq_true, if_true, if_false, ↓reduceIte, false_and, and_false, List.all_cons, List.all_nil, List.any_cons, List.any_nil, id_eq, Bool.and_true, Bool.true_and, Bool.or_false, Bool.false_or, Bool.and_false, Bool.false_and, DL.gCut.eq_1, eqD_b, neD_b, DL.giZip.eq_1, reduceCtorEq, Bool.true_eq_false, Bool.false_eq_true, DL.gRevL.eq_1, DL.gSl.eq_1, DL.goNone.eq_1, DL.goSome.eq_1, slD_l, ne_eq, not_false_eq_true, not_true_eq_false, DL.gBM.eq_1, isTy_l, isTy_s, new_at, new_set, isTy_new, cellK_new, append_new, popAt_new, gFrz_eq, frzK_new, fLen_new, fTuple_new, ixD_new, slA_l, slA_t, slA_new, addTD_t, addCD_l, mulCD_l, isbD_b, isnotbD_b, mSplitC_s, DL.gLstC.eq_1, DL.gTr.eq_1, DL.ggSub.eq_1, lstK_l, lstK_r, addLD_eq]
  refine ⟨by decide, Turn ns, ⟨1000000000, none, none, none, none, none, none, none, none, none, by simp, rfl, rfl⟩, ?_, ?_⟩
  · rintro ρ w' ⟨c', s2, s3, s4, s5, s6, s7, s8, s9, s10, hc', rfl, rfl⟩
    exact ⟨trivial, hk _⟩
  rintro x rem ρ w' ⟨c', s2, s3, s4, s5, s6, s7, s8, s9, s10, hc', rfl, rfl⟩
  rw [List.length_cons] at hc'
  refine ⟨trivial, ?_⟩
  simp -implicitDefEqProofs only [sp__law_take.eq_1, giRange1.eq_1, DL.sem0.eq_1, List.map_cons, List.map_nil, List.length_cons, List.length_nil, DL.gSeq.eq_1, DL.gNext.eq_1, DL.gRet.eq_1, DL.gRetN.eq_1, DL.gIfS.eq_1, DL.gSet.eq_1, DL.gPar.eq_1, DL.gAsg.eq_1, DL.gDrop.eq_1, DL.gVar.eq_1, DL.gC.eq_1, DL.gBin.eq_1, DL.gUn.eq_1, DL.gB.eq_1, DL.gTru.eq_1, DL.gAnd.eq_1, DL.gOr.eq_1, DL.gNot.eq_1, DL.gAndV.eq_1, DL.gOrV.eq_1, DL.gNotV.eq_1, DL.gIf.eq_1, DL.gChain.eq_1, DL.gaNil.eq_1, DL.gaCons.eq_1, DL.gTup.eq_1, DL.gLst.eq_1, DL.gCB.eq_1, DL.gCall0.eq_1, DL.gAug.eq_1, addD_i, addD_s, addD_l, addD_t, subD_i, mulD_i, mulD_l, fdivD_i, modD_i, powD_i, ltD_i, ltD_s, leD_i, gtD_i, geD_i, isD_n, isnotD_n, isNonD_non, isNonD_bl, isNonD_int, isNonD_str, isNonD_lst, isNonD_tup, negD_i, iaddD_i, truD_non, truD_bl, truD_int, truD_str, truD_lst, truD_tup, someK_some, ixD_l, ixD_t, fAbs_i, fInt_i, fInt_b, fMin2_i, fLen_l, fLen_t, fLen_s, fList_l, fList_t, fTuple_l, fTuple_t, optBK_some, fIsi_non, fIsi_bl, fIsi_int, fIsi_str, fIsi_lst, fIsi_tup, List.getElem?_cons_zero, List.getElem?_cons_succ, List.set_cons_zero, List.set_cons_succ, DL.ggName.eq_1, ggNil0, ggCons1, ggTup2, ggTup3, DL.gFor.eq_1, DL.giSeq.eq_1, DL.gLc.eq_1, DL.gYes.eq_1, DL.wipeR.eq_1, true_and, and_true, at_0, at_1, at_2, kit_int_int, kit_bool_int, kit_str_int, kit_non_int, kit_list_int, kit_tuple_int, kit_int_bool, kit_bool_bool, kit_str_bool, kit_non_bool, kit_list_bool, kit_tuple_bool, kit_int_str, kit_bool_str, kit_str_str, kit_non_str, kit_list_str, kit_tuple_str, kit_int_list, kit_bool_list, kit_str_list, kit_non_list, kit_list_list, kit_tuple_list, kit_int_tuple, kit_bool_tuple, kit_str_tuple, kit_non_tuple, kit_list_tuple, kit_tuple_tuple, eqD_i, neD_i, eqD_s, neD_s, eqD_f, neD_f, Nat.zero_add, Nat.reduceAdd, nc0, nc1, nc2, nc3, nc4, nc5, nc6, nc7, nc8, nc9, eq_self, decide_true, decide_false, Int.reduceEq, Int.reduceLT, Int.reduceLE, Int.reduceNeg, Bool.not_true, Bool.not_false, Bool.false_eq_true, if_true, if_false, ↓reduceIte, false_and, and_false, List.all_cons, List.all_nil, List.any_cons, List.any_nil, id_eq, Bool.and_true, Bool.true_and, Bool.or_false, Bool.false_or, Bool.and_false, Bool.false_and, DL.gCut.eq_1, eqD_b, neD_b, DL.giZip.eq_1, reduceCtorEq, Bool.true_eq_false, Bool.false_eq_true, DL.gRevL.eq_1, DL.gSl.eq_1, DL.goNone.eq_1, DL.goSome.eq_1, slD_l, ne_eq, not_false_eq_true, not_true_eq_false, DL.gBM.eq_1, isTy_l, isTy_s, new_at, new_set, isTy_new, cellK_new, append_new, popAt_new, gFrz_eq, frzK_new, fLen_new, fTuple_new, ixD_new, slA_l, slA_t, slA_new, addTD_t, addCD_l, mulCD_l, isbD_b, isnotbD_b, mSplitC_s, DL.gLstC.eq_1, DL.gTr.eq_1, DL.ggSub.eq_1, lstK_l, lstK_r, addLD_eq]
  refine take_use (10000 * rem.length + 9000) rfl (by omega) ⟨by decide, log_of (by decide)⟩ fun m c1 h0 h1 hc1 => ?_
  refine ⟨m, c1, 10000 * rem.length + 8000, rfl, ⟨h0, by omega, rfl, by omega⟩, fun nm c2 l1 su sn hc2 => ?_⟩
  dsimp only [seqD]
  refine ⟨fun rem2 acc w' => ∃ (ps : List (St × St)) (rest : List Str) (c' : Nat), acc = ps.map pD ∧ rem2 = rest.map D.str ∧ nm = (ps.map fun p => p.1.nm) ++ rest ∧ (∀ p ∈ ps, StB p.1 ∧ StB p.2 ∧ goQ p.1 p.2 = true ∧ p.2.nm = p.1.nm) ∧ w' = ⟨[], some c'⟩ ∧ 10000 * rem.length + 5000 + 60 * rest.length ≤ c', ⟨[], nm, c2, rfl, rfl, rfl, (fun _ h => nomatch h), rfl, by omega⟩, ?_, ?_⟩
  · rintro acc w' ⟨ps, rest, c', rfl, hr, h2, h3, rfl, h4⟩
    have : rest = [] := by simpa using hr.symm
    subst this
    rw [List.append_nil] at h2
    refine ⟨trivial, ?_⟩
    have P : Pairs ps := by
      have : ps.length = nm.length := by rw [h2, List.length_map]
      exact ⟨by omega, h3, by rw [← h2]; exact su⟩
    have hle := P.le
    refine lc_ty pD (fun p => stD p.1) ps trivial (by omega) (fun p hp k' hk' => ?_) ?_
    · simp! only [pD]
      exact hk'
    refine lc_ty pD (fun p => stD p.2) ps trivial (by omega) (fun p hp k' hk' => ?_) ?_
    · simp! only [pD]
      exact hk'
    have pps : ∀ x ∈ ps.map pD, Pl [] 4 x := fun x hx => by
      obtain ⟨p, hp, rfl⟩ := List.mem_map.mp hx
      exact pf_pl (pf_tup (n := 3) (all_cons (row_st (h3 p hp).1).1 (all_cons (row_st (h3 p hp).2.1).1 all_nil)) (by show 2 ≤ 20; decide))
    have lo1 := lf_ones P
    have lo2 := lf_others P
    refine ⟨false, false, _, _, rfl, ⟨lo1, lo2⟩, ?_⟩
    simp! only [id_eq]
    refine ⟨true, false, _, _, rfl, ⟨lo1, lo2⟩, ?_⟩
    simp! only [sp__law_shown]
    refine ⟨_, _, rfl, ⟨(pf_pl (lf_pf (b := false) lo1)).any, (pf_pl (lf_pf (b := false) lo2)).any, ?_, ?_⟩, ?_⟩
    · show (onesD ps).length < 64
      rw [len_ones P]
      omega
    · show (othersD ps).length < 64
      rw [len_others P]
      omega
    have sm : showB (.lst (List.map (fun p => stD p.1) ps)) (.lst (List.map (fun p => stD p.2) ps)) = true := show_made P false false
    rw [sm]
    simp -implicitDefEqProofs only [DL.sem0.eq_1, List.map_cons, List.map_nil, List.length_cons, List.length_nil, DL.gSeq.eq_1, DL.gNext.eq_1, DL.gRet.eq_1, DL.gRetN.eq_1, DL.gIfS.eq_1, DL.gSet.eq_1, DL.gPar.eq_1, DL.gAsg.eq_1, DL.gDrop.eq_1, DL.gVar.eq_1, DL.gC.eq_1, DL.gBin.eq_1, DL.gUn.eq_1, DL.gB.eq_1, DL.gTru.eq_1, DL.gAnd.eq_1, DL.gOr.eq_1, DL.gNot.eq_1, DL.gAndV.eq_1, DL.gOrV.eq_1, DL.gNotV.eq_1, DL.gIf.eq_1, DL.gChain.eq_1, DL.gaNil.eq_1, DL.gaCons.eq_1, DL.gTup.eq_1, DL.gLst.eq_1, DL.gCB.eq_1, DL.gCall0.eq_1, DL.gAug.eq_1, addD_i, addD_s, addD_l, addD_t, subD_i, mulD_i, mulD_l, fdivD_i, modD_i, powD_i, ltD_i, ltD_s, leD_i, gtD_i, geD_i, isD_n, isnotD_n, isNonD_non, isNonD_bl, isNonD_int, isNonD_str, isNonD_lst, isNonD_tup, negD_i, iaddD_i, truD_non, truD_bl, truD_int, truD_str, truD_lst, truD_tup, someK_some, ixD_l, ixD_t, fAbs_i, fInt_i, fInt_b, fMin2_i, fLen_l, fLen_t, fLen_s, fList_l, fList_t, fTuple_l, fTuple_t, optBK_some, fIsi_non, fIsi_bl, fIsi_int, fIsi_str, fIsi_lst, fIsi_tup, List.getElem?_cons_zero, List.getElem?_cons_succ, List.set_cons_zero, List.set_cons_succ, DL.ggName.eq_1, ggNil0, ggCons1, ggTup2, ggTup3, DL.gFor.eq_1, DL.giSeq.eq_1, DL.gLc.eq_1, DL.gYes.eq_1, DL.wipeR.eq_1, true_and, and_true, at_0, at_1, at_2, kit_int_int, kit_bool_int, kit_str_int, kit_non_int, kit_list_int, kit_tuple_int, kit_int_bool, kit_bool_bool, kit_str_bool, kit_non_bool, kit_list_bool, kit_tuple_bool, kit_int_str, kit_bool_str, kit_str_str, kit_non_str, kit_list_str, kit_tuple_str, kit_int_list, kit_bool_list, kit_str_list, kit_non_list, kit_list_list, kit_tuple_list, kit_int_tuple, kit_bool_tuple, kit_str_tuple, kit_non_tuple, kit_list_tuple, kit_tuple_tuple, eqD_i, neD_i, eqD_s, neD_s, eqD_f, neD_f, Nat.zero_add, Nat.reduceAdd, nc0, nc1, nc2, nc3, nc4, nc5, nc6, nc7, nc8, nc9, eq_self, decide_true, decide_false, Int.reduceEq, Int.reduceLT, Int.reduceLE, Int.reduceNeg, Bool.not_true, Bool.not_false, Bool.false_eq_true, if_true, if_false, ↓reduceIte, false_and, and_false, List.all_cons, List.all_nil, List.any_cons, List.any_nil, id_eq, Bool.and_true, Bool.true_and, Bool.or_false, Bool.false_or, Bool.and_false, Bool.false_and, DL.gCut.eq_1, eqD_b, neD_b, DL.giZip.eq_1, reduceCtorEq, Bool.true_eq_false, Bool.false_eq_true, DL.gRevL.eq_1, DL.gSl.eq_1, DL.goNone.eq_1, DL.goSome.eq_1, slD_l, ne_eq, not_false_eq_true, not_true_eq_false, DL.gBM.eq_1, isTy_l, isTy_s, new_at, new_set, isTy_new, cellK_new, append_new, popAt_new, gFrz_eq, frzK_new, fLen_new, fTuple_new, ixD_new, slA_l, slA_t, slA_new, addTD_t, addCD_l, mulCD_l, isbD_b, isnotbD_b, mSplitC_s, DL.gLstC.eq_1, DL.gTr.eq_1, DL.ggSub.eq_1, lstK_l, lstK_r, addLD_eq]
    refine ⟨by decide, neD_nil (lays_iff fun x hx => (pps x hx).lay) (Nat.le_trans (deps_le fun x hx => (pps x hx).dep) (by decide)) ?_⟩
    obtain ⟨b, hb⟩ : ∃ b, (ps.map pD).isEmpty = b := ⟨_, rfl⟩
    rw [hb]
    obtain ⟨j, hj, j0, j1, jp⟩ : ∃ j : Int, (12 * if (!b) = true then (1 : Int) else 0) = j ∧ 0 ≤ j ∧ j ≤ 12 ∧ (0 < j → 0 < ps.length) := by
      refine ⟨_, rfl, ?_⟩
      cases b
      · refine ⟨by decide, by decide, fun _ => ?_⟩
        cases ps with
        | nil => cases hb
        | cons p r => exact Nat.succ_pos _
      · exact ⟨by decide, by decide, fun h => absurd h (by decide)⟩
    have fi : ∀ {b : Bool} {w : Wd} {K : KD}, fInt [.bl b] w K = K (.int (if b = true then 1 else 0)) w := rfl
    rw [fi, mulD_i]
    refine ⟨mulx_ok (a := 8) (b := 8) (by decide) (by cases b <;> decide) (by decide), ?_⟩
    rw [hj]
    clear hj hb
    dsimp only
    refine ⟨by omega, Again ns ps rem.length, ⟨c', _, _, _, _, _, _, _, by rw [range_len]; omega, by rw [range_len]; intro h; exact jp (by omega), by rw [range_len]; simp at h4; omega, rfl, rfl⟩, ?_, ?_⟩
    · rintro ρ w' ⟨c', s2, s3, s6, s7, s8, s9, s10, _, _, hc', rfl, rfl⟩
      exact ⟨trivial, c', _, _, _, _, _, _, _, _, _, by simp at hc'; omega, rfl, rfl⟩
    · rintro z rem2 ρ w' ⟨c', s2, s3, s6, s7, s8, s9, s10, hm, hp, hc', rfl, rfl⟩
      rw [List.length_cons] at hm hp hc'
      have pp := hp (by omega)
      have ro1 := rows_ones P pp
      have ro2 := rows_others P pp
      refine ⟨trivial, ?_⟩
      simp -implicitDefEqProofs only [sp__law_take.eq_1, DL.sem0.eq_1, List.map_cons, List.map_nil, List.length_cons, List.length_nil, DL.gSeq.eq_1, DL.gNext.eq_1, DL.gRet.eq_1, DL.gRetN.eq_1, DL.gIfS.eq_1, DL.gSet.eq_1, DL.gPar.eq_1, DL.gAsg.eq_1, DL.gDrop.eq_1, DL.gVar.eq_1, DL.gC.eq_1, DL.gBin.eq_1, DL.gUn.eq_1, DL.gB.eq_1, DL.gTru.eq_1, DL.gAnd.eq_1, DL.gOr.eq_1, DL.gNot.eq_1, DL.gAndV.eq_1, DL.gOrV.eq_1, DL.gNotV.eq_1, DL.gIf.eq_1, DL.gChain.eq_1, DL.gaNil.eq_1, DL.gaCons.eq_1, DL.gTup.eq_1, DL.gLst.eq_1, DL.gCB.eq_1, DL.gCall0.eq_1, DL.gAug.eq_1, addD_i, addD_s, addD_l, addD_t, subD_i, mulD_i, mulD_l, fdivD_i, modD_i, powD_i, ltD_i, ltD_s, leD_i, gtD_i, geD_i, isD_n, isnotD_n, isNonD_non, isNonD_bl, isNonD_int, isNonD_str, isNonD_lst, isNonD_tup, negD_i, iaddD_i, truD_non, truD_bl, truD_int, truD_str, truD_lst, truD_tup, someK_some, ixD_l, ixD_t, fAbs_i, fInt_i, fInt_b, fMin2_i, fLen_l, fLen_t, fLen_s, fList_l, fList_t, fTuple_l, fTuple_t, optBK_some, fIsi_non, fIsi_bl, fIsi_int, fIsi_str, fIsi_lst, fIsi_tup, List.getElem?_cons_zero, List.getElem?_cons_succ, List.set_cons_zero, List.set_cons_succ, DL.ggName.eq_1, ggNil0, ggCons1, ggTup2, ggTup3, DL.gFor.eq_1, DL.giSeq.eq_1, DL.gLc.eq_1, DL.gYes.eq_1, DL.wipeR.eq_1, true_and, and_true, at_0, at_1, at_2, kit_int_int, kit_bool_int, kit_str_int, kit_non_int, kit_list_int, kit_tuple_int, kit_int_bool, kit_bool_bool, kit_str_bool, kit_non_bool, kit_list_bool, kit_tuple_bool, kit_int_str, kit_bool_str, kit_str_str, kit_non_str, kit_list_str, kit_tuple_str, kit_int_list, kit_bool_list, kit_str_list, kit_non_list, kit_list_list, kit_tuple_list, kit_int_tuple, kit_bool_tuple, kit_str_tuple, kit_non_tuple, kit_list_tuple, kit_tuple_tuple, eqD_i, neD_i, eqD_s, neD_s, eqD_f, neD_f, Nat.zero_add, Nat.reduceAdd, nc0, nc1, nc2, nc3, nc4, nc5, nc6, nc7, nc8, nc9, eq_self, decide_true, decide_false, Int.reduceEq, Int.reduceLT, Int.reduceLE, Int.reduceNeg, Bool.not_true, Bool.not_false, Bool.false_eq_true, if_true, if_false, ↓reduceIte, false_and, and_false, List.all_cons, List.all_nil, List.any_cons, List.any_nil, id_eq, Bool.and_true, Bool.true_and, Bool.or_false, Bool.false_or, Bool.and_false, Bool.false_and, DL.gCut.eq_1, eqD_b, neD_b, DL.giZip.eq_1, reduceCtorEq, Bool.true_eq_false, Bool.false_eq_true, DL.gRevL.eq_1, DL.gSl.eq_1, DL.goNone.eq_1, DL.goSome.eq_1, slD_l, ne_eq, not_false_eq_true, not_true_eq_false, DL.gBM.eq_1, isTy_l, isTy_s, new_at, new_set, isTy_new, cellK_new, append_new, popAt_new, gFrz_eq, frzK_new, fLen_new, fTuple_new, ixD_new, slA_l, slA_t, slA_new, addTD_t, addCD_l, mulCD_l, isbD_b, isnotbD_b, mSplitC_s, DL.gLstC.eq_1, DL.gTr.eq_1, DL.ggSub.eq_1, lstK_l, lstK_r, addLD_eq]
      refine ⟨fun ρ w' => ∃ (us vs : List D) (c2 : Nat) (s3 s7 s8 s9 : Option D), LF us ∧ LF vs ∧ 10000 * rem.length + 100 * rem2.length ≤ c2 ∧ w' = ⟨[], some c2⟩ ∧ ρ = [some (.scr ns), some .st, s2, s3, some (.lst (onesD ps)), some (.lst (othersD ps)), s7, some (.lst us), some (.lst vs), s8, s9], ?_, ?_⟩
      · refine take_use (10000 * rem.length + 100 * rem2.length + 80) rfl (by omega) ⟨by decide, log_of (by decide)⟩ fun r c2 r0 r1 hc2 => ?_
        simp -implicitDefEqProofs only [DL.sem0.eq_1, List.map_cons, List.map_nil, List.length_cons, List.length_nil, DL.gSeq.eq_1, DL.gNext.eq_1, DL.gRet.eq_1, DL.gRetN.eq_1, DL.gIfS.eq_1, DL.gSet.eq_1, DL.gPar.eq_1, DL.gAsg.eq_1, DL.gDrop.eq_1, DL.gVar.eq_1, DL.gC.eq_1, DL.gBin.eq_1, DL.gUn.eq_1, DL.gB.eq_1, DL.gTru.eq_1, DL.gAnd.eq_1, DL.gOr.eq_1, DL.gNot.eq_1, DL.gAndV.eq_1, DL.gOrV.eq_1, DL.gNotV.eq_1, DL.gIf.eq_1, DL.gChain.eq_1, DL.gaNil.eq_1, DL.gaCons.eq_1, DL.gTup.eq_1, DL.gLst.eq_1, DL.gCB.eq_1, DL.gCall0.eq_1, DL.gAug.eq_1, addD_i, addD_s, addD_l, addD_t, subD_i, mulD_i, mulD_l, fdivD_i, modD_i, powD_i, ltD_i, ltD_s, leD_i, gtD_i, geD_i, isD_n, isnotD_n, isNonD_non, isNonD_bl, isNonD_int, isNonD_str, isNonD_lst, isNonD_tup, negD_i, iaddD_i, truD_non, truD_bl, truD_int, truD_str, truD_lst, truD_tup, someK_some, ixD_l, ixD_t, fAbs_i, fInt_i, fInt_b, fMin2_i, fLen_l, fLen_t, fLen_s, fList_l, fList_t, fTuple_l, fTuple_t, optBK_some, fIsi_non, fIsi_bl, fIsi_int, fIsi_str, fIsi_lst, fIsi_tup, List.getElem?_cons_zero, List.getElem?_cons_succ, List.set_cons_zero, List.set_cons_succ, DL.ggName.eq_1, ggNil0, ggCons1, ggTup2, ggTup3, DL.gFor.eq_1, DL.giSeq.eq_1, DL.gLc.eq_1, DL.gYes.eq_1, DL.wipeR.eq_1, true_and, and_true, at_0, at_1, at_2, kit_int_int, kit_bool_int, kit_str_int, kit_non_int, kit_list_int, kit_tuple_int, kit_int_bool, kit_bool_bool, kit_str_bool, kit_non_bool, kit_list_bool, kit_tuple_bool, kit_int_str, kit_bool_str, kit_str_str, kit_non_str, kit_list_str, kit_tuple_str, kit_int_list, kit_bool_list, kit_str_list, kit_non_list, kit_list_list, kit_tuple_list, kit_int_tuple, kit_bool_tuple, kit_str_tuple, kit_non_tuple, kit_list_tuple, kit_tuple_tuple, eqD_i, neD_i, eqD_s, neD_s, eqD_f, neD_f, Nat.zero_add, Nat.reduceAdd, nc0, nc1, nc2, nc3, nc4, nc5, nc6, nc7, nc8, nc9, eq_self, decide_true, decide_false, Int.reduceEq, Int.reduceLT, Int.reduceLE, Int.reduceNeg, Bool.not_true, Bool.not_false, Bool.false_eq_true, if_true, if_false, ↓reduceIte, false_and, and_false, List.all_cons, List.all_nil, List.any_cons, List.any_nil, id_eq, Bool.and_true, Bool.true_and, Bool.or_false, Bool.false_or, Bool.and_false, Bool.false_and, DL.gCut.eq_1, eqD_b, neD_b, DL.giZip.eq_1, reduceCtorEq, Bool.true_eq_false, Bool.false_eq_true, DL.gRevL.eq_1, DL.gSl.eq_1, DL.goNone.eq_1, DL.goSome.eq_1, slD_l, ne_eq, not_false_eq_true, not_true_eq_false, DL.gBM.eq_1, isTy_l, isTy_s, new_at, new_set, isTy_new, cellK_new, append_new, popAt_new, gFrz_eq, frzK_new, fLen_new, fTuple_new, ixD_new, slA_l, slA_t, slA_new, addTD_t, addCD_l, mulCD_l, isbD_b, isnotbD_b, mSplitC_s, DL.gLstC.eq_1, DL.gTr.eq_1, DL.ggSub.eq_1, lstK_l, lstK_r, addLD_eq]
        refine ite2 (fun _ => ?_) (fun _ => ?_)
        · refine ⟨_, _, c2, 10000 * rem.length + 100 * rem2.length + 60, rfl, ⟨ro1, ro2, by rw [len_ones P, len_others P], rfl, by omega⟩, fun us vs c3 lu lv hc3 => ?_⟩
          simp -implicitDefEqProofs only [DL.sem0.eq_1, List.map_cons, List.map_nil, List.length_cons, List.length_nil, DL.gSeq.eq_1, DL.gNext.eq_1, DL.gRet.eq_1, DL.gRetN.eq_1, DL.gIfS.eq_1, DL.gSet.eq_1, DL.gPar.eq_1, DL.gAsg.eq_1, DL.gDrop.eq_1, DL.gVar.eq_1, DL.gC.eq_1, DL.gBin.eq_1, DL.gUn.eq_1, DL.gB.eq_1, DL.gTru.eq_1, DL.gAnd.eq_1, DL.gOr.eq_1, DL.gNot.eq_1, DL.gAndV.eq_1, DL.gOrV.eq_1, DL.gNotV.eq_1, DL.gIf.eq_1, DL.gChain.eq_1, DL.gaNil.eq_1, DL.gaCons.eq_1, DL.gTup.eq_1, DL.gLst.eq_1, DL.gCB.eq_1, DL.gCall0.eq_1, DL.gAug.eq_1, addD_i, addD_s, addD_l, addD_t, subD_i, mulD_i, mulD_l, fdivD_i, modD_i, powD_i, ltD_i, ltD_s, leD_i, gtD_i, geD_i, isD_n, isnotD_n, isNonD_non, isNonD_bl, isNonD_int, isNonD_str, isNonD_lst, isNonD_tup, negD_i, iaddD_i, truD_non, truD_bl, truD_int, truD_str, truD_lst, truD_tup, someK_some, ixD_l, ixD_t, fAbs_i, fInt_i, fInt_b, fMin2_i, fLen_l, fLen_t, fLen_s, fList_l, fList_t, fTuple_l, fTuple_t, optBK_some, fIsi_non, fIsi_bl, fIsi_int, fIsi_str, fIsi_lst, fIsi_tup, List.getElem?_cons_zero, List.getElem?_cons_succ, List.set_cons_zero, List.set_cons_succ, DL.ggName.eq_1, ggNil0, ggCons1, ggTup2, ggTup3, DL.gFor.eq_1, DL.giSeq.eq_1, DL.gLc.eq_1, DL.gYes.eq_1, DL.wipeR.eq_1, true_and, and_true, at_0, at_1, at_2, kit_int_int, kit_bool_int, kit_str_int, kit_non_int, kit_list_int, kit_tuple_int, kit_int_bool, kit_bool_bool, kit_str_bool, kit_non_bool, kit_list_bool, kit_tuple_bool, kit_int_str, kit_bool_str, kit_str_str, kit_non_str, kit_list_str, kit_tuple_str, kit_int_list, kit_bool_list, kit_str_list, kit_non_list, kit_list_list, kit_tuple_list, kit_int_tuple, kit_bool_tuple, kit_str_tuple, kit_non_tuple, kit_list_tuple, kit_tuple_tuple, eqD_i, neD_i, eqD_s, neD_s, eqD_f, neD_f, Nat.zero_add, Nat.reduceAdd, nc0, nc1, nc2, nc3, nc4, nc5, nc6, nc7, nc8, nc9, eq_self, decide_true, decide_false, Int.reduceEq, Int.reduceLT, Int.reduceLE, Int.reduceNeg, Bool.not_true, Bool.not_false, Bool.false_eq_true, if_true, if_false, ↓reduceIte, false_and, and_false, List.all_cons, List.all_nil, List.any_cons, List.any_nil, id_eq, Bool.and_true, Bool.true_and, Bool.or_false, Bool.false_or, Bool.and_false, Bool.false_and, DL.gCut.eq_1, eqD_b, neD_b, DL.giZip.eq_1, reduceCtorEq, Bool.true_eq_false, Bool.false_eq_true, DL.gRevL.eq_1, DL.gSl.eq_1, DL.goNone.eq_1, DL.goSome.eq_1, slD_l, ne_eq, not_false_eq_true, not_true_eq_false, DL.gBM.eq_1, isTy_l, isTy_s, new_at, new_set, isTy_new, cellK_new, append_new, popAt_new, gFrz_eq, frzK_new, fLen_new, fTuple_new, ixD_new, slA_l, slA_t, slA_new, addTD_t, addCD_l, mulCD_l, isbD_b, isnotbD_b, mSplitC_s, DL.gLstC.eq_1, DL.gTr.eq_1, DL.ggSub.eq_1, lstK_l, lstK_r, addLD_eq]
          exact ⟨us, vs, c3, _, _, _, _, lu, lv, by omega, rfl, rfl⟩
        · refine take_use (10000 * rem.length + 100 * rem2.length + 60) rfl (by omega) ⟨by decide, log_of (by decide)⟩ fun r c3 r0 r1 hc3 => ?_
          simp -implicitDefEqProofs only [DL.sem0.eq_1, List.map_cons, List.map_nil, List.length_cons, List.length_nil, DL.gSeq.eq_1, DL.gNext.eq_1, DL.gRet.eq_1, DL.gRetN.eq_1, DL.gIfS.eq_1, DL.gSet.eq_1, DL.gPar.eq_1, DL.gAsg.eq_1, DL.gDrop.eq_1, DL.gVar.eq_1, DL.gC.eq_1, DL.gBin.eq_1, DL.gUn.eq_1, DL.gB.eq_1, DL.gTru.eq_1, DL.gAnd.eq_1, DL.gOr.eq_1, DL.gNot.eq_1, DL.gAndV.eq_1, DL.gOrV.eq_1, DL.gNotV.eq_1, DL.gIf.eq_1, DL.gChain.eq_1, DL.gaNil.eq_1, DL.gaCons.eq_1, DL.gTup.eq_1, DL.gLst.eq_1, DL.gCB.eq_1, DL.gCall0.eq_1, DL.gAug.eq_1, addD_i, addD_s, addD_l, addD_t, subD_i, mulD_i, mulD_l, fdivD_i, modD_i, powD_i, ltD_i, ltD_s, leD_i, gtD_i, geD_i, isD_n, isnotD_n, isNonD_non, isNonD_bl, isNonD_int, isNonD_str, isNonD_lst, isNonD_tup, negD_i, iaddD_i, truD_non, truD_bl, truD_int, truD_str, truD_lst, truD_tup, someK_some, ixD_l, ixD_t, fAbs_i, fInt_i, fInt_b, fMin2_i, fLen_l, fLen_t, fLen_s, fList_l, fList_t, fTuple_l, fTuple_t, optBK_some, fIsi_non, fIsi_bl, fIsi_int, fIsi_str, fIsi_lst, fIsi_tup, List.getElem?_cons_zero, List.getElem?_cons_succ, List.set_cons_zero, List.set_cons_succ, DL.ggName.eq_1, ggNil0, ggCons1, ggTup2, ggTup3, DL.gFor.eq_1, DL.giSeq.eq_1, DL.gLc.eq_1, DL.gYes.eq_1, DL.wipeR.eq_1, true_and, and_true, at_0, at_1, at_2, kit_int_int, kit_bool_int, kit_str_int, kit_non_int, kit_list_int, kit_tuple_int, kit_int_bool, kit_bool_bool, kit_str_bool, kit_non_bool, kit_list_bool, kit_tuple_bool, kit_int_str, kit_bool_str, kit_str_str, kit_non_str, kit_list_str, kit_tuple_str, kit_int_list, kit_bool_list, kit_str_list, kit_non_list, kit_list_list, kit_tuple_list, kit_int_tuple, kit_bool_tuple, kit_str_tuple, kit_non_tuple, kit_list_tuple, kit_tuple_tuple, eqD_i, neD_i, eqD_s, neD_s, eqD_f, neD_f, Nat.zero_add, Nat.reduceAdd, nc0, nc1, nc2, nc3, nc4, nc5, nc6, nc7, nc8, nc9, eq_self, decide_true, decide_false, Int.reduceEq, Int.reduceLT, Int.reduceLE, Int.reduceNeg, Bool.not_true, Bool.not_false, Bool.false_eq_true, if_true, if_false, ↓reduceIte, false_and, and_false, List.all_cons, List.all_nil, List.any_cons, List.any_nil, id_eq, Bool.and_true, Bool.true_and, Bool.or_false, Bool.false_or, Bool.and_false, Bool.false_and, DL.gCut.eq_1, eqD_b, neD_b, DL.giZip.eq_1, reduceCtorEq, Bool.true_eq_false, Bool.false_eq_true, DL.gRevL.eq_1, DL.gSl.eq_1, DL.goNone.eq_1, DL.goSome.eq_1, slD_l, ne_eq, not_false_eq_true, not_true_eq_false, DL.gBM.eq_1, isTy_l, isTy_s, new_at, new_set, isTy_new, cellK_new, append_new, popAt_new, gFrz_eq, frzK_new, fLen_new, fTuple_new, ixD_new, slA_l, slA_t, slA_new, addTD_t, addCD_l, mulCD_l, isbD_b, isnotbD_b, mSplitC_s, DL.gLstC.eq_1, DL.gTr.eq_1, DL.ggSub.eq_1, lstK_l, lstK_r, addLD_eq]
          refine ite2 (fun _ => ?_) (fun _ => ?_)
          · exact ⟨_, c3, 10000 * rem.length + 100 * rem2.length + 40, rfl, ⟨ro1, rfl, by omega⟩, fun us c4 lu hc4 => ⟨us, _, c4, _, _, _, _, lu, lo2, by omega, rfl, rfl⟩⟩
          · exact ⟨_, c3, 10000 * rem.length + 100 * rem2.length + 40, rfl, ⟨ro2, rfl, by omega⟩, fun us c4 lu hc4 => ⟨_, us, c4, _, _, _, _, lo1, lu, by omega, rfl, rfl⟩⟩
      · rintro ρ w' ⟨us, vs, c2, s3, s7, s8, s9, lu, lv, hc2, rfl, rfl⟩
        simp -implicitDefEqProofs only [DL.sem0.eq_1, List.map_cons, List.map_nil, List.length_cons, List.length_nil, DL.gSeq.eq_1, DL.gNext.eq_1, DL.gRet.eq_1, DL.gRetN.eq_1, DL.gIfS.eq_1, DL.gSet.eq_1, DL.gPar.eq_1, DL.gAsg.eq_1, DL.gDrop.eq_1, DL.gVar.eq_1, DL.gC.eq_1, DL.gBin.eq_1, DL.gUn.eq_1, DL.gB.eq_1, DL.gTru.eq_1, DL.gAnd.eq_1, DL.gOr.eq_1, DL.gNot.eq_1, DL.gAndV.eq_1, DL.gOrV.eq_1, DL.gNotV.eq_1, DL.gIf.eq_1, DL.gChain.eq_1, DL.gaNil.eq_1, DL.gaCons.eq_1, DL.gTup.eq_1, DL.gLst.eq_1, DL.gCB.eq_1, DL.gCall0.eq_1, DL.gAug.eq_1, addD_i, addD_s, addD_l, addD_t, subD_i, mulD_i, mulD_l, fdivD_i, modD_i, powD_i, ltD_i, ltD_s, leD_i, gtD_i, geD_i, isD_n, isnotD_n, isNonD_non, isNonD_bl, isNonD_int, isNonD_str, isNonD_lst, isNonD_tup, negD_i, iaddD_i, truD_non, truD_bl, truD_int, truD_str, truD_lst, truD_tup, someK_some, ixD_l, ixD_t, fAbs_i, fInt_i, fInt_b, fMin2_i, fLen_l, fLen_t, fLen_s, fList_l, fList_t, fTuple_l, fTuple_t, optBK_some, fIsi_non, fIsi_bl, fIsi_int, fIsi_str, fIsi_lst, fIsi_tup, List.getElem?_cons_zero, List.getElem?_cons_succ, List.set_cons_zero, List.set_cons_succ, DL.ggName.eq_1, ggNil0, ggCons1, ggTup2, ggTup3, DL.gFor.eq_1, DL.giSeq.eq_1, DL.gLc.eq_1, DL.gYes.eq_1, DL.wipeR.eq_1, true_and, and_true, at_0, at_1, at_2, kit_int_int, kit_bool_int, kit_str_int, kit_non_int, kit_list_int, kit_tuple_int, kit_int_bool, kit_bool_bool, kit_str_bool, kit_non_bool, kit_list_bool, kit_tuple_bool, kit_int_str, kit_bool_str, kit_str_str, kit_non_str, kit_list_str, kit_tuple_str, kit_int_list, kit_bool_list, kit_str_list, kit_non_list, kit_list_list, kit_tuple_list, kit_int_tuple, kit_bool_tuple, kit_str_tuple, kit_non_tuple, kit_list_tuple, kit_tuple_tuple, eqD_i, neD_i, eqD_s, neD_s, eqD_f, neD_f, Nat.zero_add, Nat.reduceAdd, nc0, nc1, nc2, nc3, nc4, nc5, nc6, nc7, nc8, nc9, eq_self, decide_true, decide_false, Int.reduceEq, Int.reduceLT, Int.reduceLE, Int.reduceNeg, Bool.not_true, Bool.not_false, Bool.false_eq_true, if_true, if_false, ↓reduceIte, false_and, and_false, List.all_cons, List.all_nil, List.any_cons, List.any_nil, id_eq, Bool.and_true, Bool.true_and, Bool.or_false, Bool.false_or, Bool.and_false, Bool.false_and, DL.gCut.eq_1, eqD_b, neD_b, DL.giZip.eq_1, reduceCtorEq, Bool.true_eq_false, Bool.false_eq_true, DL.gRevL.eq_1, DL.gSl.eq_1, DL.goNone.eq_1, DL.goSome.eq_1, slD_l, ne_eq, not_false_eq_true, not_true_eq_false, DL.gBM.eq_1, isTy_l, isTy_s, new_at, new_set, isTy_new, cellK_new, append_new, popAt_new, gFrz_eq, frzK_new, fLen_new, fTuple_new, ixD_new, slA_l, slA_t, slA_new, addTD_t, addCD_l, mulCD_l, isbD_b, isnotbD_b, mSplitC_s, DL.gLstC.eq_1, DL.gTr.eq_1, DL.ggSub.eq_1, lstK_l, lstK_r, addLD_eq]
        refine ⟨false, false, us, vs, rfl, ⟨lu, lv⟩, ?_⟩
        simp -implicitDefEqProofs only [DL.sem0.eq_1, List.map_cons, List.map_nil, List.length_cons, List.length_nil, DL.gSeq.eq_1, DL.gNext.eq_1, DL.gRet.eq_1, DL.gRetN.eq_1, DL.gIfS.eq_1, DL.gSet.eq_1, DL.gPar.eq_1, DL.gAsg.eq_1, DL.gDrop.eq_1, DL.gVar.eq_1, DL.gC.eq_1, DL.gBin.eq_1, DL.gUn.eq_1, DL.gB.eq_1, DL.gTru.eq_1, DL.gAnd.eq_1, DL.gOr.eq_1, DL.gNot.eq_1, DL.gAndV.eq_1, DL.gOrV.eq_1, DL.gNotV.eq_1, DL.gIf.eq_1, DL.gChain.eq_1, DL.gaNil.eq_1, DL.gaCons.eq_1, DL.gTup.eq_1, DL.gLst.eq_1, DL.gCB.eq_1, DL.gCall0.eq_1, DL.gAug.eq_1, addD_i, addD_s, addD_l, addD_t, subD_i, mulD_i, mulD_l, fdivD_i, modD_i, powD_i, ltD_i, ltD_s, leD_i, gtD_i, geD_i, isD_n, isnotD_n, isNonD_non, isNonD_bl, isNonD_int, isNonD_str, isNonD_lst, isNonD_tup, negD_i, iaddD_i, truD_non, truD_bl, truD_int, truD_str, truD_lst, truD_tup, someK_some, ixD_l, ixD_t, fAbs_i, fInt_i, fInt_b, fMin2_i, fLen_l, fLen_t, fLen_s, fList_l, fList_t, fTuple_l, fTuple_t, optBK_some, fIsi_non, fIsi_bl, fIsi_int, fIsi_str, fIsi_lst, fIsi_tup, List.getElem?_cons_zero, List.getElem?_cons_succ, List.set_cons_zero, List.set_cons_succ, DL.ggName.eq_1, ggNil0, ggCons1, ggTup2, ggTup3, DL.gFor.eq_1, DL.giSeq.eq_1, DL.gLc.eq_1, DL.gYes.eq_1, DL.wipeR.eq_1, true_and, and_true, at_0, at_1, at_2, kit_int_int, kit_bool_int, kit_str_int, kit_non_int, kit_list_int, kit_tuple_int, kit_int_bool, kit_bool_bool, kit_str_bool, kit_non_bool, kit_list_bool, kit_tuple_bool, kit_int_str, kit_bool_str, kit_str_str, kit_non_str, kit_list_str, kit_tuple_str, kit_int_list, kit_bool_list, kit_str_list, kit_non_list, kit_list_list, kit_tuple_list, kit_int_tuple, kit_bool_tuple, kit_str_tuple, kit_non_tuple, kit_list_tuple, kit_tuple_tuple, eqD_i, neD_i, eqD_s, neD_s, eqD_f, neD_f, Nat.zero_add, Nat.reduceAdd, nc0, nc1, nc2, nc3, nc4, nc5, nc6, nc7, nc8, nc9, eq_self, decide_true, decide_false, Int.reduceEq, Int.reduceLT, Int.reduceLE, Int.reduceNeg, Bool.not_true, Bool.not_false, Bool.false_eq_true, if_true, if_false, ↓reduceIte, false_and, and_false, List.all_cons, List.all_nil, List.any_cons, List.any_nil, id_eq, Bool.and_true, Bool.true_and, Bool.or_false, Bool.false_or, Bool.and_false, Bool.false_and, DL.gCut.eq_1, eqD_b, neD_b, DL.giZip.eq_1, reduceCtorEq, Bool.true_eq_false, Bool.false_eq_true, DL.gRevL.eq_1, DL.gSl.eq_1, DL.goNone.eq_1, DL.goSome.eq_1, slD_l, ne_eq, not_false_eq_true, not_true_eq_false, DL.gBM.eq_1, isTy_l, isTy_s, new_at, new_set, isTy_new, cellK_new, append_new, popAt_new, gFrz_eq, frzK_new, fLen_new, fTuple_new, ixD_new, slA_l, slA_t, slA_new, addTD_t, addCD_l, mulCD_l, isbD_b, isnotbD_b, mSplitC_s, DL.gLstC.eq_1, DL.gTr.eq_1, DL.ggSub.eq_1, lstK_l, lstK_r, addLD_eq]
        exact ⟨c2, _, _, _, _, _, _, _, by omega, fun _ => pp, hc2, rfl, rfl⟩
  · rintro x rem2 acc w' ⟨ps, rest, c', rfl, hr, h2, h3, rfl, h4⟩
    cases rest with
    | nil => cases hr
    | cons s rest =>
      rw [List.map_cons] at hr
      injection hr with hr hr2
      subst hr
      subst hr2
      rw [List.length_cons] at h4
      refine ⟨trivial, ?_⟩
      simp -implicitDefEqProofs only [DL.sem0.eq_1, List.map_cons, List.map_nil, List.length_cons, List.length_nil, DL.gSeq.eq_1, DL.gNext.eq_1, DL.gRet.eq_1, DL.gRetN.eq_1, DL.gIfS.eq_1, DL.gSet.eq_1, DL.gPar.eq_1, DL.gAsg.eq_1, DL.gDrop.eq_1, DL.gVar.eq_1, DL.gC.eq_1, DL.gBin.eq_1, DL.gUn.eq_1, DL.gB.eq_1, DL.gTru.eq_1, DL.gAnd.eq_1, DL.gOr.eq_1, DL.gNot.eq_1, DL.gAndV.eq_1, DL.gOrV.eq_1, DL.gNotV.eq_1, DL.gIf.eq_1, DL.gChain.eq_1, DL.gaNil.eq_1, DL.gaCons.eq_1, DL.gTup.eq_1, DL.gLst.eq_1, DL.gCB.eq_1, DL.gCall0.eq_1, DL.gAug.eq_1, addD_i, addD_s, addD_l, addD_t, subD_i, mulD_i, mulD_l, fdivD_i, modD_i, powD_i, ltD_i, ltD_s, leD_i, gtD_i, geD_i, isD_n, isnotD_n, isNonD_non, isNonD_bl, isNonD_int, isNonD_str, isNonD_lst, isNonD_tup, negD_i, iaddD_i, truD_non, truD_bl, truD_int, truD_str, truD_lst, truD_tup, someK_some, ixD_l, ixD_t, fAbs_i, fInt_i, fInt_b, fMin2_i, fLen_l, fLen_t, fLen_s, fList_l, fList_t, fTuple_l, fTuple_t, optBK_some, fIsi_non, fIsi_bl, fIsi_int, fIsi_str, fIsi_lst, fIsi_tup, List.getElem?_cons_zero, List.getElem?_cons_succ, List.set_cons_zero, List.set_cons_succ, DL.ggName.eq_1, ggNil0, ggCons1, ggTup2, ggTup3, DL.gFor.eq_1, DL.giSeq.eq_1, DL.gLc.eq_1, DL.gYes.eq_1, DL.wipeR.eq_1, true_and, and_true, at_0, at_1, at_2, kit_int_int, kit_bool_int, kit_str_int, kit_non_int, kit_list_int, kit_tuple_int, kit_int_bool, kit_bool_bool, kit_str_bool, kit_non_bool, kit_list_bool, kit_tuple_bool, kit_int_str, kit_bool_str, kit_str_str, kit_non_str, kit_list_str, kit_tuple_str, kit_int_list, kit_bool_list, kit_str_list, kit_non_list, kit_list_list, kit_tuple_list, kit_int_tuple, kit_bool_tuple, kit_str_tuple, kit_non_tuple, kit_list_tuple, kit_tuple_tuple, eqD_i, neD_i, eqD_s, neD_s, eqD_f, neD_f, Nat.zero_add, Nat.reduceAdd, nc0, nc1, nc2, nc3, nc4, nc5, nc6, nc7, nc8, nc9, eq_self, decide_true, decide_false, Int.reduceEq, Int.reduceLT, Int.reduceLE, Int.reduceNeg, Bool.not_true, Bool.not_false, Bool.false_eq_true, if_true, if_false, ↓reduceIte, false_and, and_false, List.all_cons, List.all_nil, List.any_cons, List.any_nil, id_eq, Bool.and_true, Bool.true_and, Bool.or_false, Bool.false_or, Bool.and_false, Bool.false_and, DL.gCut.eq_1, eqD_b, neD_b, DL.giZip.eq_1, reduceCtorEq, Bool.true_eq_false, Bool.false_eq_true, DL.gRevL.eq_1, DL.gSl.eq_1, DL.goNone.eq_1, DL.goSome.eq_1, slD_l, ne_eq, not_false_eq_true, not_true_eq_false, DL.gBM.eq_1, isTy_l, isTy_s, new_at, new_set, isTy_new, cellK_new, append_new, popAt_new, gFrz_eq, frzK_new, fLen_new, fTuple_new, ixD_new, slA_l, slA_t, slA_new, addTD_t, addCD_l, mulCD_l, isbD_b, isnotbD_b, mSplitC_s, DL.gLstC.eq_1, DL.gTr.eq_1, DL.ggSub.eq_1, lstK_l, lstK_r, addLD_eq]
      refine ⟨s, c', 10000 * rem.length + 5000 + 60 * rest.length, rfl, ⟨sn s (by rw [h2]; simp), rfl, by omega⟩, fun x y c3 n1 n2 b1 b2 g hc3 => ?_⟩
      have hl2 : ps.length ≤ nm.length := by rw [h2]; simp
      refine ⟨by rw [List.length_map]; exact lt_sl (by omega), ps ++ [(x, y)], rest, c3, by simp [pD], rfl, by rw [h2]; simp [n1], fun p hp => ?_, rfl, hc3⟩
      rcases List.mem_append.mp hp with hp | hp
      · exact h3 p hp
      · rw [List.mem_singleton.mp hp]
        exact ⟨b1, b2, g, n2.trans n1.symm⟩
theorem ok_law {P : Program} {w : World} {K : PySem.W.Frag} {mg : Str → Option Value} {base : Heap} {f : Addr} {fd : FuncData} (T : Fun K "law" "law" s_law f fd) (B : Blt mg) (F__law_begin : FnAt P w K mg base CX0 1 "_law_begin" 1 sp__law_begin) (F__law_pair : FnAt P w K mg base CX0 3 "_law_pair" 2 sp__law_pair) (F__law_names : FnAt P w K mg base CX0 2 "_law_names" 2 sp__law_names) (F__law_right : FnAtG P w K mg base CX0 7 "_law_right" 2 sp__law_right) (F__law_shown : FnAt P w K mg base CX0 4 "_law_shown" 2 sp__law_shown) (F__law_take : FnAt P w K mg base CX0 1 "_law_take" 2 sp__law_take) (F__law_both_bent : FnAt P w K mg base CX0 2 "_law_both_bent" 3 sp__law_both_bent) (F__law_one_bent : FnAt P w K mg base CX0 2 "_law_one_bent" 2 sp__law_one_bent) : FnOkG P w K mg base CX0 8 f fd ["_law_script"] (upF 1 K sp_law) := (w_law T B F__law_begin F__law_pair F__law_names F__law_right F__law_shown F__law_take F__law_both_bent F__law_one_bent).weak (up_imp v_law)


end LW

namespace LW
open PySem PySem.Spec PyProof.Rows L2 RZ DL


set_option maxHeartbeats 0 in
theorem all_mk {l : PySem.W.OpenLaw} {w : World} {K : PySem.W.Frag} {h : Heap} {mg : Str → Option Value} {fa : Addr} (X : K.In h) (G : h.Ns mainGlobals mg) (hfa : mg "law" = some (.ref fa))
    {f0 : Addr} {od0 an0 : Option Addr} {sl0 : Array (Option Value)} {oc0 kV0 dc0 pm0 cd0 ct0 : Value}
    (a0 : PySem.W.nsIn K mainGlobals "_law_begin" = some (some (.ref f0)))
    (l0 : K.lookup f0 = some ⟨oc0, od0, .func (PySem.W.fnOf "_law_begin" "_law_begin" (defArgs s__law_begin) (defBody s__law_begin) (defScope s__law_begin) .none kV0 dc0 pm0 an0 cd0 ct0), sl0⟩) (c0 : PySem.W.codeIn K cd0 "_law_begin" = true) (k0 : PySem.W.keepIn K (.ref f0) = true)
    {f1 : Addr} {od1 an1 : Option Addr} {sl1 : Array (Option Value)} {oc1 kV1 dc1 pm1 cd1 ct1 : Value}
    (a1 : PySem.W.nsIn K mainGlobals "_law_sum" = some (some (.ref f1)))
    (l1 : K.lookup f1 = some ⟨oc1, od1, .func (PySem.W.fnOf "_law_sum" "_law_sum" (defArgs s__law_sum) (defBody s__law_sum) (defScope s__law_sum) .none kV1 dc1 pm1 an1 cd1 ct1), sl1⟩) (c1 : PySem.W.codeIn K cd1 "_law_sum" = true) (k1 : PySem.W.keepIn K (.ref f1) = true)
    {f2 : Addr} {od2 an2 : Option Addr} {sl2 : Array (Option Value)} {oc2 kV2 dc2 pm2 cd2 ct2 : Value}
    (a2 : PySem.W.nsIn K mainGlobals "_law_times" = some (some (.ref f2)))
    (l2 : K.lookup f2 = some ⟨oc2, od2, .func (PySem.W.fnOf "_law_times" "_law_times" (defArgs s__law_times) (defBody s__law_times) (defScope s__law_times) .none kV2 dc2 pm2 an2 cd2 ct2), sl2⟩) (c2 : PySem.W.codeIn K cd2 "_law_times" = true) (k2 : PySem.W.keepIn K (.ref f2) = true)
    {f3 : Addr} {od3 an3 : Option Addr} {sl3 : Array (Option Value)} {oc3 kV3 dc3 pm3 cd3 ct3 : Value}
    (a3 : PySem.W.nsIn K mainGlobals "_law_take" = some (some (.ref f3)))
    (l3 : K.lookup f3 = some ⟨oc3, od3, .func (PySem.W.fnOf "_law_take" "_law_take" (defArgs s__law_take) (defBody s__law_take) (defScope s__law_take) .none kV3 dc3 pm3 an3 cd3 ct3), sl3⟩) (c3 : PySem.W.codeIn K cd3 "_law_take" = true) (k3 : PySem.W.keepIn K (.ref f3) = true)
    {f4 : Addr} {od4 an4 : Option Addr} {sl4 : Array (Option Value)} {oc4 kV4 dc4 pm4 cd4 ct4 : Value}
    (a4 : PySem.W.nsIn K mainGlobals "_law_fraction" = some (some (.ref f4)))
    (l4 : K.lookup f4 = some ⟨oc4, od4, .func (PySem.W.fnOf "_law_fraction" "_law_fraction" (defArgs s__law_fraction) (defBody s__law_fraction) (defScope s__law_fraction) .none kV4 dc4 pm4 an4 cd4 ct4), sl4⟩) (c4 : PySem.W.codeIn K cd4 "_law_fraction" = true) (k4 : PySem.W.keepIn K (.ref f4) = true)
    {f5 : Addr} {od5 an5 : Option Addr} {sl5 : Array (Option Value)} {oc5 kV5 dc5 pm5 cd5 ct5 : Value}
    (a5 : PySem.W.nsIn K mainGlobals "_law_pair" = some (some (.ref f5)))
    (l5 : K.lookup f5 = some ⟨oc5, od5, .func (PySem.W.fnOf "_law_pair" "_law_pair" (defArgs s__law_pair) (defBody s__law_pair) (defScope s__law_pair) .none kV5 dc5 pm5 an5 cd5 ct5), sl5⟩) (c5 : PySem.W.codeIn K cd5 "_law_pair" = true) (k5 : PySem.W.keepIn K (.ref f5) = true)
    {f6 : Addr} {od6 an6 : Option Addr} {sl6 : Array (Option Value)} {oc6 kV6 dc6 pm6 cd6 ct6 : Value}
    (a6 : PySem.W.nsIn K mainGlobals "_law_names" = some (some (.ref f6)))
    (l6 : K.lookup f6 = some ⟨oc6, od6, .func (PySem.W.fnOf "_law_names" "_law_names" (defArgs s__law_names) (defBody s__law_names) (defScope s__law_names) .none kV6 dc6 pm6 an6 cd6 ct6), sl6⟩) (c6 : PySem.W.codeIn K cd6 "_law_names" = true) (k6 : PySem.W.keepIn K (.ref f6) = true)
    {f7 : Addr} {od7 an7 : Option Addr} {sl7 : Array (Option Value)} {oc7 kV7 dc7 pm7 cd7 ct7 : Value}
    (a7 : PySem.W.nsIn K mainGlobals "is_told_name" = some (some (.ref f7)))
    (l7 : K.lookup f7 = some ⟨oc7, od7, .func (PySem.W.fnOf "is_told_name" "is_told_name" (defArgs s_is_told_name) (defBody s_is_told_name) (defScope s_is_told_name) .none kV7 dc7 pm7 an7 cd7 ct7), sl7⟩) (c7 : PySem.W.codeIn K cd7 "is_told_name" = true) (k7 : PySem.W.keepIn K (.ref f7) = true)
    {f8 : Addr} {od8 an8 : Option Addr} {sl8 : Array (Option Value)} {oc8 kV8 dc8 pm8 cd8 ct8 : Value}
    (a8 : PySem.W.nsIn K mainGlobals "divisor_of" = some (some (.ref f8)))
    (l8 : K.lookup f8 = some ⟨oc8, od8, .func (PySem.W.fnOf "divisor_of" "divisor_of" (defArgs s_divisor_of) (defBody s_divisor_of) (defScope s_divisor_of) .none kV8 dc8 pm8 an8 cd8 ct8), sl8⟩) (c8 : PySem.W.codeIn K cd8 "divisor_of" = true) (k8 : PySem.W.keepIn K (.ref f8) = true)
    {f9 : Addr} {od9 an9 : Option Addr} {sl9 : Array (Option Value)} {oc9 kV9 dc9 pm9 cd9 ct9 : Value}
    (a9 : PySem.W.nsIn K mainGlobals "fraction_of" = some (some (.ref f9)))
    (l9 : K.lookup f9 = some ⟨oc9, od9, .func (PySem.W.fnOf "fraction_of" "fraction_of" (defArgs s_fraction_of) (defBody s_fraction_of) (defScope s_fraction_of) .none kV9 dc9 pm9 an9 cd9 ct9), sl9⟩) (c9 : PySem.W.codeIn K cd9 "fraction_of" = true) (k9 : PySem.W.keepIn K (.ref f9) = true)
    {f10 : Addr} {od10 an10 : Option Addr} {sl10 : Array (Option Value)} {oc10 kV10 dc10 pm10 cd10 ct10 : Value}
    (a10 : PySem.W.nsIn K mainGlobals "is_whole" = some (some (.ref f10)))
    (l10 : K.lookup f10 = some ⟨oc10, od10, .func (PySem.W.fnOf "is_whole" "is_whole" (defArgs s_is_whole) (defBody s_is_whole) (defScope s_is_whole) .none kV10 dc10 pm10 an10 cd10 ct10), sl10⟩) (c10 : PySem.W.codeIn K cd10 "is_whole" = true) (k10 : PySem.W.keepIn K (.ref f10) = true)
    {f11 : Addr} {od11 an11 : Option Addr} {sl11 : Array (Option Value)} {oc11 kV11 dc11 pm11 cd11 ct11 : Value}
    (a11 : PySem.W.nsIn K mainGlobals "is_told_fraction" = some (some (.ref f11)))
    (l11 : K.lookup f11 = some ⟨oc11, od11, .func (PySem.W.fnOf "is_told_fraction" "is_told_fraction" (defArgs s_is_told_fraction) (defBody s_is_told_fraction) (defScope s_is_told_fraction) .none kV11 dc11 pm11 an11 cd11 ct11), sl11⟩) (c11 : PySem.W.codeIn K cd11 "is_told_fraction" = true) (k11 : PySem.W.keepIn K (.ref f11) = true)
    {f12 : Addr} {od12 an12 : Option Addr} {sl12 : Array (Option Value)} {oc12 kV12 dc12 pm12 cd12 ct12 : Value}
    (a12 : PySem.W.nsIn K mainGlobals "is_statement" = some (some (.ref f12)))
    (l12 : K.lookup f12 = some ⟨oc12, od12, .func (PySem.W.fnOf "is_statement" "is_statement" (defArgs s_is_statement) (defBody s_is_statement) (defScope s_is_statement) .none kV12 dc12 pm12 an12 cd12 ct12), sl12⟩) (c12 : PySem.W.codeIn K cd12 "is_statement" = true) (k12 : PySem.W.keepIn K (.ref f12) = true)
    {f13 : Addr} {od13 an13 : Option Addr} {sl13 : Array (Option Value)} {oc13 kV13 dc13 pm13 cd13 ct13 : Value}
    (a13 : PySem.W.nsIn K mainGlobals "are_statements" = some (some (.ref f13)))
    (l13 : K.lookup f13 = some ⟨oc13, od13, .func (PySem.W.fnOf "are_statements" "are_statements" (defArgs s_are_statements) (defBody s_are_statements) (defScope s_are_statements) .none kV13 dc13 pm13 an13 cd13 ct13), sl13⟩) (c13 : PySem.W.codeIn K cd13 "are_statements" = true) (k13 : PySem.W.keepIn K (.ref f13) = true)
    {f14 : Addr} {od14 an14 : Option Addr} {sl14 : Array (Option Value)} {oc14 kV14 dc14 pm14 cd14 ct14 : Value}
    (a14 : PySem.W.nsIn K mainGlobals "sum_of" = some (some (.ref f14)))
    (l14 : K.lookup f14 = some ⟨oc14, od14, .func (PySem.W.fnOf "sum_of" "sum_of" (defArgs s_sum_of) (defBody s_sum_of) (defScope s_sum_of) .none kV14 dc14 pm14 an14 cd14 ct14), sl14⟩) (c14 : PySem.W.codeIn K cd14 "sum_of" = true) (k14 : PySem.W.keepIn K (.ref f14) = true)
    {f15 : Addr} {od15 an15 : Option Addr} {sl15 : Array (Option Value)} {oc15 kV15 dc15 pm15 cd15 ct15 : Value}
    (a15 : PySem.W.nsIn K mainGlobals "is_less" = some (some (.ref f15)))
    (l15 : K.lookup f15 = some ⟨oc15, od15, .func (PySem.W.fnOf "is_less" "is_less" (defArgs s_is_less) (defBody s_is_less) (defScope s_is_less) .none kV15 dc15 pm15 an15 cd15 ct15), sl15⟩) (c15 : PySem.W.codeIn K cd15 "is_less" = true) (k15 : PySem.W.keepIn K (.ref f15) = true)
    {f16 : Addr} {od16 an16 : Option Addr} {sl16 : Array (Option Value)} {oc16 kV16 dc16 pm16 cd16 ct16 : Value}
    (a16 : PySem.W.nsIn K mainGlobals "goes_on" = some (some (.ref f16)))
    (l16 : K.lookup f16 = some ⟨oc16, od16, .func (PySem.W.fnOf "goes_on" "goes_on" (defArgs s_goes_on) (defBody s_goes_on) (defScope s_goes_on) .none kV16 dc16 pm16 an16 cd16 ct16), sl16⟩) (c16 : PySem.W.codeIn K cd16 "goes_on" = true) (k16 : PySem.W.keepIn K (.ref f16) = true)
    {f17 : Addr} {od17 an17 : Option Addr} {sl17 : Array (Option Value)} {oc17 kV17 dc17 pm17 cd17 ct17 : Value}
    (a17 : PySem.W.nsIn K mainGlobals "shows_statements" = some (some (.ref f17)))
    (l17 : K.lookup f17 = some ⟨oc17, od17, .func (PySem.W.fnOf "shows_statements" "shows_statements" (defArgs s_shows_statements) (defBody s_shows_statements) (defScope s_shows_statements) .none kV17 dc17 pm17 an17 cd17 ct17), sl17⟩) (c17 : PySem.W.codeIn K cd17 "shows_statements" = true) (k17 : PySem.W.keepIn K (.ref f17) = true)
    {f18 : Addr} {od18 an18 : Option Addr} {sl18 : Array (Option Value)} {oc18 kV18 dc18 pm18 cd18 ct18 : Value}
    (a18 : PySem.W.nsIn K mainGlobals "_law_less" = some (some (.ref f18)))
    (l18 : K.lookup f18 = some ⟨oc18, od18, .func (PySem.W.fnOf "_law_less" "_law_less" (defArgs s__law_less) (defBody s__law_less) (defScope s__law_less) .none kV18 dc18 pm18 an18 cd18 ct18), sl18⟩) (c18 : PySem.W.codeIn K cd18 "_law_less" = true) (k18 : PySem.W.keepIn K (.ref f18) = true)
    {f19 : Addr} {od19 an19 : Option Addr} {sl19 : Array (Option Value)} {oc19 kV19 dc19 pm19 cd19 ct19 : Value}
    (a19 : PySem.W.nsIn K mainGlobals "_law_goes_on" = some (some (.ref f19)))
    (l19 : K.lookup f19 = some ⟨oc19, od19, .func (PySem.W.fnOf "_law_goes_on" "_law_goes_on" (defArgs s__law_goes_on) (defBody s__law_goes_on) (defScope s__law_goes_on) .none kV19 dc19 pm19 an19 cd19 ct19), sl19⟩) (c19 : PySem.W.codeIn K cd19 "_law_goes_on" = true) (k19 : PySem.W.keepIn K (.ref f19) = true)
    {f20 : Addr} {od20 an20 : Option Addr} {sl20 : Array (Option Value)} {oc20 kV20 dc20 pm20 cd20 ct20 : Value}
    (a20 : PySem.W.nsIn K mainGlobals "_law_is_fraction" = some (some (.ref f20)))
    (l20 : K.lookup f20 = some ⟨oc20, od20, .func (PySem.W.fnOf "_law_is_fraction" "_law_is_fraction" (defArgs s__law_is_fraction) (defBody s__law_is_fraction) (defScope s__law_is_fraction) .none kV20 dc20 pm20 an20 cd20 ct20), sl20⟩) (c20 : PySem.W.codeIn K cd20 "_law_is_fraction" = true) (k20 : PySem.W.keepIn K (.ref f20) = true)
    {f21 : Addr} {od21 an21 : Option Addr} {sl21 : Array (Option Value)} {oc21 kV21 dc21 pm21 cd21 ct21 : Value}
    (a21 : PySem.W.nsIn K mainGlobals "_law_is_statement" = some (some (.ref f21)))
    (l21 : K.lookup f21 = some ⟨oc21, od21, .func (PySem.W.fnOf "_law_is_statement" "_law_is_statement" (defArgs s__law_is_statement) (defBody s__law_is_statement) (defScope s__law_is_statement) .none kV21 dc21 pm21 an21 cd21 ct21), sl21⟩) (c21 : PySem.W.codeIn K cd21 "_law_is_statement" = true) (k21 : PySem.W.keepIn K (.ref f21) = true)
    {f22 : Addr} {od22 an22 : Option Addr} {sl22 : Array (Option Value)} {oc22 kV22 dc22 pm22 cd22 ct22 : Value}
    (a22 : PySem.W.nsIn K mainGlobals "_law_shown" = some (some (.ref f22)))
    (l22 : K.lookup f22 = some ⟨oc22, od22, .func (PySem.W.fnOf "_law_shown" "_law_shown" (defArgs s__law_shown) (defBody s__law_shown) (defScope s__law_shown) .none kV22 dc22 pm22 an22 cd22 ct22), sl22⟩) (c22 : PySem.W.codeIn K cd22 "_law_shown" = true) (k22 : PySem.W.keepIn K (.ref f22) = true)
    {f23 : Addr} {od23 an23 : Option Addr} {sl23 : Array (Option Value)} {oc23 kV23 dc23 pm23 cd23 ct23 : Value}
    (a23 : PySem.W.nsIn K mainGlobals "_law_right" = some (some (.ref f23)))
    (l23 : K.lookup f23 = some ⟨oc23, od23, .func (PySem.W.fnOf "_law_right" "_law_right" (defArgs s__law_right) (defBody s__law_right) (defScope s__law_right) .none kV23 dc23 pm23 an23 cd23 ct23), sl23⟩) (c23 : PySem.W.codeIn K cd23 "_law_right" = true) (k23 : PySem.W.keepIn K (.ref f23) = true)
    {f24 : Addr} {od24 an24 : Option Addr} {sl24 : Array (Option Value)} {oc24 kV24 dc24 pm24 cd24 ct24 : Value}
    (a24 : PySem.W.nsIn K mainGlobals "_law_both_bent" = some (some (.ref f24)))
    (l24 : K.lookup f24 = some ⟨oc24, od24, .func (PySem.W.fnOf "_law_both_bent" "_law_both_bent" (defArgs s__law_both_bent) (defBody s__law_both_bent) (defScope s__law_both_bent) .none kV24 dc24 pm24 an24 cd24 ct24), sl24⟩) (c24 : PySem.W.codeIn K cd24 "_law_both_bent" = true) (k24 : PySem.W.keepIn K (.ref f24) = true)
    {f25 : Addr} {od25 an25 : Option Addr} {sl25 : Array (Option Value)} {oc25 kV25 dc25 pm25 cd25 ct25 : Value}
    (a25 : PySem.W.nsIn K mainGlobals "_law_one_bent" = some (some (.ref f25)))
    (l25 : K.lookup f25 = some ⟨oc25, od25, .func (PySem.W.fnOf "_law_one_bent" "_law_one_bent" (defArgs s__law_one_bent) (defBody s__law_one_bent) (defScope s__law_one_bent) .none kV25 dc25 pm25 an25 cd25 ct25), sl25⟩) (c25 : PySem.W.codeIn K cd25 "_law_one_bent" = true) (k25 : PySem.W.keepIn K (.ref f25) = true)
    {f26 : Addr} {od26 an26 : Option Addr} {sl26 : Array (Option Value)} {oc26 kV26 dc26 pm26 cd26 ct26 : Value}
    (a26 : PySem.W.nsIn K mainGlobals "law" = some (some (.ref f26)))
    (l26 : K.lookup f26 = some ⟨oc26, od26, .func (PySem.W.fnOf "law" "law" (defArgs s_law) (defBody s_law) (defScope s_law) .none kV26 dc26 pm26 an26 cd26 ct26), sl26⟩) (c26 : PySem.W.codeIn K cd26 "law" = true) (k26 : PySem.W.keepIn K (.ref f26) = true)
    (z0 : PySem.W.nsIn K mainGlobals "abs" = some none)
    (z1 : PySem.W.nsIn K mainGlobals "len" = some none)
    (z2 : PySem.W.nsIn K mainGlobals "isinstance" = some none)
    (z3 : PySem.W.nsIn K mainGlobals "all" = some none)
    (z4 : PySem.W.nsIn K mainGlobals "any" = some none)
    (z5 : PySem.W.nsIn K mainGlobals "sum" = some none)
    (z6 : PySem.W.nsIn K mainGlobals "list" = some none)
    (z7 : PySem.W.nsIn K mainGlobals "tuple" = some none)
    (z8 : PySem.W.nsIn K mainGlobals "int" = some none)
    (z9 : PySem.W.nsIn K mainGlobals "bool" = some none)
    (z10 : PySem.W.nsIn K mainGlobals "str" = some none)
    (z11 : PySem.W.nsIn K mainGlobals "min" = some none)
    (z12 : PySem.W.nsIn K mainGlobals "max" = some none)
    (z13 : PySem.W.nsIn K mainGlobals "range" = some none)
    (z14 : PySem.W.nsIn K mainGlobals "zip" = some none)
    (z15 : PySem.W.nsIn K mainGlobals "sorted" = some none)
    (z16 : PySem.W.nsIn K mainGlobals "enumerate" = some none)
    (z17 : PySem.W.nsIn K mainGlobals "divmod" = some none)
    {tk0 : Tok} (m0 : PySem.W.nsIn K mainGlobals "MOST_NAME" = some (some (.int (8) tk0)))
    {tk1 : Tok} (m1 : PySem.W.nsIn K mainGlobals "SMALL" = some (some (.str "abcdefghijklmnopqrstuvwxyz" tk1)))
    {tk2 : Tok} (m2 : PySem.W.nsIn K mainGlobals "PIECES" = some (some (.int (9) tk2)))
    {at3 : Addr} (m3 : PySem.W.nsIn K mainGlobals "NOUGHT" = some (some (.ref at3))) (yAt3 : He.tupB K "NOUGHT" ([0, 1].map He.Dv.int) = true)
    {at4 : Addr} (m4 : PySem.W.nsIn K mainGlobals "ONE" = some (some (.ref at4))) (yAt4 : He.tupB K "ONE" ([1, 1].map He.Dv.int) = true)
    (y0 : PySem.W.nsIn K mainGlobals "set" = some none)
    : ∃ fd : FuncData, (∀ (s : Shared) (v : Value), BindsTo s fd ⟨[v], []⟩ [("_law_script", v)]) ∧ ∀ base : Heap, K.In base → base.Ns mainGlobals mg → FnOkG l.prog w K mg base CX0 8 fa fd ["_law_script"] (upF 1 K sp_law) := by
  have e := hfa.symm.trans (PySem.W.mg_of X G a26)
  cases e
  have B : Blt mg := ⟨PySem.W.mg_none_of X G z0, PySem.W.mg_none_of X G z1, PySem.W.mg_none_of X G z2, PySem.W.mg_none_of X G z3, PySem.W.mg_none_of X G z4, PySem.W.mg_none_of X G z5, PySem.W.mg_none_of X G z6, PySem.W.mg_none_of X G z7, PySem.W.mg_none_of X G z8, PySem.W.mg_none_of X G z9, PySem.W.mg_none_of X G z10, PySem.W.mg_none_of X G z11, PySem.W.mg_none_of X G z12, PySem.W.mg_none_of X G z13, PySem.W.mg_none_of X G z14, PySem.W.mg_none_of X G z15, PySem.W.mg_none_of X G z16, PySem.W.mg_none_of X G z17⟩
  have U0 := fun_mk (st := s__law_begin) l0 c0 k0
  have T0 : DefAt K mg "_law_begin" s__law_begin ["_law_script"] := ⟨_, _, U0, PySem.W.mg_of X G a0, U0.binds (ps := ["_law_script"]) fun _ _ _ _ _ _ us hl => match us, hl with | [_], _ => rfl⟩
  have U1 := fun_mk (st := s__law_sum) l1 c1 k1
  have T1 : DefAt K mg "_law_sum" s__law_sum ["_law_one", "_law_other"] := ⟨_, _, U1, PySem.W.mg_of X G a1, U1.binds (ps := ["_law_one", "_law_other"]) fun _ _ _ _ _ _ us hl => match us, hl with | [_, _], _ => rfl⟩
  have U2 := fun_mk (st := s__law_times) l2 c2 k2
  have T2 : DefAt K mg "_law_times" s__law_times ["_law_one", "_law_top", "_law_below"] := ⟨_, _, U2, PySem.W.mg_of X G a2, U2.binds (ps := ["_law_one", "_law_top", "_law_below"]) fun _ _ _ _ _ _ us hl => match us, hl with | [_, _, _], _ => rfl⟩
  have U3 := fun_mk (st := s__law_take) l3 c3 k3
  have T3 : DefAt K mg "_law_take" s__law_take ["_law_state", "_law_many"] := ⟨_, _, U3, PySem.W.mg_of X G a3, U3.binds (ps := ["_law_state", "_law_many"]) fun _ _ _ _ _ _ us hl => match us, hl with | [_, _], _ => rfl⟩
  have U4 := fun_mk (st := s__law_fraction) l4 c4 k4
  have T4 : DefAt K mg "_law_fraction" s__law_fraction ["_law_state", "_law_low", "_law_high"] := ⟨_, _, U4, PySem.W.mg_of X G a4, U4.binds (ps := ["_law_state", "_law_low", "_law_high"]) fun _ _ _ _ _ _ us hl => match us, hl with | [_, _, _], _ => rfl⟩
  have U5 := fun_mk (st := s__law_pair) l5 c5 k5
  have T5 : DefAt K mg "_law_pair" s__law_pair ["_law_state", "_law_name"] := ⟨_, _, U5, PySem.W.mg_of X G a5, U5.binds (ps := ["_law_state", "_law_name"]) fun _ _ _ _ _ _ us hl => match us, hl with | [_, _], _ => rfl⟩
  have U6 := fun_mk (st := s__law_names) l6 c6 k6
  have T6 : DefAt K mg "_law_names" s__law_names ["_law_state", "_law_many"] := ⟨_, _, U6, PySem.W.mg_of X G a6, U6.binds (ps := ["_law_state", "_law_many"]) fun _ _ _ _ _ _ us hl => match us, hl with | [_, _], _ => rfl⟩
  have U7 := fun_mk (st := s_is_told_name) l7 c7 k7
  have T7 : DefAt K mg "is_told_name" s_is_told_name ["thing"] := ⟨_, _, U7, PySem.W.mg_of X G a7, U7.binds (ps := ["thing"]) fun _ _ _ _ _ _ us hl => match us, hl with | [_], _ => rfl⟩
  have U8 := fun_mk (st := s_divisor_of) l8 c8 k8
  have T8 : DefAt K mg "divisor_of" s_divisor_of ["one", "other"] := ⟨_, _, U8, PySem.W.mg_of X G a8, U8.binds (ps := ["one", "other"]) fun _ _ _ _ _ _ us hl => match us, hl with | [_, _], _ => rfl⟩
  have U9 := fun_mk (st := s_fraction_of) l9 c9 k9
  have T9 : DefAt K mg "fraction_of" s_fraction_of ["top", "below"] := ⟨_, _, U9, PySem.W.mg_of X G a9, U9.binds (ps := ["top", "below"]) fun _ _ _ _ _ _ us hl => match us, hl with | [_, _], _ => rfl⟩
  have U10 := fun_mk (st := s_is_whole) l10 c10 k10
  have T10 : DefAt K mg "is_whole" s_is_whole ["thing"] := ⟨_, _, U10, PySem.W.mg_of X G a10, U10.binds (ps := ["thing"]) fun _ _ _ _ _ _ us hl => match us, hl with | [_], _ => rfl⟩
  have U11 := fun_mk (st := s_is_told_fraction) l11 c11 k11
  have T11 : DefAt K mg "is_told_fraction" s_is_told_fraction ["thing"] := ⟨_, _, U11, PySem.W.mg_of X G a11, U11.binds (ps := ["thing"]) fun _ _ _ _ _ _ us hl => match us, hl with | [_], _ => rfl⟩
  have U12 := fun_mk (st := s_is_statement) l12 c12 k12
  have T12 : DefAt K mg "is_statement" s_is_statement ["thing"] := ⟨_, _, U12, PySem.W.mg_of X G a12, U12.binds (ps := ["thing"]) fun _ _ _ _ _ _ us hl => match us, hl with | [_], _ => rfl⟩
  have U13 := fun_mk (st := s_are_statements) l13 c13 k13
  have T13 : DefAt K mg "are_statements" s_are_statements ["thing"] := ⟨_, _, U13, PySem.W.mg_of X G a13, U13.binds (ps := ["thing"]) fun _ _ _ _ _ _ us hl => match us, hl with | [_], _ => rfl⟩
  have U14 := fun_mk (st := s_sum_of) l14 c14 k14
  have T14 : DefAt K mg "sum_of" s_sum_of ["parts"] := ⟨_, _, U14, PySem.W.mg_of X G a14, U14.binds (ps := ["parts"]) fun _ _ _ _ _ _ us hl => match us, hl with | [_], _ => rfl⟩
  have U15 := fun_mk (st := s_is_less) l15 c15 k15
  have T15 : DefAt K mg "is_less" s_is_less ["one", "other"] := ⟨_, _, U15, PySem.W.mg_of X G a15, U15.binds (ps := ["one", "other"]) fun _ _ _ _ _ _ us hl => match us, hl with | [_, _], _ => rfl⟩
  have U16 := fun_mk (st := s_goes_on) l16 c16 k16
  have T16 : DefAt K mg "goes_on" s_goes_on ["one", "other"] := ⟨_, _, U16, PySem.W.mg_of X G a16, U16.binds (ps := ["one", "other"]) fun _ _ _ _ _ _ us hl => match us, hl with | [_, _], _ => rfl⟩
  have U17 := fun_mk (st := s_shows_statements) l17 c17 k17
  have T17 : DefAt K mg "shows_statements" s_shows_statements ["one", "other"] := ⟨_, _, U17, PySem.W.mg_of X G a17, U17.binds (ps := ["one", "other"]) fun _ _ _ _ _ _ us hl => match us, hl with | [_, _], _ => rfl⟩
  have U18 := fun_mk (st := s__law_less) l18 c18 k18
  have T18 : DefAt K mg "_law_less" s__law_less ["_law_one", "_law_other"] := ⟨_, _, U18, PySem.W.mg_of X G a18, U18.binds (ps := ["_law_one", "_law_other"]) fun _ _ _ _ _ _ us hl => match us, hl with | [_, _], _ => rfl⟩
  have U19 := fun_mk (st := s__law_goes_on) l19 c19 k19
  have T19 : DefAt K mg "_law_goes_on" s__law_goes_on ["_law_one", "_law_other"] := ⟨_, _, U19, PySem.W.mg_of X G a19, U19.binds (ps := ["_law_one", "_law_other"]) fun _ _ _ _ _ _ us hl => match us, hl with | [_, _], _ => rfl⟩
  have U20 := fun_mk (st := s__law_is_fraction) l20 c20 k20
  have T20 : DefAt K mg "_law_is_fraction" s__law_is_fraction ["_law_thing"] := ⟨_, _, U20, PySem.W.mg_of X G a20, U20.binds (ps := ["_law_thing"]) fun _ _ _ _ _ _ us hl => match us, hl with | [_], _ => rfl⟩
  have U21 := fun_mk (st := s__law_is_statement) l21 c21 k21
  have T21 : DefAt K mg "_law_is_statement" s__law_is_statement ["_law_thing"] := ⟨_, _, U21, PySem.W.mg_of X G a21, U21.binds (ps := ["_law_thing"]) fun _ _ _ _ _ _ us hl => match us, hl with | [_], _ => rfl⟩
  have U22 := fun_mk (st := s__law_shown) l22 c22 k22
  have T22 : DefAt K mg "_law_shown" s__law_shown ["_law_one", "_law_other"] := ⟨_, _, U22, PySem.W.mg_of X G a22, U22.binds (ps := ["_law_one", "_law_other"]) fun _ _ _ _ _ _ us hl => match us, hl with | [_, _], _ => rfl⟩
  have U23 := fun_mk (st := s__law_right) l23 c23 k23
  have T23 : DefAt K mg "_law_right" s__law_right ["_law_one", "_law_other"] := ⟨_, _, U23, PySem.W.mg_of X G a23, U23.binds (ps := ["_law_one", "_law_other"]) fun _ _ _ _ _ _ us hl => match us, hl with | [_, _], _ => rfl⟩
  have U24 := fun_mk (st := s__law_both_bent) l24 c24 k24
  have T24 : DefAt K mg "_law_both_bent" s__law_both_bent ["_law_state", "_law_one", "_law_other"] := ⟨_, _, U24, PySem.W.mg_of X G a24, U24.binds (ps := ["_law_state", "_law_one", "_law_other"]) fun _ _ _ _ _ _ us hl => match us, hl with | [_, _, _], _ => rfl⟩
  have U25 := fun_mk (st := s__law_one_bent) l25 c25 k25
  have T25 : DefAt K mg "_law_one_bent" s__law_one_bent ["_law_state", "_law_some"] := ⟨_, _, U25, PySem.W.mg_of X G a25, U25.binds (ps := ["_law_state", "_law_some"]) fun _ _ _ _ _ _ us hl => match us, hl with | [_, _], _ => rfl⟩
  have U26 := fun_mk (st := s_law) l26 c26 k26
  refine ⟨PySem.W.fnOf "law" "law" (defArgs s_law) (defBody s_law) (defScope s_law) .none kV26 dc26 pm26 an26 cd26 ct26, fun s v => .of_eq rfl, fun base _ _ => ?_⟩
  have R0 : FnAt l.prog w K mg base CX0 1 "_law_begin" 1 sp__law_begin := ok__law_begin T0 B 
  have R1 : FnAt l.prog w K mg base CX0 1 "_law_sum" 2 sp__law_sum := ok__law_sum T1 B 
  have R2 : FnAt l.prog w K mg base CX0 2 "_law_times" 3 sp__law_times := ok__law_times T2 B R1
  have R3 : FnAt l.prog w K mg base CX0 1 "_law_take" 2 sp__law_take := ok__law_take T3 B 
  have R4 : FnAt l.prog w K mg base CX0 2 "_law_fraction" 3 sp__law_fraction := ok__law_fraction T4 B R3 R1
  have R5 : FnAt l.prog w K mg base CX0 3 "_law_pair" 2 sp__law_pair := ok__law_pair T5 B R2 R1 R3 R4
  have R6 : FnAt l.prog w K mg base CX0 2 "_law_names" 2 sp__law_names := ok__law_names T6 B R3
  have R7 : FnAt l.prog w K mg base CX0 1 "is_told_name" 1 sp_is_told_name := ok_is_told_name T7 B  (PySem.W.mg_of X G m0) (PySem.W.mg_of X G m1)
  have R8 : FnAt l.prog w K mg base CX0 1 "divisor_of" 2 sp_divisor_of := ok_divisor_of T8 B 
  have R9 : FnAt l.prog w K mg base CX0 2 "fraction_of" 2 sp_fraction_of := ok_fraction_of T9 B R8
  have R10 : FnAt l.prog w K mg base CX0 1 "is_whole" 1 sp_is_whole := ok_is_whole T10 B 
  have R11 : FnAt l.prog w K mg base CX0 3 "is_told_fraction" 1 sp_is_told_fraction := ok_is_told_fraction T11 B R9 R10
  have R12 : FnAt l.prog w K mg base CX0 4 "is_statement" 1 sp_is_statement := ok_is_statement T12 B R7 R11 R10 (PySem.W.mg_of X G m2)
  have R13 : FnAt l.prog w K mg base CX0 5 "are_statements" 1 sp_are_statements := ok_are_statements T13 B R12
  have R14 : FnAt l.prog w K mg base CX0 3 "sum_of" 1 sp_sum_of := ok_sum_of T14 B R9
  have R15 : FnAt l.prog w K mg base CX0 1 "is_less" 2 sp_is_less := ok_is_less T15 B 
  have R16 : FnAt l.prog w K mg base CX0 4 "goes_on" 2 sp_goes_on := ok_goes_on T16 B R14 R15 (tupG_mk (PySem.W.mg_of X G m3) m3 yAt3) (tupG_mk (PySem.W.mg_of X G m4) m4 yAt4)
  have R17 : FnAt l.prog w K mg base CX0 6 "shows_statements" 2 sp_shows_statements := ok_shows_statements T17 B R13 R16
  have R18 : FnAt l.prog w K mg base CX0 1 "_law_less" 2 sp__law_less := ok__law_less T18 B 
  have R19 : FnAt l.prog w K mg base CX0 2 "_law_goes_on" 2 sp__law_goes_on := ok__law_goes_on T19 B R1 R18
  have R20 : FnAt l.prog w K mg base CX0 2 "_law_is_fraction" 1 sp__law_is_fraction := ok__law_is_fraction T20 B R1
  have R21 : FnAt l.prog w K mg base CX0 3 "_law_is_statement" 1 sp__law_is_statement := ok__law_is_statement T21 B R20
  have R22 : FnAt l.prog w K mg base CX0 4 "_law_shown" 2 sp__law_shown := ok__law_shown T22 B R19 R21 (PySem.W.mg_none_of X G y0)
  have R23 : FnAtG l.prog w K mg base CX0 7 "_law_right" 2 sp__law_right := ok__law_right T23 B R17 R22
  have R24 : FnAt l.prog w K mg base CX0 2 "_law_both_bent" 3 sp__law_both_bent := ok__law_both_bent T24 B R3
  have R25 : FnAt l.prog w K mg base CX0 2 "_law_one_bent" 2 sp__law_one_bent := ok__law_one_bent T25 B R3 R1
  exact ok_law U26 B R0 R5 R6 R23 R22 R3 R24 R25
end LW

open PySem PySem.W PyProof.Rows
set_option maxHeartbeats 0 in
theorem PySem.Challenge.cw_royaltree_k75_statements_bent_in_both_holds : PySem.Challenge.rw_royaltree_k75_statements_bent_in_both.Holds := by
  w_on; o_law; k_head; (case hw => w_witness2)
  k_fill
  refine DL.walkG (l := PySem.Challenge.rw_royaltree_k75_statements_bent_in_both) (n := 63) (k := 8) (x := "_law_script") rfl rfl ⟨rfl, by decide, by decide⟩ (fun w h Y => PySem.W.kIn_of Y) ?F (by decide)
  case F =>
    intro w mg fa h KX G hmg
    refine' LW.all_mk KX G hmg ?a0 ?l0 ?c0 ?k0 ?a1 ?l1 ?c1 ?k1 ?a2 ?l2 ?c2 ?k2 ?a3 ?l3 ?c3 ?k3 ?a4 ?l4 ?c4 ?k4 ?a5 ?l5 ?c5 ?k5 ?a6 ?l6 ?c6 ?k6 ?a7 ?l7 ?c7 ?k7 ?a8 ?l8 ?c8 ?k8 ?a9 ?l9 ?c9 ?k9 ?a10 ?l10 ?c10 ?k10 ?a11 ?l11 ?c11 ?k11 ?a12 ?l12 ?c12 ?k12 ?a13 ?l13 ?c13 ?k13 ?a14 ?l14 ?c14 ?k14 ?a15 ?l15 ?c15 ?k15 ?a16 ?l16 ?c16 ?k16 ?a17 ?l17 ?c17 ?k17 ?a18 ?l18 ?c18 ?k18 ?a19 ?l19 ?c19 ?k19 ?a20 ?l20 ?c20 ?k20 ?a21 ?l21 ?c21 ?k21 ?a22 ?l22 ?c22 ?k22 ?a23 ?l23 ?c23 ?k23 ?a24 ?l24 ?c24 ?k24 ?a25 ?l25 ?c25 ?k25 ?a26 ?l26 ?c26 ?k26 ?z0 ?z1 ?z2 ?z3 ?z4 ?z5 ?z6 ?z7 ?z8 ?z9 ?z10 ?z11 ?z12 ?z13 ?z14 ?z15 ?z16 ?z17 ?m0 ?m1 ?m2 ?m3 ?yAt3 ?m4 ?yAt4 ?y0
    (case a0 => k_is); (case l0 => k_is); (case c0 => k_is); (case k0 => k_is); (case a1 => k_is); (case l1 => k_is); (case c1 => k_is); (case k1 => k_is); (case a2 => k_is); (case l2 => k_is); (case c2 => k_is); (case k2 => k_is); (case a3 => k_is); (case l3 => k_is); (case c3 => k_is); (case k3 => k_is); (case a4 => k_is); (case l4 => k_is); (case c4 => k_is); (case k4 => k_is); (case a5 => k_is); (case l5 => k_is); (case c5 => k_is); (case k5 => k_is); (case a6 => k_is); (case l6 => k_is); (case c6 => k_is); (case k6 => k_is); (case a7 => k_is); (case l7 => k_is); (case c7 => k_is); (case k7 => k_is); (case a8 => k_is); (case l8 => k_is); (case c8 => k_is); (case k8 => k_is); (case a9 => k_is); (case l9 => k_is); (case c9 => k_is); (case k9 => k_is); (case a10 => k_is); (case l10 => k_is); (case c10 => k_is); (case k10 => k_is); (case a11 => k_is); (case l11 => k_is); (case c11 => k_is); (case k11 => k_is); (case a12 => k_is); (case l12 => k_is); (case c12 => k_is); (case k12 => k_is); (case a13 => k_is); (case l13 => k_is); (case c13 => k_is); (case k13 => k_is); (case a14 => k_is); (case l14 => k_is); (case c14 => k_is); (case k14 => k_is); (case a15 => k_is); (case l15 => k_is); (case c15 => k_is); (case k15 => k_is); (case a16 => k_is); (case l16 => k_is); (case c16 => k_is); (case k16 => k_is); (case a17 => k_is); (case l17 => k_is); (case c17 => k_is); (case k17 => k_is); (case a18 => k_is); (case l18 => k_is); (case c18 => k_is); (case k18 => k_is); (case a19 => k_is); (case l19 => k_is); (case c19 => k_is); (case k19 => k_is); (case a20 => k_is); (case l20 => k_is); (case c20 => k_is); (case k20 => k_is); (case a21 => k_is); (case l21 => k_is); (case c21 => k_is); (case k21 => k_is); (case a22 => k_is); (case l22 => k_is); (case c22 => k_is); (case k22 => k_is); (case a23 => k_is); (case l23 => k_is); (case c23 => k_is); (case k23 => k_is); (case a24 => k_is); (case l24 => k_is); (case c24 => k_is); (case k24 => k_is); (case a25 => k_is); (case l25 => k_is); (case c25 => k_is); (case k25 => k_is); (case a26 => k_is); (case l26 => k_is); (case c26 => k_is); (case k26 => k_is); (case z0 => k_is); (case z1 => k_is); (case z2 => k_is); (case z3 => k_is); (case z4 => k_is); (case z5 => k_is); (case z6 => k_is); (case z7 => k_is); (case z8 => k_is); (case z9 => k_is); (case z10 => k_is); (case z11 => k_is); (case z12 => k_is); (case z13 => k_is); (case z14 => k_is); (case z15 => k_is); (case z16 => k_is); (case z17 => k_is); (case m0 => k_is); (case m1 => k_is); (case m2 => k_is); (case m3 => k_is); (case yAt3 => kernel_rfl); (case m4 => k_is); (case yAt4 => kernel_rfl); (case y0 => k_is)


