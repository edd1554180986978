import PyProof.Rows.All
import Wide.All
import OpenK.AllK
import Wide.FinOn
import HandS.Exc
import HandS.ExcOwn
import HandS.ExcValue
import HandS.WordsExc
import HandS.IsInst
import HandS.ExcIs
import HandS.ForMost
import HandS.Wide
import HandS.WideBits
import HandS.Lambda
import HandS.Zip
import HandS.Style
import HandS.TupAny
import HandS.List
import HandS.Text
import HandS.SetFor
import HandS.Dict
import HandS.SetKeys
import HandS.Small
import HandS.More
import KE.KLam
import KE.SortKeyHeap
import KE.SortData
import HandS.Iter
import KE.KNestM
import HandS.EndTab
import HandS.ListItems
import HandS.Deep
import KE.DatumOrd
import HandS.Strs
import KE.KDictPairs
import PyProof.FactsAll.dict_3
import HandS.Sort
import HandS.HeadHook2
import HandS.ExcInit
import KE.KExcIs
import HandS.ExcField
import HandS.RaiseMore
import PyProof.ReprRoads
import KE.KIntText
import PyProof.Rows.StrOr
import PyProof.StrOps2
import HandS.Codes
import HandS.Steps
import HandS.SetTxt0
import KE.KEqNest
import HandS.Zip0
import KE.GoesZip
import KE.GoesMore
import KE.KDictList
import KE.KDictSum
import KE.KEqDict
import HandS.DictComp
import HandS.TupMul
import PySem.Challenge.RW_royaltree_k06_what_rows_are
set_option Elab.async false
set_option linter.all false
set_option maxRecDepth 100000
namespace L2
open PySem PySem.Spec PyProof.Rows
def ExcAt (a : Addr) (cls : Value) (dx : Option Addr) : HO := .ext fun h => ∃ o, h.get? a = some o ∧ Zc cls dx o ∧ ∃ vs, o.data = .fields vs
section
variable {X : Cx} {pins : List (Addr × Obj)} {σ σ' : St} {H H' : Hp} {s sI : Shared}
end
def wNote (K : PySem.W.Frag) (c : Value) (i : Nat) (ts : Addr → Value → Option Addr → TS) (Wout : WX) (D : Ends) : WX := fun cls d σ H =>
  ∃ b, PySem.W.exmOne K cls c = some b ∧ (b = true → ∀ a, H a = none → ts a cls d { nx := fun σ' H' => H' a = none → D.nx (σ'.set i none) (upd H' a (ExcAt a cls d)), rt := fun _ _ => False } (σ.set i (some (.ref a))) H) ∧ (b = false → Wout cls d σ H)
section
variable {X : Cx} {x n : Str} {c : Value} {i : Nat} {body suite : List Stmt} {b₀ : Stmt} {np pos pos' : Pos} {tb : WX → TS} {ts : Addr → Value → Option Addr → TS} {Wout : WX}
end
def rIsiE (K : PySem.W.Frag) : List V → Hp → VK → Prop := fun xs H Q => ∃ (a D : Addr) (c : V) (u : Value) (b : Bool), xs = [.ref a, c] ∧ ExcC K D ∧ H a = some (ExcAt a (.ref D) none) ∧ ClsV c u ∧ PySem.W.kitOne K (.ref D) u = some b ∧ Q (.bl b) H
def rIsiTE (K : PySem.W.Frag) : List V → Hp → VK → Prop := fun xs H Q => ∃ (a D tp : Addr) (cs : List V) (us : List Value) (b : Bool), xs = [.ref a, .ref tp] ∧ ExcC K D ∧ H a = some (ExcAt a (.ref D) none) ∧ SqT K H tp cs ∧ Paired ClsV cs us ∧ PySem.W.kitAny K (.ref D) us = some b ∧ Q (.bl b) H
section
variable {X : Cx} {pins : List (Addr × Obj)} {σ : St} {H : Hp} {s : Shared}
end
end L2

namespace DL
open PySem PySem.Spec PyProof.Rows L2

inductive D where
  | non | bl (b : Bool) | int (i : Int) | str (x : Str)
  | lst (xs : List D) | tup (xs : List D)
  | rf (i : Nat) | st | ob (v : V) | scr (ns : List Int)

inductive Cell where
  | dead | lst (xs : List D) | dk (kvs : List (Key × D)) | ins (C : Addr) (fs : List (Str × D))
  /-- a caught exception of the class at C, without fields -/
  | exc (C : Addr)
  /-- a caught exception of the class at C, with fields -/
  | exf (C : Addr) (fs : List (Str × D))
  /-- the table at P of code objects of the name q -/
  | tbl (P : Addr) (q : Str)
  /-- a dict that is walked -/
  | lk (o : Obj) (ks : List (Key × V)) (kvs : List (Key × D))

structure Wd where
  M : List Cell
  n : Option Nat

structure Gh where
  al : List Addr
  st : Option (Addr × Addr)
  fr : List (Addr × HO)

def isOb : V → Bool
  | .ty _ => true
  | .ref _ => true
  | _ => false

mutual
inductive Rep (K : PySem.W.Frag) (G : Gh) (S : Hp) : V → D → Prop
  | non : Rep K G S .non .non
  | bl (b : Bool) : Rep K G S (.bl b) (.bl b)
  | int (i : Int) : Rep K G S (.int i) (.int i)
  | str (x : Str) : Rep K G S (.str x) (.str x)
  | lst {a : Addr} {xs : List V} {ds : List D} : S a = some (.lst xs) → RepAll K G S xs ds → Rep K G S (.ref a) (.lst ds)
  | tup {a : Addr} {xs : List V} {ds : List D} : SqT K S a xs → RepAll K G S xs ds → Rep K G S (.ref a) (.tup ds)
  | rf {a : Addr} {i : Nat} : G.al[i]? = some a → Rep K G S (.ref a) (.rf i)
  | st {a c : Addr} : G.st = some (a, c) → Rep K G S (.ref a) .st
  | ob {v : V} : isOb v = true → Rep K G S v (.ob v)
  | scr {a : Addr} {ns : List Int} : SqL K S a (ns.map V.int) → Rep K G S (.ref a) (.scr ns)
inductive RepAll (K : PySem.W.Frag) (G : Gh) (S : Hp) : List V → List D → Prop
  | nil : RepAll K G S [] []
  | cons {v : V} {vs : List V} {d : D} {ds : List D} : Rep K G S v d → RepAll K G S vs ds → RepAll K G S (v :: vs) (d :: ds)
end

theorem sqT_up {K : PySem.W.Frag} {H H' : Hp} (e : ∀ b o, H b = some o → H' b = some o) {a : Addr} {xs : List V} (h : SqT K H a xs) : SqT K H' a xs := by
  unfold SqT at h ⊢
  rcases h with (h | ⟨o, h⟩) | h
  · exact .inl (.inl (e _ _ h))
  · exact .inl (.inr ⟨o, e _ _ h⟩)
  · exact .inr h
structure Ext (G : Gh) (S : Hp) (G' : Gh) (S' : Hp) : Prop where
  al : ∃ r, G'.al = G.al ++ r
  st : ∀ p, G.st = some p → G'.st = some p
  fr : ∀ p ∈ G.fr, p ∈ G'.fr
  same : Same S S'
theorem Ext.refl (G : Gh) (S : Hp) : Ext G S G S := ⟨⟨[], by simp⟩, fun _ h => h, fun _ h => h, Same.refl S⟩
theorem Ext.trans {G G1 G2 : Gh} {S S1 S2 : Hp} (a : Ext G S G1 S1) (b : Ext G1 S1 G2 S2) : Ext G S G2 S2 := by
  obtain ⟨r1, e1⟩ := a.al
  obtain ⟨r2, e2⟩ := b.al
  exact ⟨⟨r1 ++ r2, by rw [e2, e1, List.append_assoc]⟩, fun p h => b.st p (a.st p h), fun p h => b.fr p (a.fr p h), a.same.trans b.same⟩
theorem Ext.alGet {G G' : Gh} {S S' : Hp} (x : Ext G S G' S') {i : Nat} {a : Addr} (h : G.al[i]? = some a) : G'.al[i]? = some a := by
  obtain ⟨r, e⟩ := x.al
  rw [e, List.getElem?_append_left (List.getElem?_eq_some_iff.mp h).1]
  exact h

section
variable {K : PySem.W.Frag} {G G' : Gh} {S S' : Hp}
mutual
theorem Rep.mono (x : Ext G S G' S') : ∀ {v : V} {d : D}, Rep K G S v d → Rep K G' S' v d
  | _, _, .non => .non
  | _, _, .bl b => .bl b
  | _, _, .int i => .int i
  | _, _, .str i => .str i
  | _, _, .lst h r => .lst (x.same _ _ h) (RepAll.mono x r)
  | _, _, .tup h r => .tup (sqT_up x.same h) (RepAll.mono x r)
  | _, _, .rf h => .rf (x.alGet h)
  | _, _, .st h => .st (x.st _ h)
  | _, _, .ob h => .ob h
  | _, _, .scr h => .scr (x.same.seq h)
theorem RepAll.mono (x : Ext G S G' S') : ∀ {v : List V} {d : List D}, RepAll K G S v d → RepAll K G' S' v d
  | _, _, .nil => .nil
  | _, _, .cons h r => .cons (Rep.mono x h) (RepAll.mono x r)
end
theorem RepAll.length : ∀ {vs : List V} {ds : List D}, RepAll K G S vs ds → vs.length = ds.length
  | _, _, .nil => rfl
  | _, _, .cons _ r => congrArg (· + 1) (RepAll.length r)
theorem RepAll.get : ∀ {vs : List V} {ds : List D} {i : Nat} {d : D}, RepAll K G S vs ds → ds[i]? = some d → ∃ v, vs[i]? = some v ∧ Rep K G S v d
  | _, _, _, _, .nil, h => by simp at h
  | _, _, 0, _, .cons h _, e => by
    simp at e
    subst e
    exact ⟨_, rfl, h⟩
  | _, _, i + 1, d, .cons _ r, e => by
    obtain ⟨v, h1, h2⟩ := RepAll.get (i := i) (d := d) r (by simpa using e)
    exact ⟨v, by simpa using h1, h2⟩
theorem RepAll.append : ∀ {vs ws : List V} {ds es : List D}, RepAll K G S vs ds → RepAll K G S ws es → RepAll K G S (vs ++ ws) (ds ++ es)
  | _, _, _, _, .nil, h => h
  | _, _, _, _, .cons h r, q => .cons h (RepAll.append r q)
theorem RepAll.set {v : V} {d : D} (h : Rep K G S v d) : ∀ {vs : List V} {ds : List D} (i : Nat), RepAll K G S vs ds → RepAll K G S (vs.set i v) (ds.set i d)
  | _, _, _, .nil => .nil
  | _, _, 0, .cons _ r => .cons h r
  | _, _, i + 1, .cons q r => .cons q (RepAll.set h i r)
theorem RepAll.drop : ∀ {vs : List V} {ds : List D} (i : Nat), RepAll K G S vs ds → RepAll K G S (vs.drop i) (ds.drop i)
  | _, _, 0, h => h
  | _, _, _ + 1, .nil => .nil
  | _, _, i + 1, .cons _ r => RepAll.drop i r
theorem RepAll.take : ∀ {vs : List V} {ds : List D} (i : Nat), RepAll K G S vs ds → RepAll K G S (vs.take i) (ds.take i)
  | _, _, 0, _ => .nil
  | _, _, _ + 1, .nil => .nil
  | _, _, i + 1, .cons h r => .cons h (RepAll.take i r)
theorem RepAll.eraseIdx : ∀ {vs : List V} {ds : List D} (i : Nat), RepAll K G S vs ds → RepAll K G S (vs.eraseIdx i) (ds.eraseIdx i)
  | _, _, _, .nil => .nil
  | _, _, 0, .cons _ r => r
  | _, _, i + 1, .cons h r => .cons h (RepAll.eraseIdx i r)
theorem RepAll.reverse {vs : List V} {ds : List D} (h : RepAll K G S vs ds) : RepAll K G S vs.reverse ds.reverse := by
  induction h using RepAll.rec (motive_1 := fun _ _ _ => True) with
  | nil => exact .nil
  | cons h r _ ih =>
    rw [List.reverse_cons, List.reverse_cons]
    exact RepAll.append ih (.cons h .nil)
  | _ => trivial
end

section
variable {K : PySem.W.Frag} {S : Hp} {al : List Addr} {st : Option (Addr × Addr)} {f f' : List (Addr × HO)}
mutual
theorem Rep.refr : ∀ {v : V} {d : D}, Rep K ⟨al, st, f⟩ S v d → Rep K ⟨al, st, f'⟩ S v d
  | _, _, .non => .non
  | _, _, .bl b => .bl b
  | _, _, .int i => .int i
  | _, _, .str i => .str i
  | _, _, .lst h r => .lst h (RepAll.refr r)
  | _, _, .tup h r => .tup h (RepAll.refr r)
  | _, _, .rf h => .rf h
  | _, _, .st h => .st h
  | _, _, .ob h => .ob h
  | _, _, .scr h => .scr h
theorem RepAll.refr : ∀ {v : List V} {d : List D}, RepAll K ⟨al, st, f⟩ S v d → RepAll K ⟨al, st, f'⟩ S v d
  | _, _, .nil => .nil
  | _, _, .cons h r => .cons (Rep.refr h) (RepAll.refr r)
end
end

def FsRep (K : PySem.W.Frag) (G : Gh) (S : Hp) {κ : Type} : List (κ × V) → List (κ × D) → Prop := Paired fun p q => p.1 = q.1 ∧ Rep K G S p.2 q.2
def CellOk (K : PySem.W.Frag) (G : Gh) (S H : Hp) (a : Addr) : Cell → Prop
  | .dead => H a ≠ none
  | .lst ds => S a = none ∧ ∃ xs, H a = some (.lst xs) ∧ RepAll K G S xs ds
  | .dk kvs => S a = none ∧ ∃ ks, H a = some (.dK ks) ∧ FsRep K G S ks kvs
  | .ins C fs => S a = none ∧ ∃ dx gs, H a = some (.ins C dx gs) ∧ FsRep K G S gs fs
  | .exc C => S a = none ∧ H a = some (ExcAt a (.ref C) none)
  | .exf C fs => S a = none ∧ ∃ dx gs, H a = some (ExcAt a (.ref C) (some dx)) ∧ S dx = some (.xd gs) ∧ FsRep K G S gs fs
  | .tbl P q => a = P ∧ S a = none ∧ ∃ ps : Array Value, H a = some (.tbl ps) ∧ TriplesOk ps.toList ∧ ∀ (pos : Pos) (cv : Value), codeAmong pos ps.toList = some cv → ∃ c, cv = .ref c ∧ S c = some (LamX.CodeO c q)
  | .lk o ks kvs => S a = none ∧ H a = some (.frz o (.dK ks)) ∧ FsRep K G S ks kvs
theorem CellOk.some {K : PySem.W.Frag} {G : Gh} {S H : Hp} {a : Addr} {c : Cell} (h : CellOk K G S H a c) : H a ≠ none := by
  cases c with
  | dead => exact h
  | lst ds => obtain ⟨_, xs, e, _⟩ := h; rw [e]; exact fun z => nomatch z
  | dk ds => obtain ⟨_, xs, e, _⟩ := h; rw [e]; exact fun z => nomatch z
  | ins C ds => obtain ⟨_, xs, _, e, _⟩ := h; rw [e]; exact fun z => nomatch z
  | exc C => rw [h.2]; exact fun z => nomatch z
  | exf C fs => obtain ⟨_, dx, gs, e, _⟩ := h; rw [e]; exact fun z => nomatch z
  | tbl P q => obtain ⟨_, _, ps, e, _⟩ := h; rw [e]; exact fun z => nomatch z
  | lk o ks kvs => rw [h.2.1]; exact fun z => nomatch z

def StOk (G : Gh) (S : Hp) (n : Option Nat) (H : Hp) : Prop := (n = none → G.st = none) ∧ ∀ a c, G.st = some (a, c) → S a = none ∧ S c = none ∧ a ≠ c ∧ a ∉ G.al ∧ c ∉ G.al ∧ (∀ p ∈ G.fr, p.1 ≠ a ∧ p.1 ≠ c) ∧
  ∃ (cells : List Int) (turn : Int), H a = some (.dK [(.inr "cells", .ref c), (.inr "turn", .int turn)]) ∧ H c = some (.lst (cells.map V.int)) ∧ cells ≠ [] ∧ cells.length ≤ 63 ∧ 0 ≤ turn ∧ turn + (n.getD 0 : Nat) ≤ 1000000000

structure HR (K : PySem.W.Frag) (G : Gh) (S : Hp) (w : Wd) (H : Hp) : Prop where
  same : Same S H
  len : G.al.length = w.M.length
  nod : G.al.Nodup
  cell : ∀ (i : Nat) (a : Addr) (c : Cell), G.al[i]? = some a → w.M[i]? = some c → CellOk K G S H a c
  st : StOk G S w.n H
  fr : ∀ p ∈ G.fr, S p.1 = none ∧ p.1 ∉ G.al ∧ H p.1 = some p.2

end DL

namespace DL
open PySem PySem.Spec PyProof.Rows L2
section
variable {K : PySem.W.Frag} {G G' : Gh} {S S' H : Hp} {w : Wd}

theorem HR.alSome (h : HR K G S w H) {a : Addr} (ha : a ∈ G.al) : H a ≠ none := by
  obtain ⟨i, hi⟩ := List.getElem?_of_mem ha
  have l : i < w.M.length := by
    rw [← h.len]
    exact (List.getElem?_eq_some_iff.mp hi).1
  exact (h.cell i a _ hi (List.getElem?_eq_getElem l)).some
theorem HR.freshAl (h : HR K G S w H) {p : Addr} (hp : H p = none) : p ∉ G.al := fun z => h.alSome z hp
theorem HR.freshS (h : HR K G S w H) {p : Addr} (hp : H p = none) : S p = none := h.same.free hp
theorem HR.freshSt (h : HR K G S w H) {p : Addr} (hp : H p = none) {a c : Addr} (e : G.st = some (a, c)) : p ≠ a ∧ p ≠ c := by
  obtain ⟨_, _, _, _, _, _, cells, turn, h1, h2, _⟩ := h.st.2 a c e
  exact ⟨fun z => (by rw [← z, hp] at h1; cases h1), fun z => (by rw [← z, hp] at h2; cases h2)⟩
theorem HR.freshFr (h : HR K G S w H) {p : Addr} (hp : H p = none) : ∀ q ∈ G.fr, q.1 ≠ p := fun q hq z => by
  have e := (h.fr q hq).2.2
  rw [z, hp] at e
  cases e
theorem CellOk.mono {a : Addr} {c : Cell} {H H' : Hp} (x : Ext G S G' S') (h : CellOk K G S H a c) (e : H' a = H a) (n : S' a = none ∨ c = .dead) : CellOk K G' S' H' a c := by
  cases c with
  | dead =>
    show H' a ≠ none
    rw [e]
    exact h
  | exc C => exact ⟨n.elim id (fun z => nomatch z), by rw [e]; exact h.2⟩
  | exf C fs =>
    obtain ⟨_, dx, gs, h1, h2, r⟩ := h
    exact ⟨n.elim id (fun z => nomatch z), dx, gs, by rw [e]; exact h1, x.same _ _ h2, Paired.mapP r fun p q z => ⟨z.1, z.2.mono x⟩⟩
  | tbl P q =>
    obtain ⟨e0, _, ps, e1, e2, e3⟩ := h
    refine ⟨e0, n.elim id (fun z => nomatch z), ps, by rw [e]; exact e1, e2, fun pos cv hc => ?_⟩
    obtain ⟨c, r1, r2⟩ := e3 pos cv hc
    exact ⟨c, r1, x.same _ _ r2⟩
  | lk o ks kvs =>
    obtain ⟨_, e1, r⟩ := h
    exact ⟨n.elim id (fun z => nomatch z), by rw [e]; exact e1, Paired.mapP r fun p q z => ⟨z.1, z.2.mono x⟩⟩
  | lst ds =>
    obtain ⟨_, xs, e1, r⟩ := h
    exact ⟨n.elim id (fun z => nomatch z), xs, by rw [e]; exact e1, r.mono x⟩
  | dk ds =>
    obtain ⟨_, xs, e1, r⟩ := h
    exact ⟨n.elim id (fun z => nomatch z), xs, by rw [e]; exact e1, Paired.mapP r fun p q z => ⟨z.1, z.2.mono x⟩⟩
  | ins C ds =>
    obtain ⟨_, dx, xs, e1, r⟩ := h
    exact ⟨n.elim id (fun z => nomatch z), dx, xs, by rw [e]; exact e1, Paired.mapP r fun p q z => ⟨z.1, z.2.mono x⟩⟩
theorem CellOk.sNone {a : Addr} {c : Cell} {H : Hp} (h : CellOk K G S H a c) : S a = none ∨ c = .dead := by
  cases c with
  | dead => exact .inr rfl
  | exc C => exact .inl h.1
  | exf C fs => exact .inl h.1
  | tbl P q => exact .inl h.2.1
  | lk o ks kvs => exact .inl h.1
  | lst ds => exact .inl h.1
  | dk ds => exact .inl h.1
  | ins C ds => exact .inl h.1

theorem HR.newS (h : HR K G S w H) {p : Addr} (hp : H p = none) (o : HO) : HR K G (upd S p o) w (upd H p o) ∧ Ext G S G (upd S p o) := by
  have sp := h.freshS hp
  have x : Ext G S G (upd S p o) := ⟨⟨[], by simp⟩, fun _ z => z, fun _ z => z, fun b u e => by rw [upd_ne (ne_of_none e sp)]; exact e⟩
  refine ⟨⟨fun b u e => ?_, h.len, h.nod, fun i a c e1 e2 => ?_, ⟨h.st.1, fun a c e => ?_⟩, fun q hq => ?_⟩, x⟩
  · by_cases hb : b = p
    · subst hb
      rw [upd_same] at e ⊢
      exact e
    · rw [upd_ne hb] at e ⊢
      exact h.same _ _ e
  · have ne : a ≠ p := fun z => h.freshAl hp (z ▸ List.mem_of_getElem? e1)
    have q := h.cell i a c e1 e2
    exact q.mono x (upd_ne ne) (by rw [upd_ne ne]; exact q.sNone)
  · obtain ⟨n1, n2⟩ := h.freshSt hp e
    obtain ⟨z1, z2, z3, z4, z5, z6, cells, turn, z7, z8, z9⟩ := h.st.2 a c e
    exact ⟨by rw [upd_ne n1.symm]; exact z1, by rw [upd_ne n2.symm]; exact z2, z3, z4, z5, z6, cells, turn, by rw [upd_ne n1.symm]; exact z7, by rw [upd_ne n2.symm]; exact z8, z9⟩
  · obtain ⟨z1, z2, z3⟩ := h.fr q hq
    have ne := h.freshFr hp q hq
    exact ⟨by rw [upd_ne ne]; exact z1, z2, by rw [upd_ne ne]; exact z3⟩

theorem HR.newC (h : HR K G S w H) {p : Addr} (hp : H p = none) (o : HO) (c : Cell) (hc : CellOk K ⟨G.al ++ [p], G.st, G.fr⟩ S (upd H p o) p c) :
    HR K ⟨G.al ++ [p], G.st, G.fr⟩ S ⟨w.M ++ [c], w.n⟩ (upd H p o) ∧ Ext G S ⟨G.al ++ [p], G.st, G.fr⟩ S := by
  have sp := h.freshS hp
  have x : Ext G S ⟨G.al ++ [p], G.st, G.fr⟩ S := ⟨⟨[p], rfl⟩, fun _ z => z, fun _ z => z, Same.refl S⟩
  refine ⟨⟨fun b u e => ?_, by simp [h.len], ?_, fun i a c' e1 e2 => ?_, ⟨h.st.1, fun a c' e => ?_⟩, fun q hq => ?_⟩, x⟩
  · rw [upd_ne (ne_of_none e sp)]
    exact h.same _ _ e
  · show (G.al ++ [p]).Nodup
    rw [List.nodup_append]
    refine ⟨h.nod, by simp, fun a ha b hb z => ?_⟩
    rw [List.mem_singleton] at hb
    exact h.freshAl hp (by rw [← hb, ← z]; exact ha)
  · have e1 : (G.al ++ [p])[i]? = some a := e1
    have e2 : (w.M ++ [c])[i]? = some c' := e2
    by_cases hi : i < G.al.length
    · rw [List.getElem?_append_left hi] at e1
      rw [List.getElem?_append_left (by rw [← h.len]; exact hi)] at e2
      have ne : a ≠ p := fun z => h.freshAl hp (z ▸ List.mem_of_getElem? e1)
      have q := h.cell i a c' e1 e2
      exact q.mono x (upd_ne ne) q.sNone
    · have hi2 : G.al.length ≤ i := Nat.le_of_not_lt hi
      rw [List.getElem?_append_right hi2] at e1
      rw [List.getElem?_append_right (by rw [← h.len]; exact hi2), ← h.len] at e2
      have l := (List.getElem?_eq_some_iff.mp e1).1
      have l0 : i - G.al.length = 0 := by
        rw [List.length_singleton] at l
        omega
      rw [l0] at e1 e2
      have e1' : p = a := by simpa using e1
      have e2' : c = c' := by simpa using e2
      subst e1'
      subst e2'
      exact hc
  · obtain ⟨n1, n2⟩ := h.freshSt hp e
    obtain ⟨z1, z2, z3, z4, z5, z6, cells, turn, z7, z8, z9⟩ := h.st.2 a c' e
    refine ⟨z1, z2, z3, fun hm => ?_, fun hm => ?_, z6, cells, turn, by rw [upd_ne n1.symm]; exact z7, by rw [upd_ne n2.symm]; exact z8, z9⟩
    · rcases List.mem_append.mp hm with hm | hm
      · exact z4 hm
      · exact n1 (List.mem_singleton.mp hm).symm
    · rcases List.mem_append.mp hm with hm | hm
      · exact z5 hm
      · exact n2 (List.mem_singleton.mp hm).symm
  · obtain ⟨z1, z2, z3⟩ := h.fr q hq
    have ne := h.freshFr hp q hq
    refine ⟨z1, fun hm => ?_, by rw [upd_ne ne]; exact z3⟩
    rcases List.mem_append.mp hm with hm | hm
    · exact z2 hm
    · exact ne (List.mem_singleton.mp hm)

theorem HR.setC (h : HR K G S w H) {i : Nat} {a : Addr} {c0 c : Cell} {o : HO} (e1 : G.al[i]? = some a) (e2 : w.M[i]? = some c0) (hs : S a = none) (hc : CellOk K G S (upd H a o) a c) : HR K G S ⟨w.M.set i c, w.n⟩ (upd H a o) := by
  have il : i < w.M.length := (List.getElem?_eq_some_iff.mp e2).1
  refine ⟨fun b u e => ?_, by simp [h.len], h.nod, fun j b c' f1 f2 => ?_, ⟨h.st.1, fun b c' e => ?_⟩, fun q hq => ?_⟩
  · rw [upd_ne (ne_of_none e hs)]
    exact h.same _ _ e
  · have f2 : (w.M.set i c)[j]? = some c' := f2
    by_cases hj : j = i
    · subst hj
      rw [List.getElem?_set_self il] at f2
      cases f2
      rw [e1] at f1
      cases f1
      exact hc
    · rw [List.getElem?_set_ne (Ne.symm hj)] at f2
      have ne : b ≠ a := fun z => by
        subst z
        exact hj ((List.getElem?_inj (List.getElem?_eq_some_iff.mp f1).1 h.nod).mp (f1.trans e1.symm))
      have q := h.cell j b c' f1 f2
      exact q.mono (Ext.refl _ _) (upd_ne ne) q.sNone
  · obtain ⟨z1, z2, z3, z4, z5, z6, cells, turn, z7, z8, z9⟩ := h.st.2 b c' e
    have n1 : b ≠ a := fun z => z4 (z ▸ List.mem_of_getElem? e1)
    have n2 : c' ≠ a := fun z => z5 (z ▸ List.mem_of_getElem? e1)
    exact ⟨z1, z2, z3, z4, z5, z6, cells, turn, by rw [upd_ne n1]; exact z7, by rw [upd_ne n2]; exact z8, z9⟩
  · obtain ⟨z1, z2, z3⟩ := h.fr q hq
    have ne : q.1 ≠ a := fun z => z2 (z ▸ List.mem_of_getElem? e1)
    exact ⟨z1, z2, by rw [upd_ne ne]; exact z3⟩

theorem HR.freeze (h : HR K G S w H) {i : Nat} {a : Addr} {ds : List D} (e1 : G.al[i]? = some a) (e2 : w.M[i]? = some (.lst ds)) :
    ∃ S', HR K G S' ⟨w.M.set i .dead, w.n⟩ H ∧ Ext G S G S' ∧ Rep K G S' (.ref a) (.lst ds) := by
  obtain ⟨sa, xs, ha, r⟩ := h.cell i a _ e1 e2
  have il : i < w.M.length := (List.getElem?_eq_some_iff.mp e2).1
  have x : Ext G S G (upd S a (.lst xs)) := ⟨⟨[], by simp⟩, fun _ z => z, fun _ z => z, fun b u e => by rw [upd_ne (ne_of_none e sa)]; exact e⟩
  refine ⟨upd S a (.lst xs), ⟨fun b u e => ?_, by simp [h.len], h.nod, fun j b c' f1 f2 => ?_, ⟨h.st.1, fun b c' e => ?_⟩, fun q hq => ?_⟩, x, .lst upd_same (r.mono x)⟩
  · by_cases hb : b = a
    · subst hb
      rw [upd_same] at e
      cases e
      exact ha
    · rw [upd_ne hb] at e
      exact h.same _ _ e
  · have f2 : (w.M.set i .dead)[j]? = some c' := f2
    by_cases hj : j = i
    · subst hj
      rw [List.getElem?_set_self il] at f2
      cases f2
      rw [e1] at f1
      cases f1
      show H _ ≠ none
      rw [ha]
      exact fun z => nomatch z
    · rw [List.getElem?_set_ne (Ne.symm hj)] at f2
      have ne : b ≠ a := fun z => by
        subst z
        exact hj ((List.getElem?_inj (List.getElem?_eq_some_iff.mp f1).1 h.nod).mp (f1.trans e1.symm))
      have q := h.cell j b c' f1 f2
      exact q.mono x rfl (by rw [upd_ne ne]; exact q.sNone)
  · obtain ⟨z1, z2, z3, z4, z5, z6, z7⟩ := h.st.2 b c' e
    have n1 : b ≠ a := fun z => z4 (z ▸ List.mem_of_getElem? e1)
    have n2 : c' ≠ a := fun z => z5 (z ▸ List.mem_of_getElem? e1)
    exact ⟨by rw [upd_ne n1]; exact z1, by rw [upd_ne n2]; exact z2, z3, z4, z5, z6, z7⟩
  · obtain ⟨z1, z2, z3⟩ := h.fr q hq
    have ne : q.1 ≠ a := fun z => z2 (z ▸ List.mem_of_getElem? e1)
    exact ⟨by rw [upd_ne ne]; exact z1, z2, z3⟩

theorem HR.push (h : HR K G S w H) {p : Addr} {o : HO} (hp : H p = none) : HR K ⟨G.al, G.st, (p, o) :: G.fr⟩ S w (upd H p o) ∧ Ext G S ⟨G.al, G.st, (p, o) :: G.fr⟩ S := by
  have sp := h.freshS hp
  have x : Ext G S ⟨G.al, G.st, (p, o) :: G.fr⟩ S := ⟨⟨[], by simp⟩, fun _ z => z, fun _ z => List.mem_cons_of_mem _ z, Same.refl S⟩
  refine ⟨⟨fun b u e => ?_, h.len, h.nod, fun i a c e1 e2 => ?_, ⟨h.st.1, fun a c e => ?_⟩, fun q hq => ?_⟩, x⟩
  · rw [upd_ne (ne_of_none e sp)]
    exact h.same _ _ e
  · have ne : a ≠ p := fun z => h.freshAl hp (z ▸ List.mem_of_getElem? e1)
    have q := h.cell i a c e1 e2
    exact q.mono x (upd_ne ne) q.sNone
  · obtain ⟨n1, n2⟩ := h.freshSt hp e
    obtain ⟨z1, z2, z3, z4, z5, z6, cells, turn, z7, z8, z9⟩ := h.st.2 a c e
    refine ⟨z1, z2, z3, z4, z5, fun q hq => ?_, cells, turn, by rw [upd_ne n1.symm]; exact z7, by rw [upd_ne n2.symm]; exact z8, z9⟩
    rcases List.mem_cons.mp hq with rfl | hq
    · exact ⟨n1, n2⟩
    · exact z6 q hq
  · rcases List.mem_cons.mp hq with rfl | hq
    · exact ⟨sp, h.freshAl hp, upd_same⟩
    · obtain ⟨z1, z2, z3⟩ := h.fr q hq
      have ne := h.freshFr hp q hq
      exact ⟨z1, z2, by rw [upd_ne ne]; exact z3⟩
theorem HR.poke (h : HR K G S w H) {p : Addr} {o o' : HO} {fr : List (Addr × HO)} (hp : (p, o) ∈ G.fr) (hf : ∀ q ∈ fr, q ∈ G.fr ∧ q.1 ≠ p) : HR K ⟨G.al, G.st, (p, o') :: fr⟩ S w (upd H p o') := by
  obtain ⟨y1, y2, y3⟩ := h.fr _ hp
  refine ⟨fun b u e => ?_, h.len, h.nod, fun i a c e1 e2 => ?_, ⟨h.st.1, fun a c e => ?_⟩, fun q hq => ?_⟩
  · rw [upd_ne (ne_of_none e y1)]
    exact h.same _ _ e
  · have ne : a ≠ p := fun z => y2 (z ▸ List.mem_of_getElem? e1)
    have q := h.cell i a c e1 e2
    have x : Ext G S ⟨G.al, G.st, G.fr⟩ S := Ext.refl _ _
    have x2 : Ext G S G S := Ext.refl _ _
    have q2 := q.mono x2 (upd_ne (o := o') ne) q.sNone
    cases c with
    | dead => exact q2
    | exc C => exact q2
    | exf C fs =>
      obtain ⟨n0, dx, gs, e3, e4, r⟩ := q2
      exact ⟨n0, dx, gs, e3, e4, Paired.mapP r fun p q z => ⟨z.1, Rep.refr z.2⟩⟩
    | tbl P q => exact q2
    | lk o ks kvs =>
      obtain ⟨n0, e3, r⟩ := q2
      exact ⟨n0, e3, Paired.mapP r fun p q z => ⟨z.1, Rep.refr z.2⟩⟩
    | lst ds =>
      obtain ⟨n0, xs, e3, r⟩ := q2
      exact ⟨n0, xs, e3, RepAll.refr r⟩
    | dk ds =>
      obtain ⟨n0, xs, e3, r⟩ := q2
      exact ⟨n0, xs, e3, Paired.mapP r fun p q z => ⟨z.1, Rep.refr z.2⟩⟩
    | ins C ds =>
      obtain ⟨n0, dx, xs, e3, r⟩ := q2
      exact ⟨n0, dx, xs, e3, Paired.mapP r fun p q z => ⟨z.1, Rep.refr z.2⟩⟩
  · obtain ⟨z1, z2, z3, z4, z5, z6, cells, turn, z7, z8, z9⟩ := h.st.2 a c e
    obtain ⟨n1, n2⟩ := z6 _ hp
    refine ⟨z1, z2, z3, z4, z5, fun q hq => ?_, cells, turn, by rw [upd_ne (Ne.symm n1)]; exact z7, by rw [upd_ne (Ne.symm n2)]; exact z8, z9⟩
    rcases List.mem_cons.mp hq with rfl | hq
    · exact ⟨n1, n2⟩
    · exact z6 q (hf q hq).1
  · rcases List.mem_cons.mp hq with rfl | hq
    · exact ⟨y1, y2, upd_same⟩
    · obtain ⟨z1, z2, z3⟩ := h.fr q (hf q hq).1
      exact ⟨z1, z2, by rw [upd_ne (hf q hq).2]; exact z3⟩
end
end DL

namespace DL
open PySem PySem.Spec PyProof.Rows L2

inductive Exn where
  | own (C : Addr)
  | flds (C : Addr) (fs : List (Str × D))
def ExRep (K : PySem.W.Frag) (G : Gh) (S H : Hp) (cls : Value) (d : Option Addr) : Exn → Prop
  | .own C => cls = .ref C ∧ d = none
  | .flds C fs => cls = .ref C ∧ ∃ a gs, d = some a ∧ S a = some (.xd gs) ∧ FsRep K G S gs fs
abbrev KD := D → Wd → Prop
abbrev KX := Exn → Wd → Prop
abbrev KB := Bool → Wd → Prop
abbrev KA := List D → Wd → Prop
abbrev Rho := List (Option D)
abbrev GE := Rho → Wd → KX → KD → Prop
abbrev GT := Rho → Wd → KX → KB → Prop
abbrev GA := Rho → Wd → KX → KA → Prop
structure DEnds where
  nx : Rho → Wd → Prop
  rt : KD
  ex : KX
  bk : Rho → Wd → Prop := fun _ _ => False
  ct : Rho → Wd → Prop := fun _ _ => False
abbrev GS := DEnds → Rho → Wd → Prop

section
variable (K : PySem.W.Frag) (G : Gh) (S : Hp)
def SR (σ : L2.St) (ρ : Rho) : Prop := σ.length = ρ.length ∧ ∀ (i : Nat) (d : D), ρ[i]? = some (some d) → ∃ v, σ[i]? = some (some v) ∧ Rep K G S v d
def XL (kx : KX) (E : XK) : Prop := ∀ G' S' H' w' e cls d, Ext G S G' S' → HR K G' S' w' H' → ExRep K G' S' H' cls d e → kx e w' → E cls d H'
def KL (k : KD) (Q : VK) : Prop := ∀ G' S' H' w' d v, Ext G S G' S' → HR K G' S' w' H' → Rep K G' S' v d → k d w' → Q v H'
def BL (k : KB) (Q : Bool → Hp → Prop) : Prop := ∀ G' S' H' w' b, Ext G S G' S' → HR K G' S' w' H' → k b w' → Q b H'
def AL (k : KA) (Q : List V → Hp → Prop) : Prop := ∀ G' S' H' w' ds vs, Ext G S G' S' → HR K G' S' w' H' → RepAll K G' S' vs ds → k ds w' → Q vs H'
def NL (k : Rho → Wd → Prop) (Q : L2.St → Hp → Prop) : Prop := ∀ G' S' H' w' ρ' σ', Ext G S G' S' → HR K G' S' w' H' → SR K G' S' σ' ρ' → k ρ' w' → Q σ' H'
end
section
variable {K : PySem.W.Frag} {G G' : Gh} {S S' : Hp}
theorem SR.mono {σ : L2.St} {ρ : Rho} (x : Ext G S G' S') (h : SR K G S σ ρ) : SR K G' S' σ ρ := ⟨h.1, fun i d e => let ⟨v, h1, h2⟩ := h.2 i d e; ⟨v, h1, h2.mono x⟩⟩
theorem XL.mono {kx : KX} {E : XK} (x : Ext G S G' S') (h : XL K G S kx E) : XL K G' S' kx E := fun G1 S1 H1 w1 e c d x1 => h G1 S1 H1 w1 e c d (x.trans x1)
theorem KL.mono {k : KD} {Q : VK} (x : Ext G S G' S') (h : KL K G S k Q) : KL K G' S' k Q := fun G1 S1 H1 w1 d v x1 => h G1 S1 H1 w1 d v (x.trans x1)
theorem BL.mono {k : KB} {Q : Bool → Hp → Prop} (x : Ext G S G' S') (h : BL K G S k Q) : BL K G' S' k Q := fun G1 S1 H1 w1 d x1 => h G1 S1 H1 w1 d (x.trans x1)
theorem AL.mono {k : KA} {Q : List V → Hp → Prop} (x : Ext G S G' S') (h : AL K G S k Q) : AL K G' S' k Q := fun G1 S1 H1 w1 d v x1 => h G1 S1 H1 w1 d v (x.trans x1)
theorem NL.mono {k : Rho → Wd → Prop} {Q : L2.St → Hp → Prop} (x : Ext G S G' S') (h : NL K G S k Q) : NL K G' S' k Q := fun G1 S1 H1 w1 d v x1 => h G1 S1 H1 w1 d v (x.trans x1)
theorem SR.set {σ : L2.St} {ρ : Rho} {v : V} {d : D} (h : SR K G S σ ρ) (r : Rep K G S v d) (i : Nat) : SR K G S (σ.set i (some v)) (ρ.set i (some d)) := by
  refine ⟨by simp [h.1], fun j e hj => ?_⟩
  by_cases hi : j = i
  · subst hi
    have hl : j < ρ.length := by
      have := (List.getElem?_eq_some_iff.mp hj).1
      simpa using this
    rw [List.getElem?_set_self hl] at hj
    cases hj
    exact ⟨v, List.getElem?_set_self (by rw [h.1]; exact hl), r⟩
  · rw [List.getElem?_set_ne (Ne.symm hi)] at hj
    obtain ⟨u, h1, h2⟩ := h.2 j e hj
    exact ⟨u, by rw [List.getElem?_set_ne (Ne.symm hi)]; exact h1, h2⟩
end

def upE (K : PySem.W.Frag) (E : XK) (g : GE) : TE := fun σ H Q => ∃ G S ρ w kx k, HR K G S w H ∧ SR K G S σ ρ ∧ XL K G S kx E ∧ KL K G S k Q ∧ g ρ w kx k
def upT (K : PySem.W.Frag) (E : XK) (g : GT) : TT := fun σ H Q => ∃ G S ρ w kx k, HR K G S w H ∧ SR K G S σ ρ ∧ XL K G S kx E ∧ BL K G S k Q ∧ g ρ w kx k
def upA (K : PySem.W.Frag) (E : XK) (g : GA) : TA := fun σ H Q => ∃ G S ρ w kx k, HR K G S w H ∧ SR K G S σ ρ ∧ XL K G S kx E ∧ AL K G S k Q ∧ g ρ w kx k
structure EL (K : PySem.W.Frag) (G : Gh) (S : Hp) (E : XK) (F : DEnds) (D : Ends) : Prop where
  nx : NL K G S F.nx D.nx
  rt : KL K G S F.rt D.rt
  bk : NL K G S F.bk D.bk
  ct : NL K G S F.ct D.ct
  ex : XL K G S F.ex E
theorem EL.mono {K : PySem.W.Frag} {G G' : Gh} {S S' : Hp} {E : XK} {F : DEnds} {D : Ends} (x : Ext G S G' S') (h : EL K G S E F D) : EL K G' S' E F D := ⟨h.nx.mono x, h.rt.mono x, h.bk.mono x, h.ct.mono x, h.ex.mono x⟩
def upS (K : PySem.W.Frag) (E : XK) (g : GS) : TS := fun D σ H => ∃ G S ρ w F, HR K G S w H ∧ SR K G S σ ρ ∧ EL K G S E F D ∧ g F ρ w

def DE (X : Cx) (E : XK) (e : Expr) (g : GE) : Prop := PE X e (upE X.K E g)
def DT (X : Cx) (E : XK) (e : Expr) (g : GT) : Prop := PT X e (upT X.K E g)
def DW (X : Cx) (E : XK) (e : Expr) (g : GT) : Prop := PW X e (upT X.K E g)
def DA (X : Cx) (E : XK) (es : List Expr) (g : GA) : Prop := PA X es (upA X.K E g)
def DS (X : Cx) (E : XK) (st : Stmt) (g : GS) : Prop := PS X st (upS X.K E g)
def DSs (X : Cx) (E : XK) (st : List Stmt) (g : GS) : Prop := PSs X st (upS X.K E g)
section
variable {X : Cx}
theorem pe_imp {e : Expr} {t t' : TE} (h : PE X e t) (i : ∀ σ H Q, t' σ H Q → t σ H Q) : PE X e t' := ⟨fun pins s σ H Q I q => h.run pins s σ H Q I (i _ _ _ q)⟩
theorem pt_imp {e : Expr} {t t' : TT} (h : PT X e t) (i : ∀ σ H Q, t' σ H Q → t σ H Q) : PT X e t' := ⟨fun pins s σ H Q I q => h.run pins s σ H Q I (i _ _ _ q)⟩
theorem pw_imp {e : Expr} {t t' : TT} (h : PW X e t) (i : ∀ σ H Q, t' σ H Q → t σ H Q) : PW X e t' := ⟨fun wh pins s σ H Q I q => h.run wh pins s σ H Q I (i _ _ _ q)⟩
theorem pa_imp {e : List Expr} {t t' : TA} (h : PA X e t) (i : ∀ σ H Q, t' σ H Q → t σ H Q) : PA X e t' := ⟨fun pos pins s σ H Q I q => h.run pos pins s σ H Q I (i _ _ _ q)⟩
theorem ps_imp {e : Stmt} {t t' : TS} (h : PS X e t) (i : ∀ D σ H, t' D σ H → t D σ H) : PS X e t' := ⟨fun pins s σ H D I q => h.run pins s σ H D I (i _ _ _ q)⟩
theorem pss_imp {e : List Stmt} {t t' : TS} (h : PSs X e t) (i : ∀ D σ H, t' D σ H → t D σ H) : PSs X e t' := ⟨fun pins s σ H D I q => h.run pins s σ H D I (i _ _ _ q)⟩
end

def gVar (i : Nat) : GE := fun ρ w _ k => match ρ[i]? with
  | some (some d) => k d w
  | _ => False
def gC (d : D) : GE := fun _ w _ k => k d w
section
variable {X : Cx} {E : XK}
theorem de_var (i : Nat) {x : Str} {pos : Pos} (hN : X.N[i]? = some x := by rfl) (hv : Vis X.env.scope x := by first | exact Or.inl rfl | exact Or.inr (Or.inl rfl) | exact Or.inr (Or.inr rfl)) (hd : (x == ("__debug__" : Str)) = false := by decide)
    (hcd : (x == ("__classdict__" : Str)) = false := by decide) : DE X E (.Name x pos) (gVar i) := by
  refine pe_imp (pe_var hN hv hd hcd) ?_
  rintro σ H Q ⟨G, S, ρ, w, kx, k, hr, sr, xl, kl, h⟩
  unfold gVar at h
  split at h
  · rename_i d e
    obtain ⟨v, h1, h2⟩ := sr.2 i d e
    exact ⟨v, h1, kl _ _ _ _ _ _ (Ext.refl _ _) hr h2 h⟩
  · exact h.elim
theorem de_int {i : Int} {j pos} : DE X E (.Constant (.int i) j pos) (gC (.int i)) := pe_imp pe_int (by
  rintro σ H Q ⟨G, S, ρ, w, kx, k, hr, sr, xl, kl, h⟩
  exact kl _ _ _ _ _ _ (Ext.refl _ _) hr (.int i) h)
theorem de_bl {i : Bool} {j pos} : DE X E (.Constant (.bool i) j pos) (gC (.bl i)) := pe_imp pe_bl (by
  rintro σ H Q ⟨G, S, ρ, w, kx, k, hr, sr, xl, kl, h⟩
  exact kl _ _ _ _ _ _ (Ext.refl _ _) hr (.bl i) h)
theorem de_non {j pos} : DE X E (.Constant .none j pos) (gC .non) := pe_imp pe_non (by
  rintro σ H Q ⟨G, S, ρ, w, kx, k, hr, sr, xl, kl, h⟩
  exact kl _ _ _ _ _ _ (Ext.refl _ _) hr .non h)
theorem de_str {x : Str} {j pos} : DE X E (.Constant (.str x) j pos) (gC (.str x)) := pe_imp pe_str (by
  rintro σ H Q ⟨G, S, ρ, w, kx, k, hr, sr, xl, kl, h⟩
  exact kl _ _ _ _ _ _ (Ext.refl _ _) hr (.str x) h)
theorem de_gint {x : Str} {i : Int} {t : Tok} {pos : Pos} (hg : Gl X x) (hm : X.mg x = some (.int i t)) (hd : (x == ("__debug__" : Str)) = false := by decide) : DE X E (.Name x pos) (gC (.int i)) := pe_imp (pe_glob (v := .int i) hg hm ⟨_, rfl⟩ hd) (by
  rintro σ H Q ⟨G, S, ρ, w, kx, k, hr, sr, xl, kl, h⟩
  exact kl _ _ _ _ _ _ (Ext.refl _ _) hr (.int i) h)
theorem de_gstr {x : Str} {i : Str} {t : Tok} {pos : Pos} (hg : Gl X x) (hm : X.mg x = some (.str i t)) (hd : (x == ("__debug__" : Str)) = false := by decide) : DE X E (.Name x pos) (gC (.str i)) := pe_imp (pe_glob (v := .str i) hg hm ⟨_, rfl⟩ hd) (by
  rintro σ H Q ⟨G, S, ρ, w, kx, k, hr, sr, xl, kl, h⟩
  exact kl _ _ _ _ _ _ (Ext.refl _ _) hr (.str i) h)
theorem de_type {x : Str} {n : String} {pos : Pos} (hg : Gl X x) (hm : X.mg x = none) (hv : bootBuiltins x = some (.type n)) (hn : x ≠ "__name__" := by decide) (hd : (x == ("__debug__" : Str)) = false := by decide) : DE X E (.Name x pos) (gC (.ob (.ty n))) := pe_imp (pe_bltn (v := .ty n) hg hm hv rfl hn hd) (by
  rintro σ H Q ⟨G, S, ρ, w, kx, k, hr, sr, xl, kl, h⟩
  exact kl _ _ _ _ _ _ (Ext.refl _ _) hr (.ob rfl) h)
end

abbrev F2 := D → D → Wd → KD → Prop
def gBin (f : F2) (ga gb : GE) : GE := fun ρ w kx k => ga ρ w kx fun x w1 => gb ρ w1 kx fun y w2 => f x y w2 k
def BinOk (K : PySem.W.Frag) (r : R2) (f : F2) : Prop := ∀ {G S H w x y d e k Q}, HR K G S w H → Rep K G S x d → Rep K G S y e → KL K G S k Q → f d e w k → r x y H Q
section
variable {X : Cx} {E : XK} {a b c : Expr} {ga gb gc : GE} {pos : Pos}
theorem bin_up {K : PySem.W.Frag} {r : R2} {f : F2} (hf : BinOk K r f) : ∀ σ H Q, upE K E (gBin f ga gb) σ H Q → tOp r (upE K E ga) (upE K E gb) σ H Q := by
  rintro σ H Q ⟨G, S, ρ, w, kx, k, hr, sr, xl, kl, h⟩
  exact ⟨G, S, ρ, w, kx, _, hr, sr, xl, fun G1 S1 H1 w1 d x x1 hr1 rp h1 => ⟨G1, S1, ρ, w1, kx, _, hr1, sr.mono x1, xl.mono x1, fun G2 S2 H2 w2 e y x2 hr2 rp2 h2 => hf hr2 (rp.mono x2) rp2 (kl.mono (x1.trans x2)) h2, h1⟩, h⟩
theorem de_bin {op : Operator} {r : R2} {f : F2} (ho : OpR X (binaryOp op) r) (hf : BinOk X.K r f) (ha : DE X E a ga) (hb : DE X E b gb) : DE X E (.BinOp a op b pos) (gBin f ga gb) :=
  pe_imp (pe_op ho ha hb) (bin_up hf)
theorem de_cmp {op : CmpOp} {r : R2} {f : F2} (ho : OpR X (compareOp op) r) (hf : BinOk X.K r f) (ha : DE X E a ga) (hb : DE X E b gb) (hm : behindInMarks op b = false) : DE X E (.Compare a [op] [b] pos) (gBin f ga gb) :=
  pe_imp (pe_cmpR ho ha hb hm) (bin_up hf)
end

def addD : F2 := fun x y w k => match x, y with
  | .int i, .int j => k (.int (i + j)) w
  | .str i, .str j => i.length + j.length ≤ sizeLine ∧ k (.str (i ++ j)) w
  | .lst i, .lst j => i.length + j.length ≤ sizeLine ∧ k (.lst (i ++ j)) w
  | .tup i, .tup j => i ≠ [] ∧ i.length + j.length ≤ sizeLine ∧ k (.tup (i ++ j)) w
  | _, _ => False
def subD : F2 := fun x y w k => match x, y with
  | .int i, .int j => k (.int (i - j)) w
  | _, _ => False
def mulD : F2 := fun x y w k => match x, y with
  | .int i, .int j => CMulX i j ∧ k (.int (i * j)) w
  | .lst i, .int j => -(2 ^ 63) ≤ j ∧ j < 2 ^ 63 ∧ i.length * j.toNat ≤ sizeLine ∧ k (.lst (List.replicate j.toNat i).flatten) w
  | _, _ => False
def fdivD : F2 := fun x y w k => match x, y with
  | .int i, .int j => (j ≠ 0 ∧ j.natAbs.log2 < 9000) ∧ k (.int (i.fdiv j)) w
  | _, _ => False
def modD : F2 := fun x y w k => match x, y with
  | .int i, .int j => j ≠ 0 ∧ k (.int (i.fmod j)) w
  | _, _ => False
def powD : F2 := fun x y w k => match x, y with
  | .int i, .int j => CPow i j ∧ k (.int (i ^ j.toNat)) w
  | _, _ => False
def ltD : F2 := fun x y w k => match x, y with
  | .int i, .int j => k (.bl (decide (i < j))) w
  | .str i, .str j => k (.bl (decide (i.cps.toList < j.cps.toList))) w
  | _, _ => False
def leD : F2 := fun x y w k => match x, y with
  | .int i, .int j => k (.bl (decide (i ≤ j))) w
  | _, _ => False
def gtD : F2 := fun x y w k => match x, y with
  | .int i, .int j => k (.bl (decide (j < i))) w
  | _, _ => False
def geD : F2 := fun x y w k => match x, y with
  | .int i, .int j => k (.bl (decide (j ≤ i))) w
  | _, _ => False
mutual
def toPD : D → Option PyData
  | .non => some .none
  | .bl b => some (.bool b)
  | .int i => some (.int i)
  | .str x => some (.str x)
  | .lst xs => (toPDs xs).map .list
  | .tup xs => (toPDs xs).map .tuple
  | .rf _ => none
  | .st => none
  | .ob _ => none
  | .scr _ => none
def toPDs : List D → Option (List PyData)
  | [] => some []
  | x :: xs => match toPD x, toPDs xs with
    | some p, some ps => some (p :: ps)
    | _, _ => none
end
def eqD0 : F2 := fun x y w k => match toPD x, toPD y with
  | some p, some q => SeqAt.shaped p = true ∧ SeqAt.shaped q = true ∧ k (.bl (PyData.eqv p q)) w
  | _, _ => False
def neD0 : F2 := fun x y w k => match toPD x, toPD y with
  | some p, some q => SeqAt.shaped p = true ∧ SeqAt.shaped q = true ∧ k (.bl (!PyData.eqv p q)) w
  | _, _ => False
def eqD : F2 := fun x y w k => match x, y with
  | .str s, .str t => k (.bl (decide (s = t))) w
  | x, y => eqD0 x y w k
def neD : F2 := fun x y w k => match x, y with
  | .str s, .str t => k (.bl (!decide (s = t))) w
  | x, y => neD0 x y w k
def isNonD : D → Bool
  | .non => true
  | _ => false
def isD : F2 := fun x y w k => match y with
  | .non => k (.bl (isNonD x)) w
  | _ => False
def isnotD : F2 := fun x y w k => match y with
  | .non => k (.bl (!isNonD x)) w
  | _ => False
section
variable {K : PySem.W.Frag} {G : Gh} {S H : Hp}
mutual
theorem rep_dp (h : Same S H) : ∀ {v : V} {d : D} {p : PyData}, Rep K G S v d → toPD d = some p → Dp K H v p
  | _, _, _, .non, e => by cases e; exact .non
  | _, _, _, .bl b, e => by cases e; exact .bl b
  | _, _, _, .int i, e => by cases e; exact .int i
  | _, _, _, .str i, e => by cases e; exact .str i
  | _, _, _, .lst h1 r, e => by
    rw [toPD] at e
    obtain ⟨ps, e1, rfl⟩ := Option.map_eq_some_iff.mp e
    exact .lst (.inl (.inl (h _ _ h1))) (reps_dp h r e1)
  | _, _, _, .tup h1 r, e => by
    rw [toPD] at e
    obtain ⟨ps, e1, rfl⟩ := Option.map_eq_some_iff.mp e
    exact .tup (sqT_up h h1) (reps_dp h r e1)
  | _, _, _, .rf _, e => by cases e
  | _, _, _, .st _, e => by cases e
  | _, _, _, .ob _, e => by cases e
  | _, _, _, .scr _, e => by cases e
theorem reps_dp (h : Same S H) : ∀ {vs : List V} {ds : List D} {ps : List PyData}, RepAll K G S vs ds → toPDs ds = some ps → DpAll K H vs ps
  | _, _, _, .nil, e => by cases e; exact .nil
  | _, _, _, .cons h1 r, e => by
    rw [toPDs] at e
    split at e
    · rename_i p ps e1 e2
      cases e
      exact .cons (rep_dp h h1 e1) (reps_dp h r e2)
    · cases e
end
end
theorem KL.here {K : PySem.W.Frag} {G : Gh} {S H : Hp} {w : Wd} {k : KD} {Q : VK} {v : V} {d : D} (kl : KL K G S k Q) (hr : HR K G S w H) (r : Rep K G S v d) (h : k d w) : Q v H := kl _ _ _ _ _ _ (Ext.refl _ _) hr r h
theorem KL.newL {K : PySem.W.Frag} {G : Gh} {S H : Hp} {w : Wd} {k : KD} {Q : VK} {xs : List V} {ds : List D} (kl : KL K G S k Q) (hr : HR K G S w H) (r : RepAll K G S xs ds) (h : k (.lst ds) w) : ∀ p, H p = none → Q (.ref p) (upd H p (.lst xs)) := fun p hp => by
  obtain ⟨h1, x⟩ := hr.newS hp (.lst xs)
  exact kl _ _ _ _ _ _ x h1 (.lst upd_same (r.mono x)) h
theorem KL.newT {K : PySem.W.Frag} {G : Gh} {S H : Hp} {w : Wd} {k : KD} {Q : VK} {xs : List V} {ds : List D} (kl : KL K G S k Q) (hr : HR K G S w H) (r : RepAll K G S xs ds) (h : k (.tup ds) w) : ∀ p, H p = none → Q (.ref p) (upd H p (.tup xs)) := fun p hp => by
  obtain ⟨h1, x⟩ := hr.newS hp (.tup xs)
  exact kl _ _ _ _ _ _ x h1 (.tup (.inl (.inl upd_same)) (r.mono x)) h

def rAddD (K : PySem.W.Frag) : R2 := fun x y H Q => (rI0 (fun i j => .int (i + j))) x y H Q ∨ (fun x y H Q => ∃ i j, x = .str i ∧ y = .str j ∧ i.length + j.length ≤ sizeLine ∧ Q (.str (i ++ j)) H : R2) x y H Q ∨ rCat x y H Q ∨ rCatT K x y H Q
theorem op_addD {X : Cx} : OpR X (binaryOp .Add) (rAddD X.K) := op_add.or (op_add_str.or (op_cat.or op_catT))
theorem ok_addD {K : PySem.W.Frag} : BinOk K (rAddD K) addD := by
  intro G S H w x y d e k Q hr rx ry kl h
  unfold addD at h
  split at h
  · cases rx; cases ry
    exact .inl ⟨_, _, rfl, rfl, kl.here hr (.int _) h⟩
  · cases rx; cases ry
    exact .inr (.inl ⟨_, _, rfl, rfl, h.1, kl.here hr (.str _) h.2⟩)
  · cases rx with
    | lst h1 r1 => cases ry with
      | lst h2 r2 => exact .inr (.inr (.inl ⟨_, _, _, _, rfl, rfl, hr.same _ _ h1, hr.same _ _ h2, by rw [r1.length, r2.length]; exact h.1, kl.newL hr (r1.append r2) h.2⟩))
  · cases rx with
    | tup h1 r1 => cases ry with
      | tup h2 r2 =>
        obtain ⟨hne, hz, hk⟩ := h
        have l1 := r1.length
        have l2 := r2.length
        refine .inr (.inr (.inr ⟨_, _, _, _, rfl, rfl, sqT_up hr.same h1, sqT_up hr.same h2, fun z => hne ?_, by rw [l1, l2]; exact hz, fun z => ?_, fun _ => kl.newT hr (r1.append r2) hk⟩))
        · rw [z] at l1
          exact List.length_eq_zero_iff.mp l1.symm
        · rw [z] at l2
          have e := List.length_eq_zero_iff.mp l2.symm
          subst e
          rw [List.append_nil] at hk
          exact kl.here hr (.tup h1 r1) hk
  · exact h.elim
def rI2 (C : Int → Int → Prop) (g : Int → Int → V) : R2 := rI C g
theorem ok_subD {K : PySem.W.Frag} : BinOk K (rI0 fun i j => .int (i - j)) subD := by
  intro G S H w x y d e k Q hr rx ry kl h
  unfold subD at h
  split at h
  · cases rx; cases ry
    exact ⟨_, _, rfl, rfl, kl.here hr (.int _) h⟩
  · exact h.elim
def rMulD : R2 := fun x y H Q => (rI CMulX fun i j => .int (i * j)) x y H Q ∨ rRep x y H Q
theorem op_mulD {X : Cx} : OpR X (binaryOp .Mult) rMulD := op_mulX.or op_rep
theorem RepAll.rep {K : PySem.W.Frag} {G : Gh} {S : Hp} {xs : List V} {ds : List D} (h : RepAll K G S xs ds) : ∀ k : Nat, RepAll K G S (List.replicate k xs).flatten (List.replicate k ds).flatten
  | 0 => .nil
  | k + 1 => by
    rw [List.replicate_succ, List.replicate_succ, List.flatten_cons, List.flatten_cons]
    exact h.append (RepAll.rep h k)
theorem ok_mulD {K : PySem.W.Frag} : BinOk K rMulD mulD := by
  intro G S H w x y d e k Q hr rx ry kl h
  unfold mulD at h
  split at h
  · cases rx; cases ry
    exact .inl ⟨_, _, rfl, rfl, h.1, kl.here hr (.int _) h.2⟩
  · cases ry
    cases rx with
    | lst h1 r1 =>
      obtain ⟨z1, z2, z3, z4⟩ := h
      exact .inr ⟨_, _, _, rfl, rfl, hr.same _ _ h1, z1, z2, by rw [r1.length]; exact z3, kl.newL hr (r1.rep _) z4⟩
  · exact h.elim
theorem op_fdivX {X : Cx} : OpR X (binaryOp .FloorDiv) (rI (fun _ j => j ≠ 0 ∧ j.natAbs.log2 < 9000) fun i j => .int (i.fdiv j)) := opI fun i j _ _ _ _ _ hc q =>
  floordiv_int hc.1 q (.inl (PyProof.noPylong_of_log2 hc.2))
theorem ok_fdivD {K : PySem.W.Frag} : BinOk K (rI (fun _ j => j ≠ 0 ∧ j.natAbs.log2 < 9000) fun i j => .int (i.fdiv j)) fdivD := by
  intro G S H w x y d e k Q hr rx ry kl h
  unfold fdivD at h
  split at h
  · cases rx; cases ry
    exact ⟨_, _, rfl, rfl, h.1, kl.here hr (.int _) h.2⟩
  · exact h.elim
theorem ok_modD {K : PySem.W.Frag} : BinOk K (rI (fun _ j => j ≠ 0) fun i j => .int (i.fmod j)) modD := by
  intro G S H w x y d e k Q hr rx ry kl h
  unfold modD at h
  split at h
  · cases rx; cases ry
    exact ⟨_, _, rfl, rfl, h.1, kl.here hr (.int _) h.2⟩
  · exact h.elim
theorem ok_powD {K : PySem.W.Frag} : BinOk K (rI CPow fun i j => .int (i ^ j.toNat)) powD := by
  intro G S H w x y d e k Q hr rx ry kl h
  unfold powD at h
  split at h
  · cases rx; cases ry
    exact ⟨_, _, rfl, rfl, h.1, kl.here hr (.int _) h.2⟩
  · exact h.elim
def rLtD : R2 := fun x y H Q => (rI0 fun i j => .bl (decide (i < j))) x y H Q ∨ (fun x y H Q => ∃ i j, x = .str i ∧ y = .str j ∧ Q (.bl (decide (i.cps.toList < j.cps.toList))) H : R2) x y H Q
theorem op_ltD {X : Cx} : OpR X (compareOp .Lt) rLtD := op_lt.or op_lt_str
theorem ok_ltD {K : PySem.W.Frag} : BinOk K rLtD ltD := by
  intro G S H w x y d e k Q hr rx ry kl h
  unfold ltD at h
  split at h
  · cases rx; cases ry
    exact .inl ⟨_, _, rfl, rfl, kl.here hr (.bl _) h⟩
  · cases rx; cases ry
    exact .inr ⟨_, _, rfl, rfl, kl.here hr (.bl _) h⟩
  · exact h.elim
theorem ok_leD {K : PySem.W.Frag} : BinOk K (rI0 fun i j => .bl (decide (i ≤ j))) leD := by
  intro G S H w x y d e k Q hr rx ry kl h
  unfold leD at h
  split at h
  · cases rx; cases ry
    exact ⟨_, _, rfl, rfl, kl.here hr (.bl _) h⟩
  · exact h.elim
theorem ok_gtD {K : PySem.W.Frag} : BinOk K (rI0 fun i j => .bl (decide (j < i))) gtD := by
  intro G S H w x y d e k Q hr rx ry kl h
  unfold gtD at h
  split at h
  · cases rx; cases ry
    exact ⟨_, _, rfl, rfl, kl.here hr (.bl _) h⟩
  · exact h.elim
theorem ok_eqD0 {K : PySem.W.Frag} : BinOk K (rEqD K) eqD0 := by
  intro G S H w x y d e k Q hr rx ry kl h
  unfold eqD0 at h
  split at h
  · rename_i p q e1 e2
    exact ⟨p, q, rep_dp hr.same rx e1, rep_dp hr.same ry e2, h.1, h.2.1, kl.here hr (.bl _) h.2.2⟩
  · exact h.elim
theorem ok_neD0 {K : PySem.W.Frag} : BinOk K (rNeD K) neD0 := by
  intro G S H w x y d e k Q hr rx ry kl h
  unfold neD0 at h
  split at h
  · rename_i p q e1 e2
    exact ⟨p, q, rep_dp hr.same rx e1, rep_dp hr.same ry e2, h.1, h.2.1, kl.here hr (.bl _) h.2.2⟩
  · exact h.elim
def rEqS (K : PySem.W.Frag) : R2 := fun x y H Q => rEq x y H Q ∨ rEqD K x y H Q
def rNeS (K : PySem.W.Frag) : R2 := fun x y H Q => rNe x y H Q ∨ rNeD K x y H Q
theorem dec_strV {s t : Str} : decide (V.str s = V.str t) = decide (s = t) := by
  rw [Bool.eq_iff_iff]
  simp
theorem ok_eqD {K : PySem.W.Frag} : BinOk K (rEqS K) eqD := by
  intro G S H w x y d e k Q hr rx ry kl h
  unfold eqD at h
  split at h
  · cases rx; cases ry
    refine .inl ⟨rfl, ?_⟩
    rw [dec_strV]
    exact kl.here hr (.bl _) h
  · exact .inr (ok_eqD0 hr rx ry kl h)
theorem ok_neD {K : PySem.W.Frag} : BinOk K (rNeS K) neD := by
  intro G S H w x y d e k Q hr rx ry kl h
  unfold neD at h
  split at h
  · cases rx; cases ry
    refine .inl ⟨rfl, ?_⟩
    rw [dec_strV]
    exact kl.here hr (.bl _) h
  · exact .inr (ok_neD0 hr rx ry kl h)
theorem rep_non {K : PySem.W.Frag} {G : Gh} {S : Hp} {v : V} {d : D} (r : Rep K G S v d) : decide (v = .non) = isNonD d := by
  cases r
  case ob h => cases v <;> first | rfl | cases h
  all_goals rfl
theorem ok_isD {K : PySem.W.Frag} : BinOk K (fun x y H Q => y = .non ∧ Q (.bl (decide (x = .non))) H) isD := by
  intro G S H w x y d e k Q hr rx ry kl h
  unfold isD at h
  split at h
  · cases ry
    refine ⟨rfl, ?_⟩
    rw [rep_non rx]
    exact kl.here hr (.bl _) h
  · exact h.elim
theorem ok_isnotD {K : PySem.W.Frag} : BinOk K (fun x y H Q => y = .non ∧ Q (.bl (!decide (x = .non))) H) isnotD := by
  intro G S H w x y d e k Q hr rx ry kl h
  unfold isnotD at h
  split at h
  · cases ry
    refine ⟨rfl, ?_⟩
    rw [rep_non rx]
    exact kl.here hr (.bl _) h
  · exact h.elim

section
variable {X : Cx} {E : XK} {a b c : Expr} {ga gb gc : GE} {pos : Pos}
theorem de_add (ha : DE X E a ga) (hb : DE X E b gb) : DE X E (.BinOp a .Add b pos) (gBin addD ga gb) := de_bin op_addD ok_addD ha hb
theorem de_sub (ha : DE X E a ga) (hb : DE X E b gb) : DE X E (.BinOp a .Sub b pos) (gBin subD ga gb) := de_bin op_sub ok_subD ha hb
theorem de_mul (ha : DE X E a ga) (hb : DE X E b gb) : DE X E (.BinOp a .Mult b pos) (gBin mulD ga gb) := de_bin op_mulD ok_mulD ha hb
theorem de_fdiv (ha : DE X E a ga) (hb : DE X E b gb) : DE X E (.BinOp a .FloorDiv b pos) (gBin fdivD ga gb) := de_bin op_fdivX ok_fdivD ha hb
theorem de_mod (ha : DE X E a ga) (hb : DE X E b gb) : DE X E (.BinOp a .Mod b pos) (gBin modD ga gb) := de_bin op_modN ok_modD ha hb
theorem de_pow (ha : DE X E a ga) (hb : DE X E b gb) : DE X E (.BinOp a .Pow b pos) (gBin powD ga gb) := de_bin op_pow ok_powD ha hb
theorem de_lt (ha : DE X E a ga) (hb : DE X E b gb) : DE X E (.Compare a [.Lt] [b] pos) (gBin ltD ga gb) := de_cmp op_ltD ok_ltD ha hb (nomark _)
theorem de_le (ha : DE X E a ga) (hb : DE X E b gb) : DE X E (.Compare a [.LtE] [b] pos) (gBin leD ga gb) := de_cmp op_le ok_leD ha hb (nomark _)
theorem de_eq {k : Nat} (hr : Room k X.A) (ha : DE X E a ga) (hb : DE X E b gb) : DE X E (.Compare a [.Eq] [b] pos) (gBin eqD ga gb) := de_cmp (op_eq.or (op_eqD hr.units)) ok_eqD ha hb (nomark _)
theorem de_ne {k : Nat} (hr : Room k X.A) (ha : DE X E a ga) (hb : DE X E b gb) : DE X E (.Compare a [.NotEq] [b] pos) (gBin neD ga gb) := de_cmp (op_ne.or (op_neD hr.units)) ok_neD ha hb (nomark _)
theorem de_is (ha : DE X E a ga) (hb : DE X E b gb) : DE X E (.Compare a [.Is] [b] pos) (gBin isD ga gb) := de_cmp op_isN ok_isD ha hb (nomark _)
def gChain (f f' : F2) (ga gb gc : GE) : GE := fun ρ w kx k => ga ρ w kx fun x w1 => gb ρ w1 kx fun y w2 => f x y w2 fun z w3 => match z with
  | .bl true => gc ρ w3 kx fun u w4 => f' y u w4 k
  | .bl false => k (.bl false) w3
  | _ => False
theorem de_chain {op op' : CmpOp} {r r' : R2} {f f' : F2} (ho : OpR X (compareOp op) r) (hf : BinOk X.K r f) (ho' : OpR X (compareOp op') r') (hf' : BinOk X.K r' f') (ha : DE X E a ga) (hb : DE X E b gb) (hc : DE X E c gc)
    (hm : lastMarks [op, op'] [b, c] = false := by with_unfolding_all rfl) : DE X E (.Compare a [op, op'] [b, c] pos) (gChain f f' ga gb gc) := by
  refine pe_imp (pe_chain ho ho' ha hb hc hm) ?_
  rintro σ H Q ⟨G, S, ρ, w, kx, k, hr, sr, xl, kl, h⟩
  refine ⟨G, S, ρ, w, kx, _, hr, sr, xl, fun G1 S1 H1 w1 d x x1 hr1 rp h1 => ⟨G1, S1, ρ, w1, kx, _, hr1, sr.mono x1, xl.mono x1, fun G2 S2 H2 w2 e y x2 hr2 rp2 h2 => hf hr2 (rp.mono x2) rp2 (k := fun z w3 => match z with
    | .bl true => gc ρ w3 kx fun u w4 => f' e u w4 k
    | .bl false => k (.bl false) w3
    | _ => False) ?_ h2, h1⟩, h⟩
  intro G3 S3 H3 w3 z v x3 hr3 rp3 h3
  cases z with
  | bl q =>
    cases rp3
    cases q with
    | false => exact ⟨false, rfl, (kl.mono ((x1.trans x2).trans x3)).here hr3 (.bl _) h3⟩
    | true => exact ⟨true, rfl, G3, S3, ρ, w3, kx, _, hr3, sr.mono ((x1.trans x2).trans x3), xl.mono ((x1.trans x2).trans x3), fun G4 S4 H4 w4 u v' x4 hr4 rp4 h4 => hf' hr4 ((rp2.mono x3).mono x4) rp4 (kl.mono (((x1.trans x2).trans x3).trans x4)) h4, h3⟩
  | _ => exact h3.elim
def negD : D → Wd → KD → Prop := fun x w k => match x with
  | .int i => k (.int (-i)) w
  | _ => False
def gUn (f : D → Wd → KD → Prop) (ga : GE) : GE := fun ρ w kx k => ga ρ w kx fun x w1 => f x w1 k
theorem de_neg (ha : DE X E a ga) : DE X E (.UnaryOp .USub a pos) (gUn negD ga) := by
  refine pe_imp (pe_un un_neg ha) ?_
  rintro σ H Q ⟨G, S, ρ, w, kx, k, hr, sr, xl, kl, h⟩
  refine ⟨G, S, ρ, w, kx, _, hr, sr, xl, fun G1 S1 H1 w1 d x x1 hr1 rp h1 => ?_, h⟩
  unfold negD at h1
  split at h1
  · cases rp
    exact ⟨_, rfl, (kl.mono x1).here hr1 (.int _) h1⟩
  · exact h1.elim
end

def gB (g : GE) : GT := fun ρ w kx k => g ρ w kx fun x w1 => match x with
  | .bl b => k b w1
  | _ => False
section
variable {X : Cx} {E : XK} {a b c : Expr} {ga gb gc : GE} {ta tb tc : GT} {pos : Pos} {rest : List Expr}
theorem dt_cmp {op : CmpOp} {r : R2} {f : F2} (ho : OpR X (compareOp op) r) (hf : BinOk X.K r f) (ha : DE X E a ga) (hb : DE X E b gb) (hm : behindInMarks op b = false) : DT X E (.Compare a [op] [b] pos) (gB (gBin f ga gb)) := by
  refine pt_imp (pt_cmpR ho ha hb hm) ?_
  rintro σ H Q ⟨G, S, ρ, w, kx, k, hr, sr, xl, kl, h⟩
  refine ⟨G, S, ρ, w, kx, _, hr, sr, xl, fun G1 S1 H1 w1 d x x1 hr1 rp h1 => ⟨G1, S1, ρ, w1, kx, _, hr1, sr.mono x1, xl.mono x1, fun G2 S2 H2 w2 e y x2 hr2 rp2 h2 => hf hr2 (rp.mono x2) rp2 (k := fun x w1 => match x with
    | .bl b => k b w1
    | _ => False) ?_ h2, h1⟩, h⟩
  intro G3 S3 H3 w3 z v x3 hr3 rp3 h3
  cases z with
  | bl q =>
    cases rp3
    exact ⟨q, rfl, kl _ _ _ _ _ ((x1.trans x2).trans x3) hr3 h3⟩
  | _ => exact h3.elim
theorem dt_lt (ha : DE X E a ga) (hb : DE X E b gb) : DT X E (.Compare a [.Lt] [b] pos) (gB (gBin ltD ga gb)) := dt_cmp op_ltD ok_ltD ha hb (nomark _)
theorem dt_gt (ha : DE X E a ga) (hb : DE X E b gb) : DT X E (.Compare a [.Gt] [b] pos) (gB (gBin gtD ga gb)) := dt_cmp op_gt ok_gtD ha hb (nomark _)
theorem dt_eq {k : Nat} (hr : Room k X.A) (ha : DE X E a ga) (hb : DE X E b gb) : DT X E (.Compare a [.Eq] [b] pos) (gB (gBin eqD ga gb)) := dt_cmp (op_eq.or (op_eqD hr.units)) ok_eqD ha hb (nomark _)
theorem dt_ne {k : Nat} (hr : Room k X.A) (ha : DE X E a ga) (hb : DE X E b gb) : DT X E (.Compare a [.NotEq] [b] pos) (gB (gBin neD ga gb)) := dt_cmp (op_ne.or (op_neD hr.units)) ok_neD ha hb (nomark _)
theorem dt_isnot (ha : DE X E a ga) (hb : DE X E b gb) : DT X E (.Compare a [.IsNot] [b] pos) (gB (gBin isnotD ga gb)) := dt_cmp op_notN ok_isnotD ha hb (nomark _)
theorem dt_chain {op op' : CmpOp} {r r' : R2} {f f' : F2} (ho : OpR X (compareOp op) r) (hf : BinOk X.K r f) (ho' : OpR X (compareOp op') r') (hf' : BinOk X.K r' f') (ha : DE X E a ga) (hb : DE X E b gb) (hc : DE X E c gc)
    (hm : lastMarks [op, op'] [b, c] = false := by with_unfolding_all rfl) : DT X E (.Compare a [op, op'] [b, c] pos) (gB (gChain f f' ga gb gc)) := by
  refine pt_imp (pt_chain ho ho' ha hb hc hm) ?_
  rintro σ H Q ⟨G, S, ρ, w, kx, k, hr, sr, xl, kl, h⟩
  refine ⟨G, S, ρ, w, kx, _, hr, sr, xl, fun G1 S1 H1 w1 d x x1 hr1 rp h1 => ⟨G1, S1, ρ, w1, kx, _, hr1, sr.mono x1, xl.mono x1, fun G2 S2 H2 w2 e y x2 hr2 rp2 h2 => hf hr2 (rp.mono x2) rp2 (k := fun z w3 => match z with
    | .bl true => gc ρ w3 kx fun u w4 => f' e u w4 fun x w1 => match x with
      | .bl b => k b w1
      | _ => False
    | .bl false => k false w3
    | _ => False) ?_ h2, h1⟩, h⟩
  intro G3 S3 H3 w3 z v x3 hr3 rp3 h3
  have x03 := (x1.trans x2).trans x3
  cases z with
  | bl q =>
    cases rp3
    cases q with
    | false => exact ⟨false, rfl, false, rfl, kl _ _ _ _ _ x03 hr3 h3⟩
    | true => exact ⟨true, rfl, G3, S3, ρ, w3, kx, _, hr3, sr.mono x03, xl.mono x03, fun G4 S4 H4 w4 u v' x4 hr4 rp4 h4 => hf' hr4 ((rp2.mono x3).mono x4) rp4 (k := fun x w1 => match x with
      | .bl b => k b w1
      | _ => False) (fun G5 S5 H5 w5 z5 v5 x5 hr5 rp5 h5 => by
        cases z5 with
        | bl q5 =>
          cases rp5
          exact ⟨q5, rfl, kl _ _ _ _ _ ((x03.trans x4).trans x5) hr5 h5⟩
        | _ => exact h5.elim) h4, h3⟩
  | _ => exact h3.elim
def truD : D → Wd → KB → Prop := fun x w k => match x with
  | .non => k false w
  | .bl b => k b w
  | .int i => k (i != 0) w
  | .str y => y.length ≤ sizeLine ∧ k ((y.length : Int) != 0) w
  | .lst xs => k (!xs.isEmpty) w
  | .tup xs => k (!xs.isEmpty) w
  | _ => False
def gTru (g : GE) : GT := fun ρ w kx k => g ρ w kx fun x w1 => truD x w1 k
theorem rep_isEmpty {K : PySem.W.Frag} {G : Gh} {S : Hp} {xs : List V} {ds : List D} (r : RepAll K G S xs ds) : ds.isEmpty = xs.isEmpty := by
  cases r <;> rfl
theorem dt_truth (ha : DE X E a ga) (he : ∀ whole, isTrue a X.env whole = (do let v ← whole; standAt a.pos; holding [v] (truthy v)) := by intro _; rfl) : DT X E a (gTru ga) := by
  refine pt_imp (pt_truth ha he) ?_
  rintro σ H Q ⟨G, S, ρ, w, kx, k, hr, sr, xl, kl, h⟩
  refine ⟨G, S, ρ, w, kx, _, hr, sr, xl, fun G1 S1 H1 w1 d x x1 hr1 rp h1 => ?_, h⟩
  cases rp with
  | non => exact ⟨_, rfl, kl _ _ _ _ _ x1 hr1 h1⟩
  | bl b => exact ⟨_, rfl, kl _ _ _ _ _ x1 hr1 h1⟩
  | int i => exact ⟨_, rfl, kl _ _ _ _ _ x1 hr1 h1⟩
  | str y => exact ⟨_, ⟨h1.1, rfl⟩, kl _ _ _ _ _ x1 hr1 h1.2⟩
  | lst e r => exact ⟨_, .inl ⟨_, .inl (.inl (hr1.same _ _ e)), rfl⟩, by rw [← rep_isEmpty r]; exact kl _ _ _ _ _ x1 hr1 h1⟩
  | tup e r => exact ⟨_, .inr (.inl ⟨_, sqT_up hr1.same e, rfl⟩), by rw [← rep_isEmpty r]; exact kl _ _ _ _ _ x1 hr1 h1⟩
  | rf _ => exact h1.elim
  | st _ => exact h1.elim
  | ob _ => exact h1.elim
  | scr _ => exact h1.elim
def gAnd (t u : GT) : GT := fun ρ w kx k => t ρ w kx fun c w1 => if c = true then u ρ w1 kx k else k false w1
def gOr (t u : GT) : GT := fun ρ w kx k => t ρ w kx fun c w1 => if c = true then k true w1 else u ρ w1 kx k
def gNot (t : GT) : GT := fun ρ w kx k => t ρ w kx fun c w1 => k (!c) w1
theorem dw_and1 (ha : DT X E a ta) : DW X E (.BoolOp .And [a] pos) ta := pw_and1 ha
theorem dw_or1 (ha : DT X E a ta) : DW X E (.BoolOp .Or [a] pos) ta := pw_or1 ha
theorem dw_and (ha : DT X E a ta) (hb : DW X E (.BoolOp .And (b :: rest) pos) tb) : DW X E (.BoolOp .And (a :: b :: rest) pos) (gAnd ta tb) := by
  refine pw_imp (pw_and ha hb) ?_
  rintro σ H Q ⟨G, S, ρ, w, kx, k, hr, sr, xl, kl, h⟩
  refine ⟨G, S, ρ, w, kx, _, hr, sr, xl, fun G1 S1 H1 w1 c x1 hr1 h1 => ?_, h⟩
  cases c with
  | true => exact iteT ⟨G1, S1, ρ, w1, kx, k, hr1, sr.mono x1, xl.mono x1, kl.mono x1, by simpa using h1⟩
  | false => exact iteF (kl _ _ _ _ _ x1 hr1 (by simpa using h1))
theorem dw_or (ha : DT X E a ta) (hb : DW X E (.BoolOp .Or (b :: rest) pos) tb) : DW X E (.BoolOp .Or (a :: b :: rest) pos) (gOr ta tb) := by
  refine pw_imp (pw_or ha hb) ?_
  rintro σ H Q ⟨G, S, ρ, w, kx, k, hr, sr, xl, kl, h⟩
  refine ⟨G, S, ρ, w, kx, _, hr, sr, xl, fun G1 S1 H1 w1 c x1 hr1 h1 => ?_, h⟩
  cases c with
  | false => exact iteF ⟨G1, S1, ρ, w1, kx, k, hr1, sr.mono x1, xl.mono x1, kl.mono x1, by simpa using h1⟩
  | true => exact iteT (kl _ _ _ _ _ x1 hr1 (by simpa using h1))
theorem dt_w (h : DW X E a ta) : DT X E a ta := PW.pt h
theorem dt_not (ha : DT X E a ta) : DT X E (.UnaryOp .Not a pos) (gNot ta) := by
  refine pt_imp (pt_not ha) ?_
  rintro σ H Q ⟨G, S, ρ, w, kx, k, hr, sr, xl, kl, h⟩
  exact ⟨G, S, ρ, w, kx, _, hr, sr, xl, fun G1 S1 H1 w1 c x1 hr1 h1 => kl _ _ _ _ _ x1 hr1 h1, h⟩
def gAndV (ga gb : GE) : GE := fun ρ w kx k => ga ρ w kx fun x w1 => match x with
  | .bl true => gb ρ w1 kx k
  | .bl false => k (.bl false) w1
  | _ => False
def gOrV (ga gb : GE) : GE := fun ρ w kx k => ga ρ w kx fun x w1 => match x with
  | .bl true => k (.bl true) w1
  | .bl false => gb ρ w1 kx k
  | _ => False
def gNotV (ga : GE) : GE := fun ρ w kx k => ga ρ w kx fun x w1 => match x with
  | .bl b => k (.bl (!b)) w1
  | _ => False
theorem de_one {op} (h : DE X E a ga) : DE X E (.BoolOp op [a] pos) ga := pe_one h
theorem de_and (ha : DE X E a ga) (hb : DE X E (.BoolOp .And (b :: rest) pos) gb) : DE X E (.BoolOp .And (a :: b :: rest) pos) (gAndV ga gb) := by
  refine pe_imp (pe_and ha hb) ?_
  rintro σ H Q ⟨G, S, ρ, w, kx, k, hr, sr, xl, kl, h⟩
  refine ⟨G, S, ρ, w, kx, _, hr, sr, xl, fun G1 S1 H1 w1 d x x1 hr1 rp h1 => ?_, h⟩
  cases rp with
  | bl q =>
    cases q with
    | true => exact ⟨true, rfl, iteT ⟨G1, S1, ρ, w1, kx, k, hr1, sr.mono x1, xl.mono x1, kl.mono x1, h1⟩⟩
    | false => exact ⟨false, rfl, iteF ((kl.mono x1).here hr1 (.bl _) h1)⟩
  | _ => exact h1.elim
theorem de_not (ha : DE X E a ga) : DE X E (.UnaryOp .Not a pos) (gNotV ga) := by
  refine pe_imp (pe_not ha) ?_
  rintro σ H Q ⟨G, S, ρ, w, kx, k, hr, sr, xl, kl, h⟩
  refine ⟨G, S, ρ, w, kx, _, hr, sr, xl, fun G1 S1 H1 w1 d x x1 hr1 rp h1 => ?_, h⟩
  cases rp with
  | bl q => exact ⟨q, rfl, (kl.mono x1).here hr1 (.bl _) h1⟩
  | _ => exact h1.elim
def gIf (t : GT) (ga gb : GE) : GE := fun ρ w kx k => t ρ w kx fun c w1 => if c = true then ga ρ w1 kx k else gb ρ w1 kx k
theorem de_ifExp {t : GT} (hc : DT X E c t) (ha : DE X E a ga) (hb : DE X E b gb) : DE X E (.IfExp c a b pos) (gIf t ga gb) := by
  refine pe_imp (pe_ifExp hc ha hb) ?_
  rintro σ H Q ⟨G, S, ρ, w, kx, k, hr, sr, xl, kl, h⟩
  refine ⟨G, S, ρ, w, kx, _, hr, sr, xl, fun G1 S1 H1 w1 c x1 hr1 h1 => ?_, h⟩
  cases c with
  | true => exact iteT ⟨G1, S1, ρ, w1, kx, k, hr1, sr.mono x1, xl.mono x1, kl.mono x1, by simpa using h1⟩
  | false => exact iteF ⟨G1, S1, ρ, w1, kx, k, hr1, sr.mono x1, xl.mono x1, kl.mono x1, by simpa using h1⟩
end
end DL

namespace DL
open PySem PySem.Spec PyProof.Rows L2

def gaNil : GA := fun _ w _ k => k [] w
def gaCons (g : GE) (r : GA) : GA := fun ρ w kx k => g ρ w kx fun x w1 => r ρ w1 kx fun xs w2 => k (x :: xs) w2
def gTup (t : GA) : GE := fun ρ w kx k => t ρ w kx fun xs w1 => xs.length ≤ sizeLine ∧ k (.tup xs) w1
def gLst (t : GA) : GE := fun ρ w kx k => t ρ w kx fun xs w1 => xs.length ≤ sizeLine ∧ k (.lst xs) w1
def gLstC (t : GA) : GE := fun ρ w kx k => t ρ w kx fun xs w1 => xs.length ≤ sizeLine ∧ k (.rf w1.M.length) ⟨w1.M ++ [.lst xs], w1.n⟩
section
variable {X : Cx} {E : XK} {e : Expr} {es : List Expr} {g : GE} {t : GA} {pos : Pos}
theorem da_nil : DA X E [] gaNil := pa_imp pa_nil (by
  rintro σ H Q ⟨G, S, ρ, w, kx, k, hr, sr, xl, kl, h⟩
  exact kl _ _ _ _ _ _ (Ext.refl _ _) hr .nil h)
theorem da_cons (ha : DE X E e g) (hr : DA X E es t) (hs : starEach (e :: es) X.env = (false, eval e X.env) :: starEach es X.env := by rfl) : DA X E (e :: es) (gaCons g t) := by
  refine pa_imp (pa_cons ha hr hs) ?_
  rintro σ H Q ⟨G, S, ρ, w, kx, k, hr, sr, xl, kl, h⟩
  exact ⟨G, S, ρ, w, kx, _, hr, sr, xl, fun G1 S1 H1 w1 d x x1 hr1 rp h1 => ⟨G1, S1, ρ, w1, kx, _, hr1, sr.mono x1, xl.mono x1, fun G2 S2 H2 w2 ds xs x2 hr2 rp2 h2 => kl _ _ _ _ _ _ (x1.trans x2) hr2 (.cons (rp.mono x2) rp2) h2, h1⟩, h⟩
theorem de_tup {x1} (h : DA X E es t) : DE X E (.Tuple es x1 pos) (gTup t) := by
  refine pe_imp (pe_tup h) ?_
  rintro σ H Q ⟨G, S, ρ, w, kx, k, hr, sr, xl, kl, h⟩
  exact ⟨G, S, ρ, w, kx, _, hr, sr, xl, fun G1 S1 H1 w1 ds xs x1 hr1 rp h1 => ⟨by rw [rp.length]; exact h1.1, (kl.mono x1).newT hr1 rp h1.2⟩, h⟩
theorem de_lst (h : DA X E es t) : DE X E (.List es pos) (gLst t) := by
  refine pe_imp (pe_lst h) ?_
  rintro σ H Q ⟨G, S, ρ, w, kx, k, hr, sr, xl, kl, h⟩
  exact ⟨G, S, ρ, w, kx, _, hr, sr, xl, fun G1 S1 H1 w1 ds xs x1 hr1 rp h1 => ⟨by rw [rp.length]; exact h1.1, (kl.mono x1).newL hr1 rp h1.2⟩, h⟩
theorem KL.newCL {K : PySem.W.Frag} {G : Gh} {S H : Hp} {w : Wd} {k : KD} {Q : VK} {xs : List V} {ds : List D} (kl : KL K G S k Q) (hr : HR K G S w H) (r : RepAll K G S xs ds) (h : k (.rf w.M.length) ⟨w.M ++ [.lst ds], w.n⟩) : ∀ p, H p = none → Q (.ref p) (upd H p (.lst xs)) := fun p hp => by
  have x : Ext G S ⟨G.al ++ [p], G.st, G.fr⟩ S := ⟨⟨[p], rfl⟩, fun _ z => z, fun _ z => z, Same.refl S⟩
  obtain ⟨h1, _⟩ := hr.newC hp (.lst xs) (.lst ds) ⟨hr.freshS hp, xs, upd_same, r.mono x⟩
  refine kl _ _ _ _ _ _ x h1 (.rf ?_) h
  show (G.al ++ [p])[w.M.length]? = some p
  rw [List.getElem?_append_right (by rw [hr.len]; exact Nat.le_refl _), hr.len, Nat.sub_self]
  rfl
theorem de_lstC (h : DA X E es t) : DE X E (.List es pos) (gLstC t) := by
  refine pe_imp (pe_lst h) ?_
  rintro σ H Q ⟨G, S, ρ, w, kx, k, hr, sr, xl, kl, h⟩
  exact ⟨G, S, ρ, w, kx, _, hr, sr, xl, fun G1 S1 H1 w1 ds xs x1 hr1 rp h1 => ⟨by rw [rp.length]; exact h1.1, (kl.mono x1).newCL hr1 rp h1.2⟩, h⟩
def gFrz (g : GE) : GE := fun ρ w kx k => g ρ w kx fun x w1 => match x with
  | .rf i => match w1.M[i]? with
    | some (.lst ds) => k (.lst ds) ⟨w1.M.set i .dead, w1.n⟩
    | _ => False
  | _ => False
theorem de_frz (h : DE X E e g) : DE X E e (gFrz g) := by
  refine pe_imp h ?_
  rintro σ H Q ⟨G, S, ρ, w, kx, k, hr, sr, xl, kl, h⟩
  refine ⟨G, S, ρ, w, kx, _, hr, sr, xl, fun G1 S1 H1 w1 d x x1 hr1 rp h1 => ?_, h⟩
  cases rp with
  | rf ha =>
    rename_i a i
    simp only at h1
    split at h1
    · rename_i ds e2
      obtain ⟨S2, hr2, x2, rp2⟩ := hr1.freeze ha e2
      exact kl _ _ _ _ _ _ (x1.trans x2) hr2 rp2 h1
    · exact h1.elim
  | _ => exact h1.elim
end

def seqD (d : D) (w : Wd) : Option (List D) := match d with
  | .lst xs => some xs
  | .tup xs => some xs
  | .rf c => match w.M[c]? with
    | some (.lst xs) => some xs
    | _ => none
  | _ => none
theorem rep_seq {K : PySem.W.Frag} {G : Gh} {S H : Hp} {w : Wd} {v : V} {d : D} {ds : List D} (hr : HR K G S w H) (r : Rep K G S v d) (h : seqD d w = some ds) :
    ∃ a xs, v = .ref a ∧ (SqL K H a xs ∨ SqT K H a xs) ∧ RepAll K G S xs ds := by
  cases r with
  | lst e r => cases h; exact ⟨_, _, rfl, .inl (.inl (.inl (hr.same _ _ e))), r⟩
  | tup e r => cases h; exact ⟨_, _, rfl, .inr (sqT_up hr.same e), r⟩
  | rf e =>
    rename_i a i
    unfold seqD at h
    simp only at h
    split at h
    · rename_i xs e2
      cases h
      obtain ⟨_, ys, h1, h2⟩ := hr.cell i a _ e e2
      exact ⟨_, _, rfl, .inl (.inl (.inl h1)), h2⟩
    · cases h
  | _ => cases h
theorem rep_at {K : PySem.W.Frag} {G : Gh} {S : Hp} {xs : List V} {ds : List D} {i : Int} {d : D} (r : RepAll K G S xs ds) (h : atI ds i = some d) : ∃ v, atI xs i = some v ∧ Rep K G S v d := by
  unfold atI at h ⊢
  rw [r.length]
  cases e : ixN ds.length i with
  | none => rw [e] at h; cases h
  | some j =>
    rw [e] at h
    exact r.get h
def ixD : F2 := fun x y w k => match y with
  | .int i => match x with
    | .str z => z.length ≤ sizeLine ∧ match atI z.cps.toList i with
      | some c => k (.str ⟨#[c]⟩) w
      | none => False
    | _ => match seqD x w with
      | some ds => match atI ds i with
        | some d => k d w
        | none => False
      | none => False
  | _ => False
theorem ok_ixD {K : PySem.W.Frag} : BinOk K (rIx K) ixD := by
  intro G S H w x y d e k Q hr rx ry kl h
  cases ry with
  | int i =>
    have seq : (match seqD d w with
      | some ds => match atI ds i with
        | some d => k d w
        | none => False
      | none => False) → rIx K x (.int i) H Q := fun h => by
      split at h
      · rename_i ds e1
        split at h
        · rename_i d2 e2
          obtain ⟨a, xs, rfl, hs, r⟩ := rep_seq hr rx e1
          obtain ⟨v, h1, h2⟩ := rep_at r e2
          rcases hs with hs | hs
          · exact .inl ⟨_, _, _, _, rfl, rfl, hs, h1, kl.here hr h2 h⟩
          · exact .inr (.inl ⟨_, _, _, _, rfl, rfl, hs, h1, kl.here hr h2 h⟩)
        · exact h.elim
      · exact h.elim
    cases rx with
    | str z =>
      obtain ⟨h1, h⟩ := h
      split at h
      · rename_i c e2
        exact .inr (.inr ⟨_, _, _, rfl, rfl, h1, e2, kl.here hr (.str _) h⟩)
      · exact h.elim
    | lst e1 r => exact seq h
    | tup e1 r => exact seq h
    | rf e1 => exact seq h
    | _ => exact h.elim
  | _ => exact h.elim
section
variable {X : Cx} {E : XK} {a b : Expr} {ga gb : GE} {pos : Pos}
theorem de_ix (ha : DE X E a ga) (hb : DE X E b gb) (hs : PlainIx b := by exact fun _ _ => rfl) : DE X E (.Subscript a b pos) (gBin ixD ga gb) := pe_imp (pe_ix ix_seq ha hb hs) (bin_up ok_ixD)
end
abbrev GO := Rho → Wd → KX → (Option Int → Wd → Prop) → Prop
def upO (K : PySem.W.Frag) (E : XK) (g : GO) : TO := fun σ H Q => ∃ G S ρ w kx k, HR K G S w H ∧ SR K G S σ ρ ∧ XL K G S kx E ∧ (∀ G' S' H' w' o, Ext G S G' S' → HR K G' S' w' H' → k o w' → Q o H') ∧ g ρ w kx k
def DO (X : Cx) (E : XK) (e : Option Expr) (g : GO) : Prop := PO X e (upO X.K E g)
def goNone : GO := fun _ w _ k => k none w
def goSome (g : GE) : GO := fun ρ w kx k => g ρ w kx fun x w1 => match x with
  | .int i => k (some i) w1
  | _ => False
def cutD {α : Type} (xs : List α) (lo hi : Option Int) : List α := (xs.drop (HT.sIx xs.length 0 lo)).take (HT.sIx xs.length xs.length hi - HT.sIx xs.length 0 lo)
def slD : D → Option Int → Option Int → Wd → KD → Prop := fun x lo hi w k => match x with
  | .lst ds => k (.lst (cutD ds lo hi)) w
  | .tup ds => ¬ (HT.sIx ds.length 0 lo = 0 ∧ HT.sIx ds.length ds.length hi = ds.length) ∧ k (.tup (cutD ds lo hi)) w
  | .rf i => match w.M[i]? with
    | some (.lst ds) => k (.lst (cutD ds lo hi)) w
    | _ => False
  | _ => False
def gSl (f : D → Option Int → Option Int → Wd → KD → Prop) (g : GE) (l h : GO) : GE := fun ρ w kx k => g ρ w kx fun x w1 => l ρ w1 kx fun lo w2 => h ρ w2 kx fun hi w3 => f x lo hi w3 k
def SlOk (K : PySem.W.Frag) (r : V → Option Int → Option Int → Hp → VK → Prop) (f : D → Option Int → Option Int → Wd → KD → Prop) : Prop := ∀ {G S H w x d lo hi k Q}, HR K G S w H → Rep K G S x d → KL K G S k Q → f d lo hi w k → r x lo hi H Q
theorem rep_cut {K : PySem.W.Frag} {G : Gh} {S : Hp} {xs : List V} {ds : List D} {lo hi : Option Int} (r : RepAll K G S xs ds) : RepAll K G S (cutV xs lo hi) (cutD ds lo hi) := by
  unfold cutV cutD
  rw [r.length]
  exact (r.drop _).take _
section
variable {X : Cx} {E : XK} {a b : Expr} {ga gb : GE} {gl gh : GO} {pos p2 : Pos} {lo hi : Option Expr}
theorem do_none : DO X E none goNone := by
  have h := po_none (X := X)
  refine ⟨fun pins s σ H Q I q => h.run pins s σ H Q I ?_⟩
  obtain ⟨G, S, ρ, w, kx, k, hr, sr, xl, kl, h⟩ := q
  exact kl _ _ _ _ _ (Ext.refl _ _) hr h
theorem do_some (ha : DE X E a ga) : DO X E (some a) (goSome ga) := by
  have h := po_some (X := X) ha
  refine ⟨fun pins s σ H Q I q => h.run pins s σ H Q I ?_⟩
  obtain ⟨G, S, ρ, w, kx, k, hr, sr, xl, kl, h⟩ := q
  refine ⟨G, S, ρ, w, kx, _, hr, sr, xl, fun G1 S1 H1 w1 d x x1 hr1 rp h1 => ?_, h⟩
  cases rp with
  | int i => exact ⟨i, rfl, kl _ _ _ _ _ x1 hr1 h1⟩
  | _ => exact h1.elim
theorem de_slice {r : V → Option Int → Option Int → Hp → VK → Prop} {f : D → Option Int → Option Int → Wd → KD → Prop} (hs : SlR X r) (hf : SlOk X.K r f) (he : DE X E a ga) (hl : DO X E lo gl) (hu : DO X E hi gh) : DE X E (.Subscript a (.Slice lo hi none p2) pos) (gSl f ga gl gh) := by
  refine pe_imp (pe_slice hs he hl hu) ?_
  rintro σ H Q ⟨G, S, ρ, w, kx, k, hr, sr, xl, kl, h⟩
  exact ⟨G, S, ρ, w, kx, _, hr, sr, xl, fun G1 S1 H1 w1 d x x1 hr1 rp h1 => ⟨G1, S1, ρ, w1, kx, _, hr1, sr.mono x1, xl.mono x1, fun G2 S2 H2 w2 l x2 hr2 h2 =>
    ⟨G2, S2, ρ, w2, kx, _, hr2, sr.mono (x1.trans x2), xl.mono (x1.trans x2), fun G3 S3 H3 w3 u x3 hr3 h3 => hf hr3 (rp.mono (x2.trans x3)) (kl.mono ((x1.trans x2).trans x3)) h3, h2⟩, h1⟩, h⟩
def rSlLT (K : PySem.W.Frag) : V → Option Int → Option Int → Hp → VK → Prop := fun x lo hi H Q => rSlL K x lo hi H Q ∨ rSlT K x lo hi H Q
end
end DL

namespace DL
open PySem PySem.Spec PyProof.Rows L2

abbrev GF := List D → Wd → KX → KD → Prop
abbrev noX : KX := fun _ _ => False
def upF (n : Nat) (K : PySem.W.Frag) (g : GF) : Sp := fun vs H Q E => ∃ G S ds w kx k, ds.length = n ∧ HR K G S w H ∧ RepAll K G S vs ds ∧ XL K G S kx E ∧ KL K G S k Q ∧ g ds w kx k
theorem up_imp {n : Nat} {K : PySem.W.Frag} {g g' : GF} (h : ∀ ds w kx k, g' ds w kx k → g ds w kx k) : ∀ vs H Q E, upF n K g' vs H Q E → upF n K g vs H Q E := by
  rintro vs H Q E ⟨G, S, ds, w, kx, k, h1, h2, h3, h4, h5, h6⟩
  exact ⟨G, S, ds, w, kx, k, h1, h2, h3, h4, h5, h _ _ _ _ h6⟩
theorem xl_no {K : PySem.W.Frag} {G : Gh} {S : Hp} {E : XK} : XL K G S noX E := fun _ _ _ _ _ _ _ _ _ _ h => h.elim
def rho (n : Nat) (ds : List D) : Rho := ds.map some ++ List.replicate (n - ds.length) none
def sem0 (n : Nat) (g : GS) : GF := fun ds w _ k => g { nx := fun _ w' => k .non w', rt := k, ex := noX } (rho n ds) w
def semX (n : Nat) (g : GS) : GF := fun ds w kx k => g { nx := fun _ w' => k .non w', rt := k, ex := kx } (rho n ds) w
theorem sr_start {K : PySem.W.Frag} {G : Gh} {S : Hp} {N : List Str} : ∀ {vs : List V} {ds : List D}, RepAll K G S vs ds → SR K G S (L2.start N vs) (rho N.length ds) := by
  intro vs ds r
  have l := r.length
  refine ⟨by simp [L2.start, rho, l], fun i d e => ?_⟩
  unfold rho at e
  by_cases hi : i < ds.length
  · rw [List.getElem?_append_left (by simpa using hi)] at e
    have e' : ds[i]? = some d := by
      rw [List.getElem?_map] at e
      cases q : ds[i]? with
      | none => rw [q] at e; cases e
      | some z => rw [q] at e; simpa using e
    obtain ⟨v, h1, h2⟩ := r.get e'
    refine ⟨v, ?_, h2⟩
    unfold L2.start
    rw [List.getElem?_append_left (by simpa [l] using hi), List.getElem?_map, h1]
    rfl
  · rw [List.getElem?_append_right (by simpa using Nat.le_of_not_lt hi)] at e
    have := List.mem_of_getElem? e
    rw [List.mem_replicate] at this
    cases this.2
structure DefAt (K : PySem.W.Frag) (mg : Str → Option Value) (x : Str) (st : Stmt) (ps : List Str) : Prop where
  ex : ∃ f fd, Fun K x x st f fd ∧ mg x = some (.ref f) ∧ Binds K fd ps []
structure FnAt (P : Program) (w : World) (K : PySem.W.Frag) (mg : Str → Option Value) (base : Heap) (CX : CXT) (k : Nat) (x : Str) (n : Nat) (g : GF) : Prop where
  ex : ∃ f fd ps, FnOk P w K mg base CX k f fd ps (upF n K g) ∧ mg x = some (.ref f) ∧ PySem.W.keepIn K (.ref f) = true ∧ Binds K fd ps []
section
variable {P : Program} {w : World} {K : PySem.W.Frag} {mg : Str → Option Value} {base : Heap}
theorem FnAt.imp {CX : CXT} {k : Nat} {x : Str} {n : Nat} {g g' : GF} (h : FnAt P w K mg base CX k x n g) (i : ∀ ds w kx k, g' ds w kx k → g ds w kx k) : FnAt P w K mg base CX k x n g' := by
  obtain ⟨f, fd, ps, h1, h2⟩ := h.ex
  exact ⟨f, fd, ps, h1.imp (up_imp i), h2⟩
theorem FnAt.mono {CX : CXT} {j k : Nat} {x : Str} {n : Nat} {g : GF} (h : FnAt P w K mg base CX j x n g) (i : j ≤ k) : FnAt P w K mg base CX k x n g := by
  obtain ⟨f, fd, ps, h1, h2⟩ := h.ex
  exact ⟨f, fd, ps, h1.mono i, h2⟩
theorem fun_fn0 {x : Str} {st : Stmt} {f : Addr} {fd : FuncData} {N ps : List Str} {k : Nat} {g : GS} (F : Fun K x x st f fd) (S : FnScope N ps (defScope st))
    (hbody : ∀ (f : Addr) (cdv : Value) (A : Around) (outer : List Env) (s : Shared) (H : Hp) (E : XK), Room k (A.deeper (envOfC x (defScope st) s.heap.objs.size f cdv)) →
      DSs (cxOf CX0 P w K mg base N x (defScope st) f cdv A outer s H E).nox E0 (defBody st) g) : FnOk P w K mg base CX0 (k + 1) f fd ps (upF ps.length K (sem0 N.length g)) := by
  refine F.ok S (fun vs H Q E h => ?_) (fun cdv A outer s H vs Q E hr h => ?_)
  · obtain ⟨G, S, ds, w, kx, k, h1, h2, h3, _⟩ := h
    rw [h3.length, h1]
  · obtain ⟨G, S1, ds, w1, kx, k1, h1, h2, h3, h4, h5, h6⟩ := h
    refine ⟨_, hbody f cdv A outer s H E hr, G, S1, rho N.length ds, w1, { nx := fun _ w' => k1 .non w', rt := k1, ex := noX }, h2, sr_start h3, ⟨fun G' S' H' w' ρ' σ' x1 hr1 _ hk => h5 _ _ _ _ _ _ x1 hr1 .non hk, h5, ?_, ?_, xl_no⟩, h6⟩
    · intro _ _ _ _ _ _ _ _ _ z
      exact z.elim
    · intro _ _ _ _ _ _ _ _ _ z
      exact z.elim
theorem DefAt.fn0 {x : Str} {st : Stmt} {N ps : List Str} {k : Nat} {g : GS} (T : DefAt K mg x st ps) (S : FnScope N ps (defScope st))
    (hbody : ∀ (f : Addr) (cdv : Value) (A : Around) (outer : List Env) (s : Shared) (H : Hp) (E : XK), Room k (A.deeper (envOfC x (defScope st) s.heap.objs.size f cdv)) →
      DSs (cxOf CX0 P w K mg base N x (defScope st) f cdv A outer s H E).nox E0 (defBody st) g) : FnAt P w K mg base CX0 (k + 1) x ps.length (sem0 N.length g) := by
  obtain ⟨f, fd, F, hm, hb⟩ := T.ex
  exact ⟨f, fd, ps, fun_fn0 F S hbody, hm, F.kp, hb⟩
theorem DefAt.mk0 {x : Str} {st : Stmt} {ps : List Str} {k n : Nat} {g : GF} (T : DefAt K mg x st ps) (h : ∀ f fd, Fun K x x st f fd → FnOk P w K mg base CX0 k f fd ps (upF n K g)) : FnAt P w K mg base CX0 k x n g := by
  obtain ⟨f, fd, F, hm, hb⟩ := T.ex
  exact ⟨f, fd, ps, h f fd F, hm, F.kp, hb⟩
end
section
variable {X : Cx} {E : XK} {k n : Nat} {g : GF} {x : Str} {e : Expr} {es : List Expr} {ga : GA} {p pos : Pos}
def gCall0 (n : Nat) (g : GF) (ga : GA) : GE := fun ρ w kx k => ga ρ w kx fun ds w1 => ds.length = n ∧ g ds w1 noX k
theorem de_call0 {j : Nat} (F : FnAt X.prog X.w X.K X.mg X.base CX0 j x n g) (hr : Room k X.A) (hg : Gl X x) (ha : DA X E (e :: es) ga) (hjk : j ≤ k := by decide) (hdb : (x == ("__debug__" : Str)) = false := by decide) (he : starEach (e :: es) X.env = (false, eval e X.env) :: starEach es X.env := by rfl) (hpl : (backTo pos (starEach es X.env)).any (·.1) = false := by rfl) :
    DE X E (.Call (.Name x p) (e :: es) [] pos) (gCall0 n g ga) := by
  obtain ⟨f, fd, ps, h1, h2, h3, h4⟩ := F.ex
  refine pe_imp (pe_call h1 (hr.mono hjk) hg h2 h3 h4 .nil pass0 ha hdb he hpl) ?_
  rintro σ H Q ⟨G, S, ρ, w, kx, k, hr, sr, xl, kl, h⟩
  refine ⟨G, S, ρ, w, kx, _, hr, sr, xl, fun G1 S1 H1 w1 ds vs x1 hr1 rp hq => ?_, h⟩
  show upF n X.K g (vs ++ []) H1 Q E0
  rw [List.append_nil]
  exact ⟨G1, S1, ds, w1, noX, k, hq.1, hr1, rp, xl_no, kl.mono x1, hq.2⟩
end

abbrev FB := List D → Wd → KD → Prop
def CallOk (K : PySem.W.Frag) (r : List V → Hp → VK → Prop) (f : FB) : Prop := ∀ {G S H w xs ds k Q}, HR K G S w H → RepAll K G S xs ds → KL K G S k Q → f ds w k → r xs H Q
def gCB (f : FB) (ga : GA) : GE := fun ρ w kx k => ga ρ w kx fun ds w1 => f ds w1 k
section
variable {X : Cx} {E : XK} {r : List V → Hp → VK → Prop} {f : FB} {id T : String} {x : Str} {e : Expr} {es : List Expr} {ga : GA} {p pos : Pos}
theorem cb_up {K : PySem.W.Frag} (hf : CallOk K r f) : ∀ σ H Q, upE K E (gCB f ga) σ H Q → tCB r (upA K E ga) σ H Q := by
  rintro σ H Q ⟨G, S, ρ, w, kx, k, hr, sr, xl, kl, h⟩
  exact ⟨G, S, ρ, w, kx, _, hr, sr, xl, fun G1 S1 H1 w1 ds vs x1 hr1 rp hq => hf hr1 rp (kl.mono x1) hq, h⟩
theorem de_cb (hc : CallR X (.builtin id) r) (hf : CallOk X.K r f) (hg : Gl X x) (hm : X.mg x = none) (hv : bootBuiltins x = some (.builtin id)) (ha : DA X E (e :: es) ga) (hn : x ≠ "__name__" := by decide) (hdb : (x == ("__debug__" : Str)) = false := by decide)
    (he : starEach (e :: es) X.env = (false, eval e X.env) :: starEach es X.env := by rfl) (hpl : (backTo pos (starEach es X.env)).any (·.1) = false := by rfl) : DE X E (.Call (.Name x p) (e :: es) [] pos) (gCB f ga) :=
  pe_imp (pe_callB hc hg hm hv ha hn hdb he hpl) (cb_up hf)
theorem de_ct (hc : CallR X (.type T) r) (hf : CallOk X.K r f) (hg : Gl X x) (hm : X.mg x = none) (hv : bootBuiltins x = some (.type T)) (ha : DA X E (e :: es) ga) (hn : x ≠ "__name__" := by decide) (hdb : (x == ("__debug__" : Str)) = false := by decide)
    (he : starEach (e :: es) X.env = (false, eval e X.env) :: starEach es X.env := by rfl) (hpl : (backTo pos (starEach es X.env)).any (·.1) = false := by rfl) : DE X E (.Call (.Name x p) (e :: es) [] pos) (gCB f ga) :=
  pe_imp (pe_callTy hc hg hm hv ha hn hdb he hpl) (cb_up hf)
end
theorem one_rep {K : PySem.W.Frag} {G : Gh} {S : Hp} {xs : List V} {d : D} (r : RepAll K G S xs [d]) : ∃ v, xs = [v] ∧ Rep K G S v d := by
  cases r with
  | cons h t => cases t; exact ⟨_, rfl, h⟩
theorem two_rep {K : PySem.W.Frag} {G : Gh} {S : Hp} {xs : List V} {d e : D} (r : RepAll K G S xs [d, e]) : ∃ v u, xs = [v, u] ∧ Rep K G S v d ∧ Rep K G S u e := by
  cases r with
  | cons h t =>
    obtain ⟨u, rfl, h2⟩ := one_rep t
    exact ⟨_, _, rfl, h, h2⟩
def fAbs : FB := fun ds w k => match ds with
  | [.int i] => k (.int i.natAbs) w
  | _ => False
theorem ok_abs {K : PySem.W.Frag} : CallOk K (fun xs H Q => ∃ i, xs = [.int i] ∧ Q (.int (if i < 0 then -i else i)) H) fAbs := by
  intro G S H w xs ds k Q hr rx kl h
  unfold fAbs at h
  split at h
  · rename_i i
    obtain ⟨v, rfl, r⟩ := one_rep rx
    cases r
    refine ⟨_, rfl, ?_⟩
    have e : (if i < 0 then -i else i) = (i.natAbs : Int) := by split <;> omega
    rw [e]
    exact kl.here hr (.int _) h
  · exact h.elim
def fLen : FB := fun ds w k => match ds with
  | [.str z] => z.length ≤ sizeLine ∧ k (.int z.length) w
  | [d] => match seqD d w with
    | some xs => k (.int xs.length) w
    | none => match d with
      | .rf c => match w.M[c]? with
        | some (.dk kvs) => k (.int kvs.length) w
        | _ => False
      | _ => False
  | _ => False
def rLen (K : PySem.W.Frag) : List V → Hp → VK → Prop := fun xs H Q => (∃ x n, xs = [x] ∧ LenV K x H n ∧ Q (.int n) H) ∨ (∃ (a : Addr) (kvs : List (Key × V)), xs = [V.ref a] ∧ Rd H a (.dK kvs) ∧ Q (.int kvs.length) H)
theorem call_lenR {X : Cx} : CallR X (.builtin "len") (rLen X.K) := by
  intro pins s σ H xs us Q I r h
  rcases h with h | ⟨a, kvs, rfl, hd, q⟩
  · exact call_len pins s σ H xs us Q I r h
  · obtain ⟨u, rfl, r1⟩ := vals1 r
    cases r1
    exact d_len I hd fun t s' I' => ⟨.int kvs.length, H, I', ⟨_, rfl⟩, q⟩
theorem fs_len {K : PySem.W.Frag} {G : Gh} {S : Hp} {κ : Type} {xs : List (κ × V)} {ds : List (κ × D)} (r : FsRep K G S xs ds) : xs.length = ds.length := Paired.length r
theorem ok_len {K : PySem.W.Frag} : CallOk K (rLen K) fLen := by
  intro G S H w xs ds k Q hr rx kl h
  unfold fLen at h
  split at h
  · obtain ⟨v, rfl, r⟩ := one_rep rx
    cases r
    exact .inl ⟨_, _, rfl, ⟨h.1, rfl⟩, kl.here hr (.int _) h.2⟩
  · rename_i d hd
    obtain ⟨v, rfl, r⟩ := one_rep rx
    split at h
    · rename_i xs e1
      obtain ⟨a, ys, rfl, hs, r2⟩ := rep_seq hr r e1
      refine .inl ⟨_, _, rfl, ?_, kl.here hr (.int _) h⟩
      rcases hs with hs | hs
      · exact .inl ⟨ys, hs, r2.length.symm⟩
      · exact .inr ⟨ys, hs, r2.length.symm⟩
    · split at h
      · rename_i c
        split at h
        · rename_i kvs e2
          cases r with
          | rf ha =>
            obtain ⟨_, ks, h1, h2⟩ := hr.cell _ _ _ ha e2
            refine .inr ⟨_, ks, rfl, .inl h1, ?_⟩
            rw [fs_len h2]
            exact kl.here hr (.int _) h
        · exact h.elim
      · exact h.elim
  · exact h.elim
def tyD (d : D) (w : Wd) : Option String := match d with
  | .non => some "NoneType"
  | .bl _ => some "bool"
  | .int _ => some "int"
  | .str _ => some "str"
  | .lst _ => some "list"
  | .tup _ => some "tuple"
  | .rf c => match w.M[c]? with
    | some (.lst _) => some "list"
    | some (.dk _) => some "dict"
    | _ => none
  | _ => none
theorem tyX_tup {K : PySem.W.Frag} {H : Hp} {a : Addr} {xs : List V} (h : SqT K H a xs) : TyX K H (.ref a) (.type "tuple") := by
  rcases h with (h | ⟨o, h⟩) | ⟨o, its, n, h1, h2, _⟩
  · exact .base (.tup h)
  · exact .fTuple h
  · exact .kTuple h1 h2
theorem rep_ty {K : PySem.W.Frag} {G : Gh} {S H : Hp} {w : Wd} {v : V} {d : D} {t : String} (hr : HR K G S w H) (r : Rep K G S v d) (h : tyD d w = some t) : TyX K H v (.type t) := by
  cases r with
  | non => cases h; exact .base .non
  | bl b => cases h; exact .base (.bl b)
  | int b => cases h; exact .base (.int b)
  | str b => cases h; exact .base (.str b)
  | lst e r => cases h; exact .base (.lst (hr.same _ _ e))
  | tup e r => cases h; exact tyX_tup (sqT_up hr.same e)
  | rf e =>
    unfold tyD at h
    simp only at h
    split at h
    · rename_i xs e2
      cases h
      obtain ⟨_, ys, h1, h2⟩ := hr.cell _ _ _ e e2
      exact .base (.lst h1)
    · rename_i xs e2
      cases h
      obtain ⟨_, ys, h1, h2⟩ := hr.cell _ _ _ e e2
      exact .base (.dK h1)
    · cases h
  | _ => cases h
def fIsi : FB := fun ds w k => match ds with
  | [x, .ob (.ty n)] => match tyD x w with
    | some t => match kitB t n with
      | some b => k (.bl b) w
      | none => False
    | none => False
  | _ => False
theorem ok_isi {K : PySem.W.Frag} : CallOk K (rIsi K) fIsi := by
  intro G S H w xs ds k Q hr rx kl h
  unfold fIsi at h
  split at h
  · rename_i x n
    split at h
    · rename_i t e1
      split at h
      · rename_i b e2
        obtain ⟨v, u, rfl, r1, r2⟩ := two_rep rx
        cases r2
        exact ⟨_, _, _, _, b, rfl, .ty n, rep_ty hr r1 e1, kit_ty e2, kl.here hr (.bl _) h⟩
      · exact h.elim
    · exact h.elim
  · exact h.elim
theorem kit_int_int : kitB "int" "int" = some true := by decide +kernel
theorem kit_bool_int : kitB "bool" "int" = some true := by decide +kernel
theorem kit_str_int : kitB "str" "int" = some false := by decide +kernel
theorem kit_non_int : kitB "NoneType" "int" = some false := by decide +kernel
theorem kit_list_int : kitB "list" "int" = some false := by decide +kernel
theorem kit_tuple_int : kitB "tuple" "int" = some false := by decide +kernel
theorem kit_dict_int : kitB "dict" "int" = some false := by decide +kernel
theorem kit_int_bool : kitB "int" "bool" = some false := by decide +kernel
theorem kit_bool_bool : kitB "bool" "bool" = some true := by decide +kernel
theorem kit_str_bool : kitB "str" "bool" = some false := by decide +kernel
theorem kit_non_bool : kitB "NoneType" "bool" = some false := by decide +kernel
theorem kit_list_bool : kitB "list" "bool" = some false := by decide +kernel
theorem kit_tuple_bool : kitB "tuple" "bool" = some false := by decide +kernel
theorem kit_dict_bool : kitB "dict" "bool" = some false := by decide +kernel
theorem kit_int_str : kitB "int" "str" = some false := by decide +kernel
theorem kit_bool_str : kitB "bool" "str" = some false := by decide +kernel
theorem kit_str_str : kitB "str" "str" = some true := by decide +kernel
theorem kit_non_str : kitB "NoneType" "str" = some false := by decide +kernel
theorem kit_list_str : kitB "list" "str" = some false := by decide +kernel
theorem kit_tuple_str : kitB "tuple" "str" = some false := by decide +kernel
theorem kit_int_list : kitB "int" "list" = some false := by decide +kernel
theorem kit_bool_list : kitB "bool" "list" = some false := by decide +kernel
theorem kit_str_list : kitB "str" "list" = some false := by decide +kernel
theorem kit_non_list : kitB "NoneType" "list" = some false := by decide +kernel
theorem kit_list_list : kitB "list" "list" = some true := by decide +kernel
theorem kit_tuple_list : kitB "tuple" "list" = some false := by decide +kernel
theorem kit_int_tuple : kitB "int" "tuple" = some false := by decide +kernel
theorem kit_bool_tuple : kitB "bool" "tuple" = some false := by decide +kernel
theorem kit_str_tuple : kitB "str" "tuple" = some false := by decide +kernel
theorem kit_non_tuple : kitB "NoneType" "tuple" = some false := by decide +kernel
theorem kit_list_tuple : kitB "list" "tuple" = some false := by decide +kernel
theorem kit_tuple_tuple : kitB "tuple" "tuple" = some true := by decide +kernel
def allBl : List D → Option (List Bool)
  | [] => some []
  | .bl b :: r => match allBl r with
    | some bs => some (b :: bs)
    | none => none
  | _ => none
def allInt : List D → Option (List Int)
  | [] => some []
  | .int b :: r => match allInt r with
    | some bs => some (b :: bs)
    | none => none
  | _ => none
theorem rep_bls {K : PySem.W.Frag} {G : Gh} {S : Hp} : ∀ {ds : List D} {vs : List V} {bs : List Bool}, RepAll K G S vs ds → allBl ds = some bs → vs = bs.map V.bl
  | [], _, _, r, e => by
    cases r
    cases e
    rfl
  | d :: ds, _, _, r, e => by
    cases r with
    | cons h r =>
      cases d with
      | bl b =>
        cases h
        unfold allBl at e
        cases q : allBl ds with
        | none =>
          rw [q] at e
          cases e
        | some bs =>
          rw [q] at e
          cases e
          rw [rep_bls r q]
          rfl
      | _ => simp [allBl] at e
theorem rep_ints {K : PySem.W.Frag} {G : Gh} {S : Hp} : ∀ {ds : List D} {vs : List V} {bs : List Int}, RepAll K G S vs ds → allInt ds = some bs → vs = bs.map V.int
  | [], _, _, r, e => by
    cases r
    cases e
    rfl
  | d :: ds, _, _, r, e => by
    cases r with
    | cons h r =>
      cases d with
      | int b =>
        cases h
        unfold allInt at e
        cases q : allInt ds with
        | none =>
          rw [q] at e
          cases e
        | some bs =>
          rw [q] at e
          cases e
          rw [rep_ints r q]
          rfl
      | _ => simp [allInt] at e
def fAll : FB := fun ds w k => match ds with
  | [.lst xs] => match allBl xs with
    | some bs => k (.bl (bs.all id)) w
    | none => False
  | _ => False
def fAny : FB := fun ds w k => match ds with
  | [.lst xs] => match allBl xs with
    | some bs => k (.bl (bs.any id)) w
    | none => False
  | _ => False
theorem ok_all {K : PySem.W.Frag} : CallOk K (rAll K) fAll := by
  intro G S H w xs ds k Q hr rx kl h
  unfold fAll at h
  split at h
  · split at h
    · rename_i bs e
      obtain ⟨v, rfl, r⟩ := one_rep rx
      cases r with
      | lst h1 r1 =>
        have e2 := rep_bls r1 e
        subst e2
        exact ⟨_, bs, rfl, .inl (.inl (hr.same _ _ h1)), kl.here hr (.bl _) h⟩
    · exact h.elim
  · exact h.elim
def fSum : FB := fun ds w k => match ds with
  | [.lst xs] => match allInt xs with
    | some bs => k (.int bs.sum) w
    | none => False
  | _ => False
def fList : FB := fun ds w k => match ds with
  | [d] => match seqD d w with
    | some xs => k (.lst xs) w
    | none => False
  | _ => False
def fTuple : FB := fun ds w k => match ds with
  | [d] => match seqD d w with
    | some xs => k (.tup xs) w
    | none => False
  | _ => False
theorem ok_list {K : PySem.W.Frag} : CallOk K (fun xs H Q => ∃ p ys, xs = [.ref p] ∧ (SqL K H p ys ∨ SqT K H p ys) ∧ ∀ l, H l = none → Q (.ref l) (upd H l (.lst ys))) fList := by
  intro G S H w xs ds k Q hr rx kl h
  unfold fList at h
  split at h
  · split at h
    · rename_i bs e
      obtain ⟨v, rfl, r⟩ := one_rep rx
      obtain ⟨a, ys, rfl, hs, r2⟩ := rep_seq hr r e
      exact ⟨_, ys, rfl, hs, kl.newL hr r2 h⟩
    · exact h.elim
  · exact h.elim
theorem ok_tuple {K : PySem.W.Frag} : CallOk K (fun xs H Q => ∃ p ys, xs = [.ref p] ∧ ((SqL K H p ys ∧ ∀ l, H l = none → Q (.ref l) (upd H l (.tup ys))) ∨ (SqT K H p ys ∧ Q (.ref p) H))) fTuple := by
  intro G S H w xs ds k Q hr rx kl h
  unfold fTuple at h
  split at h
  · rename_i d
    split at h
    · rename_i bs e
      obtain ⟨v, rfl, r⟩ := one_rep rx
      cases r with
      | lst e1 r =>
        cases e
        exact ⟨_, _, rfl, .inl ⟨.inl (.inl (hr.same _ _ e1)), kl.newT hr r h⟩⟩
      | tup e1 r =>
        cases e
        exact ⟨_, _, rfl, .inr ⟨sqT_up hr.same e1, kl.here hr (.tup e1 r) h⟩⟩
      | rf e1 =>
        unfold seqD at e
        simp only at e
        split at e
        · rename_i xs e2
          cases e
          obtain ⟨_, ys, h1, h2⟩ := hr.cell _ _ _ e1 e2
          exact ⟨_, _, rfl, .inl ⟨.inl (.inl h1), kl.newT hr h2 h⟩⟩
        · cases e
      | _ => cases e
    · exact h.elim
  · exact h.elim
def fInt : FB := fun ds w k => match ds with
  | [.int i] => k (.int i) w
  | [.bl b] => k (.int (if b then 1 else 0)) w
  | _ => False
theorem ok_int {K : PySem.W.Frag} : CallOk K (fun xs H Q => (∃ i, xs = [.int i] ∧ Q (.int i) H) ∨ ∃ k, xs = [.bl k] ∧ Q (.int (if k then 1 else 0)) H) fInt := by
  intro G S H w xs ds k Q hr rx kl h
  unfold fInt at h
  split at h
  · obtain ⟨v, rfl, r⟩ := one_rep rx
    cases r
    exact .inl ⟨_, rfl, kl.here hr (.int _) h⟩
  · obtain ⟨v, rfl, r⟩ := one_rep rx
    cases r
    exact .inr ⟨_, rfl, kl.here hr (.int _) h⟩
  · exact h.elim
def fMin2 : FB := fun ds w k => match ds with
  | [.int i, .int j] => k (.int (if j < i then j else i)) w
  | _ => False
theorem ok_min2 {K : PySem.W.Frag} : CallOk K (fun xs H Q => ∃ i j, xs = [.int i, .int j] ∧ Q (.int (if j < i then j else i)) H) fMin2 := by
  intro G S H w xs ds k Q hr rx kl h
  unfold fMin2 at h
  split at h
  · obtain ⟨v, u, rfl, r1, r2⟩ := two_rep rx
    cases r1
    cases r2
    exact ⟨_, _, rfl, kl.here hr (.int _) h⟩
  · exact h.elim
structure Blt (mg : Str → Option Value) : Prop where
  abs_ : mg "abs" = none
  len_ : mg "len" = none
  isi_ : mg "isinstance" = none
  all_ : mg "all" = none
  any_ : mg "any" = none
  sum_ : mg "sum" = none
  list_ : mg "list" = none
  tuple_ : mg "tuple" = none
  int_ : mg "int" = none
  bool_ : mg "bool" = none
  str_ : mg "str" = none
  min_ : mg "min" = none
  max_ : mg "max" = none
  range_ : mg "range" = none
  zip_ : mg "zip" = none
  sorted_ : mg "sorted" = none
  enum_ : mg "enumerate" = none
  divmod_ : mg "divmod" = none
section
variable {X : Cx} {E : XK} {e : Expr} {es : List Expr} {ga : GA} {p pos : Pos} (B : Blt X.mg)
include B
theorem de_abs (hg : Gl X "abs") (ha : DA X E (e :: es) ga) (he : starEach (e :: es) X.env = (false, eval e X.env) :: starEach es X.env := by rfl) (hpl : (backTo pos (starEach es X.env)).any (·.1) = false := by rfl) : DE X E (.Call (.Name "abs" p) (e :: es) [] pos) (gCB fAbs ga) := de_cb call_abs ok_abs hg B.abs_ (by decide +kernel) ha (he := he) (hpl := hpl)
theorem de_len (hg : Gl X "len") (ha : DA X E (e :: es) ga) (he : starEach (e :: es) X.env = (false, eval e X.env) :: starEach es X.env := by rfl) (hpl : (backTo pos (starEach es X.env)).any (·.1) = false := by rfl) : DE X E (.Call (.Name "len" p) (e :: es) [] pos) (gCB fLen ga) := de_cb call_lenR ok_len hg B.len_ (by decide +kernel) ha (he := he) (hpl := hpl)
theorem de_isi (hg : Gl X "isinstance") (ha : DA X E (e :: es) ga) (he : starEach (e :: es) X.env = (false, eval e X.env) :: starEach es X.env := by rfl) (hpl : (backTo pos (starEach es X.env)).any (·.1) = false := by rfl) : DE X E (.Call (.Name "isinstance" p) (e :: es) [] pos) (gCB fIsi ga) := de_cb call_isi ok_isi hg B.isi_ (by decide +kernel) ha (he := he) (hpl := hpl)
theorem de_all (hc : X.calm = true) (hg : Gl X "all") (ha : DA X E (e :: es) ga) (he : starEach (e :: es) X.env = (false, eval e X.env) :: starEach es X.env := by rfl) (hpl : (backTo pos (starEach es X.env)).any (·.1) = false := by rfl) : DE X E (.Call (.Name "all" p) (e :: es) [] pos) (gCB fAll ga) := de_cb (cr_all hc) ok_all hg B.all_ (by decide +kernel) ha (he := he) (hpl := hpl)
theorem de_list (hg : Gl X "list") (ha : DA X E (e :: es) ga) (he : starEach (e :: es) X.env = (false, eval e X.env) :: starEach es X.env := by rfl) (hpl : (backTo pos (starEach es X.env)).any (·.1) = false := by rfl) : DE X E (.Call (.Name "list" p) (e :: es) [] pos) (gCB fList ga) := de_ct call_list_of ok_list hg B.list_ (by decide +kernel) ha (he := he) (hpl := hpl)
theorem de_tuple (hg : Gl X "tuple") (ha : DA X E (e :: es) ga) (he : starEach (e :: es) X.env = (false, eval e X.env) :: starEach es X.env := by rfl) (hpl : (backTo pos (starEach es X.env)).any (·.1) = false := by rfl) : DE X E (.Call (.Name "tuple" p) (e :: es) [] pos) (gCB fTuple ga) := de_ct call_tuple_of ok_tuple hg B.tuple_ (by decide +kernel) ha (he := he) (hpl := hpl)
theorem de_toint (hg : Gl X "int") (ha : DA X E (e :: es) ga) (he : starEach (e :: es) X.env = (false, eval e X.env) :: starEach es X.env := by rfl) (hpl : (backTo pos (starEach es X.env)).any (·.1) = false := by rfl) : DE X E (.Call (.Name "int" p) (e :: es) [] pos) (gCB fInt ga) := de_ct call_int1 ok_int hg B.int_ (by decide +kernel) ha (he := he) (hpl := hpl)
theorem de_min2 (hc : X.calm = true) (hg : Gl X "min") (ha : DA X E (e :: es) ga) (he : starEach (e :: es) X.env = (false, eval e X.env) :: starEach es X.env := by rfl) (hpl : (backTo pos (starEach es X.env)).any (·.1) = false := by rfl) : DE X E (.Call (.Name "min" p) (e :: es) [] pos) (gCB fMin2 ga) := de_cb (call_min2 hc) ok_min2 hg B.min_ (by decide +kernel) ha (he := he) (hpl := hpl)
end
end DL

namespace DL
open PySem PySem.Spec PyProof.Rows L2

def gNext : GS := fun F ρ w => F.nx ρ w
def gSeq (t u : GS) : GS := fun F ρ w => t { F with nx := u F } ρ w
def gCut (t u : GS) : GS := fun F ρ w => ∃ M : Rho → Wd → Prop, t { F with nx := M } ρ w ∧ ∀ ρ w, M ρ w → u F ρ w
def gBreak : GS := fun F ρ w => F.bk ρ w
def gCont : GS := fun F ρ w => F.ct ρ w
def gDrop (g : GE) : GS := fun F ρ w => g ρ w F.ex fun _ w1 => F.nx ρ w1
def gRet (g : GE) : GS := fun F ρ w => g ρ w F.ex F.rt
def gRetN : GS := fun F _ w => F.rt .non w
def gIfS (c : GT) (t u : GS) : GS := fun F ρ w => c ρ w F.ex fun b w1 => if b = true then t F ρ w1 else u F ρ w1
def gNever : GS := fun _ _ _ => False
section
variable {X : Cx} {E : XK} {st : Stmt} {rest : List Stmt} {t u : GS} {e : Expr} {g : GE} {pos : Pos}
theorem el_seq {K : PySem.W.Frag} {G : Gh} {S : Hp} {F : DEnds} {D : Ends} (el : EL K G S E F D) (u : GS) : EL K G S E { F with nx := u F } { D with nx := upS K E u D } :=
  ⟨fun G1 S1 H1 w1 ρ1 σ1 x1 hr1 sr1 h1 => ⟨G1, S1, ρ1, w1, F, hr1, sr1, el.mono x1, h1⟩, el.rt, el.bk, el.ct, el.ex⟩
theorem dss_nil : DSs X E [] gNext := pss_imp pss_nil (by
  rintro D σ H ⟨G, S, ρ, w, F, hr, sr, el, h⟩
  exact el.nx _ _ _ _ _ _ (Ext.refl _ _) hr sr h)
theorem dss_cons (h1 : DS X E st t) (h2 : DSs X E rest u) : DSs X E (st :: rest) (gSeq t u) := pss_imp (pss_cons h1 h2) (by
  rintro D σ H ⟨G, S, ρ, w, F, hr, sr, el, h⟩
  exact ⟨G, S, ρ, w, { F with nx := u F }, hr, sr, el_seq el u, h⟩)
theorem dss_cut (h1 : DS X E st t) (h2 : DSs X E rest u) : DSs X E (st :: rest) (gCut t u) := pss_imp (pss_cons h1 h2) (by
  rintro D σ H ⟨G, S, ρ, w, F, hr, sr, el, M, h, hM⟩
  exact ⟨G, S, ρ, w, { F with nx := M }, hr, sr, ⟨fun G1 S1 H1 w1 ρ1 σ1 x1 hr1 sr1 h1 => ⟨G1, S1, ρ1, w1, F, hr1, sr1, el.mono x1, hM _ _ h1⟩, el.rt, el.bk, el.ct, el.ex⟩, h⟩)
theorem dss_one (h1 : DS X E st t) : DSs X E [st] t := pss_one h1
theorem ds_expr (he : DE X E e g) (hs : swapsWith e none pos.line X.env = pure false := by rfl) : DS X E (.Expr e pos) (gDrop g) := ps_imp (ps_expr he hs) (by
  rintro D σ H ⟨G, S, ρ, w, F, hr, sr, el, h⟩
  exact ⟨G, S, ρ, w, F.ex, _, hr, sr, el.ex, fun G1 S1 H1 w1 d v x1 hr1 _ h1 => el.nx _ _ _ _ _ _ x1 hr1 (sr.mono x1) h1, h⟩)
theorem ds_ret (he : DE X E e g) : DS X E (.Return (some e) pos) (gRet g) := ps_imp (ps_ret he) (by
  rintro D σ H ⟨G, S, ρ, w, F, hr, sr, el, h⟩
  exact ⟨G, S, ρ, w, F.ex, F.rt, hr, sr, el.ex, el.rt, h⟩)
theorem ds_if {c : Expr} {a b : List Stmt} {tc : GT} (hc : DT X E c tc) (ha : DSs X E a t) (hb : DSs X E b u) : DS X E (.If c a b pos) (gIfS tc t u) := ps_imp (ps_if hc ha hb) (by
  rintro D σ H ⟨G, S, ρ, w, F, hr, sr, el, h⟩
  refine ⟨G, S, ρ, w, F.ex, _, hr, sr, el.ex, fun G1 S1 H1 w1 c x1 hr1 h1 => ?_, h⟩
  cases c with
  | true => exact iteT ⟨G1, S1, ρ, w1, F, hr1, sr.mono x1, el.mono x1, by simpa using h1⟩
  | false => exact iteF ⟨G1, S1, ρ, w1, F, hr1, sr.mono x1, el.mono x1, by simpa using h1⟩)
end

abbrev GG := D → Rho → Wd → (Rho → Wd → Prop) → Prop
abbrev GGs := List D → Rho → Wd → (Rho → Wd → Prop) → Prop
def OffOk (vs : List Nat) (σ σ' : L2.St) : Prop := σ'.length = σ.length ∧ ∀ i, i ∉ vs → σ'[i]? = σ[i]?
def NLv (K : PySem.W.Frag) (G : Gh) (S : Hp) (vs : List Nat) (σ : L2.St) (k : Rho → Wd → Prop) (Q : L2.St → Hp → Prop) : Prop := ∀ G' S' H' w' ρ' σ', Ext G S G' S' → HR K G' S' w' H' → SR K G' S' σ' ρ' → OffOk vs σ σ' → k ρ' w' → Q σ' H'
def upG (K : PySem.W.Frag) (vs : List Nat) (g : GG) : TG := fun v σ H Q => ∃ G S ρ w d k, HR K G S w H ∧ SR K G S σ ρ ∧ Rep K G S v d ∧ NLv K G S vs σ k Q ∧ g d ρ w k
def upGs (K : PySem.W.Frag) (vs : List Nat) (g : GGs) : TGs := fun v σ H Q => ∃ G S ρ w d k, HR K G S w H ∧ SR K G S σ ρ ∧ RepAll K G S v d ∧ NLv K G S vs σ k Q ∧ g d ρ w k
def DG (X : Cx) (vs : List Nat) (e : Expr) (g : GG) : Prop := PG X e (upG X.K vs g)
def DGs (X : Cx) (vs : List Nat) (e : List Expr) (g : GGs) : Prop := PGs X e (upGs X.K vs g)
def ggName (i : Nat) : GG := fun d ρ w k => k (ρ.set i (some d)) w
def ggNil : GGs := fun ds ρ w k => ds = [] ∧ k ρ w
def ggCons (t : GG) (u : GGs) : GGs := fun ds ρ w k => match ds with
  | d :: r => t d ρ w fun ρ1 w1 => u r ρ1 w1 k
  | [] => False
def ggTup (n : Nat) (t : GGs) : GG := fun d ρ w k => match d with
  | .tup ds => ds.length = n ∧ t ds ρ w k
  | _ => False
section
variable {X : Cx} {E : XK} {pos : Pos}
theorem pg_imp {e : Expr} {t t' : TG} (h : PG X e t) (i : ∀ v σ H Q, t' v σ H Q → t v σ H Q) : PG X e t' := ⟨fun pins s σ H v u Q I r q => h.run pins s σ H v u Q I r (i _ _ _ _ q)⟩
theorem pgs_imp {e : List Expr} {t t' : TGs} (h : PGs X e t) (i : ∀ v σ H Q, t' v σ H Q → t v σ H Q) : PGs X e t' := ⟨fun pins s σ H v u Q I r q => h.run pins s σ H v u Q I r (i _ _ _ _ q)⟩
theorem dg_name {i : Nat} {x : Str} (hN : X.N.Nodup) (hi : X.N[i]? = some x) (hx : Loc X.env.scope x) (hf : X.fn x = true ∨ X.env.scope.names.lookup x = some .local := by first | exact .inl rfl | exact .inr rfl | assumption) : DG X [i] (.Name x pos) (ggName i) := pg_imp (pg_name hN hi hx hf) (by
  rintro v σ H Q ⟨G, S, ρ, w, d, k, hr, sr, rp, nl, h⟩
  refine nl _ _ _ _ _ _ (Ext.refl _ _) hr (sr.set rp i) ⟨by simp, fun j hj => ?_⟩ h
  rw [List.getElem?_set_ne]
  simpa using fun z => hj (by simp [z]))
theorem dgs_nil : DGs X [] [] ggNil := pgs_imp pgs_nil (by
  rintro v σ H Q ⟨G, S, ρ, w, d, k, hr, sr, rp, nl, h⟩
  obtain ⟨e, h⟩ := h
  subst e
  cases rp
  exact ⟨rfl, nl _ _ _ _ _ _ (Ext.refl _ _) hr sr ⟨rfl, fun _ _ => rfl⟩ h⟩)
theorem dgs_cons {e : Expr} {es : List Expr} {vs us : List Nat} {t : GG} {u : GGs} (h1 : DG X vs e t) (h2 : DGs X us es u)
    (hs : (assignEach (e :: es) X.env).map (·.2) = assign e X.env :: (assignEach es X.env).map (·.2) := by rfl) : DGs X (vs ++ us) (e :: es) (ggCons t u) := pgs_imp (pgs_cons h1 h2 hs) (by
  rintro v σ H Q ⟨G, S, ρ, w, d, k, hr, sr, rp, nl, h⟩
  cases rp with
  | nil => exact h.elim
  | cons r0 rr =>
    refine ⟨_, _, rfl, G, S, ρ, w, _, _, hr, sr, r0, fun G1 S1 H1 w1 ρ1 σ1 x1 hr1 sr1 off1 h1 => ⟨G1, S1, ρ1, w1, _, k, hr1, sr1, rr.mono x1, fun G2 S2 H2 w2 ρ2 σ2 x2 hr2 sr2 off2 h2 => nl _ _ _ _ _ _ (x1.trans x2) hr2 sr2 ⟨off2.1.trans off1.1, fun i hi => ?_⟩ h2, h1⟩, h⟩
    rw [List.mem_append, not_or] at hi
    exact (off2.2 i hi.2).trans (off1.2 i hi.1))
theorem dg_tup {es : List Expr} {j : Nat} {t : GGs} {vs : List Nat} {n : Nat} (hc : X.calm = true) (h : DGs X vs es t)
    (hn : (assignEach es X.env).length = n := by rfl) (hst : (assignEach es X.env).findIdx? (·.1) = none := by rfl) : DG X vs (.Tuple es j pos) (ggTup n t) := pg_imp (pg_tup hc h hn hst) (by
  rintro v σ H Q ⟨G, S, ρ, w, d, k, hr, sr, rp, nl, h⟩
  cases rp with
  | tup e r => exact ⟨_, _, rfl, (sqT_up hr.same e), by rw [r.length]; exact h.1, G, S, ρ, w, _, k, hr, sr, r, nl, h.2⟩
  | _ => exact h.elim)
def gAsg (ge : GE) (g : GG) : GS := fun F ρ w => ge ρ w F.ex fun d w1 => g d ρ w1 F.nx
theorem asg_up {K : PySem.W.Frag} {vs : List Nat} {ge : GE} {g : GG} : ∀ D σ H, upS K E (gAsg ge g) D σ H → tAsg (upE K E ge) (upG K vs g) D σ H := by
  rintro D σ H ⟨G, S, ρ, w, F, hr, sr, el, h⟩
  exact ⟨G, S, ρ, w, F.ex, _, hr, sr, el.ex, fun G1 S1 H1 w1 d v x1 hr1 rp h1 => ⟨G1, S1, ρ, w1, d, F.nx, hr1, sr.mono x1, rp, fun G2 S2 H2 w2 ρ2 σ2 x2 hr2 sr2 _ h2 => el.nx _ _ _ _ _ _ (x1.trans x2) hr2 sr2 h2, h1⟩, h⟩
theorem ds_asg {tg e : Expr} {vs : List Nat} {ge : GE} {g : GG} (he : DE X E e ge) (hg : DG X vs tg g) (hs : swapsWithSole [tg] e pos.line X.env = pure false := by rfl) (hw : swappedStores [tg] e X.env = pure none := by rfl)
    (h1 : (assignEach [tg] X.env).map (·.2) = [assign tg X.env] := by rfl) : DS X E (.Assign [tg] e pos) (gAsg ge g) := ps_imp (ps_asg he hg hs hw h1) asg_up
def gSet (i : Nat) (ge : GE) : GS := fun F ρ w => ge ρ w F.ex fun d w1 => F.nx (ρ.set i (some d)) w1
theorem set_up {K : PySem.W.Frag} {i : Nat} {ge : GE} : ∀ D σ H, upS K E (gSet i ge) D σ H → tAsg (upE K E ge) (gName i) D σ H := by
  rintro D σ H ⟨G, S, ρ, w, F, hr, sr, el, h⟩
  exact ⟨G, S, ρ, w, F.ex, _, hr, sr, el.ex, fun G1 S1 H1 w1 d v x1 hr1 rp h1 => el.nx _ _ _ _ _ _ x1 hr1 ((sr.mono x1).set rp i) h1, h⟩
theorem ds_set {i : Nat} {x : Str} {e : Expr} {ge : GE} {pos' : Pos} (hN : X.N.Nodup) (hi : X.N[i]? = some x) (hx : Loc X.env.scope x) (he : DE X E e ge) (hs : swapsWith e (some (.Name x pos')) pos.line X.env = pure false := by rfl) (hf : X.fn x = true ∨ X.env.scope.names.lookup x = some .local := by first | exact .inl rfl | exact .inr rfl | assumption) :
    DS X E (.Assign [.Name x pos'] e pos) (gSet i ge) := ps_imp (ps_set hN hi hx he hs hf) set_up
def gPar (i j : Nat) (ga : GA) : GS := fun F ρ w => ga ρ w F.ex fun ds w1 => match ds with
  | [d, e] => F.nx ((ρ.set i (some d)).set j (some e)) w1
  | _ => False
theorem ds_par {i j : Nat} {x y : Str} {a b : Expr} {ga : GA} {px py pt : Pos} {kt k2 pt2} (hc : X.calm = true) (hN : X.N.Nodup) (hi : X.N[i]? = some x) (hj : X.N[j]? = some y) (hij : i ≠ j)
    (hx : X.env.scope.names.lookup x = some .local) (hy : X.env.scope.names.lookup y = some .local) (ha : DA X E [a, b] ga)
    (hw : swappedStores [.Tuple [.Name x px, .Name y py] kt pt] (.Tuple [a, b] k2 pt2) X.env = pure (some [x, y]))
    (hs : swapsWithSole [.Tuple [.Name x px, .Name y py] kt pt] (.Tuple [a, b] k2 pt2) pos.line X.env = pure false := by rfl) :
    DS X E (.Assign [.Tuple [.Name x px, .Name y py] kt pt] (.Tuple [a, b] k2 pt2) pos) (gPar i j ga) := ps_imp (ps_par hc hN hi hj hij hx hy ha hw hs) (by
  rintro D σ H ⟨G, S, ρ, w, F, hr, sr, el, h⟩
  refine ⟨G, S, ρ, w, F.ex, _, hr, sr, el.ex, fun G1 S1 H1 w1 ds vs x1 hr1 rp h1 => ?_, h⟩
  split at h1
  · obtain ⟨v, u, rfl, r1, r2⟩ := two_rep rp
    exact ⟨v, u, rfl, el.nx _ _ _ _ _ _ x1 hr1 (((sr.mono x1).set r1 i).set r2 j) h1⟩
  · exact h1.elim)
def gAug (i : Nat) (ge : GE) (f : F2) : GS := fun F ρ w => match ρ[i]? with
  | some (some d) => ge ρ w F.ex fun e w1 => f d e w1 fun z w2 => F.nx (ρ.set i (some z)) w2
  | _ => False
def iaddD : F2 := fun x y w k => match x, y with
  | .int i, .int j => k (.int (i + j)) w
  | _, _ => False
end

def whileS (t : GT) (b : GS) (F : DEnds) (P : Nat → Rho → Wd → Prop) : Prop := ∀ m ρ w, P m ρ w → t ρ w F.ex fun c w1 => if c = true then b { F with nx := fun ρ' w' => ∃ m', m' < m ∧ P m' ρ' w', ct := fun ρ' w' => ∃ m', m' < m ∧ P m' ρ' w', bk := F.nx } ρ w1 else F.nx ρ w1
def gWhile (t : GT) (b : GS) : GS := fun F ρ w => ∃ P : Nat → Rho → Wd → Prop, (∃ m, P m ρ w) ∧ whileS t b F P
section
variable {X : Cx} {E : XK} {pos : Pos}
theorem ds_while {c : Expr} {body : List Stmt} {tc : GT} {tb : GS} (hp : PassesOwn (model X.prog X.w) X.A X.env X.xe) (hc : DT X E c tc) (hb : DSs X E body tb) : DS X E (.While c body [] pos) (gWhile tc tb) := ps_imp (ps_while hp hc hb) (by
  rintro D σ H ⟨G, S, ρ, w, F, hr, sr, el, P, ⟨n, h0⟩, hs⟩
  refine ⟨fun m σ' H' => ∃ G' S' ρ' w', HR X.K G' S' w' H' ∧ SR X.K G' S' σ' ρ' ∧ EL X.K G' S' E F D ∧ P m ρ' w', ⟨n, G, S, ρ, w, hr, sr, el, h0⟩, ?_⟩
  rintro m σ' H' ⟨G1, S1, ρ1, w1, hr1, sr1, el1, h1⟩
  refine ⟨G1, S1, ρ1, w1, F.ex, _, hr1, sr1, el1.ex, fun G2 S2 H2 w2 c x2 hr2 h2 => ?_, hs m ρ1 w1 h1⟩
  cases c with
  | false => exact iteF (el1.nx _ _ _ _ _ _ x2 hr2 (sr1.mono x2) (by simpa using h2))
  | true =>
    refine iteT ⟨fun σ' H' => ∃ m', m' < m ∧ ∃ G' S' ρ' w', HR X.K G' S' w' H' ∧ SR X.K G' S' σ' ρ' ∧ EL X.K G' S' E F D ∧ P m' ρ' w', fun σ3 H3 h3 => h3, ?_⟩
    refine ⟨G2, S2, ρ1, w2, { F with nx := fun ρ' w' => ∃ m', m' < m ∧ P m' ρ' w', ct := fun ρ' w' => ∃ m', m' < m ∧ P m' ρ' w', bk := F.nx }, hr2, sr1.mono x2, ⟨?_, (el1.mono x2).rt, (el1.mono x2).nx, ?_, (el1.mono x2).ex⟩, by simpa using h2⟩
    · rintro G3 S3 H3 w3 ρ3 σ3 x3 hr3 sr3 ⟨m', hm, h3⟩
      exact ⟨m', hm, G3, S3, ρ3, w3, hr3, sr3, (el1.mono x2).mono x3, h3⟩
    · rintro G3 S3 H3 w3 ρ3 σ3 x3 hr3 sr3 ⟨m', hm, h3⟩
      exact ⟨m', hm, G3, S3, ρ3, w3, hr3, sr3, (el1.mono x2).mono x3, h3⟩)
end

abbrev GI := Rho → Wd → KX → (List D → (Wd → Prop) → Wd → Prop) → Prop
def IterOk (K : PySem.W.Frag) (J : It) (items : List D) (Ok : Wd → Prop) (G : Gh) (S : Hp) : Prop := ∀ (i : Nat) G' S' w' H', Ext G S G' S' → HR K G' S' w' H' → Ok w' →
  (∀ d, items[i]? = some d → J.go i H' ∧ ∀ x H2, J.yld i H' x H2 → ∃ G2 S2, Ext G' S' G2 S2 ∧ HR K G2 S2 w' H2 ∧ Rep K G2 S2 x d) ∧ (items.length = i → J.stop i H')
theorem IterOk.mono {K : PySem.W.Frag} {J : It} {items : List D} {Ok : Wd → Prop} {G G' : Gh} {S S' : Hp} (x : Ext G S G' S') (h : IterOk K J items Ok G S) : IterOk K J items Ok G' S' := fun i G1 S1 w1 H1 x1 => h i G1 S1 w1 H1 (x.trans x1)
def upI (K : PySem.W.Frag) (E : XK) (g : GI) : TI := fun σ H R => ∃ G S ρ w kx k, HR K G S w H ∧ SR K G S σ ρ ∧ XL K G S kx E ∧
  (∀ G' S' H' w' items Ok J, Ext G S G' S' → HR K G' S' w' H' → IterOk K J items Ok G' S' → k items Ok w' → R J H') ∧ g ρ w kx k
def DI (X : Cx) (E : XK) (tg iter : Expr) (g : GI) : Prop := PI X tg iter (upI X.K E g)
def giSeq (ge : GE) : GI := fun ρ w kx k => ge ρ w kx fun d w1 => match d with
  | .lst xs => k xs (fun _ => True) w1
  | .tup xs => k xs (fun _ => True) w1
  | .rf c => match w1.M[c]? with
    | some (.lst xs) => k xs (fun w => w.M[c]? = some (.lst xs)) w1
    | _ => False
  | _ => False
def giRange1 (ga : GA) : GI := fun ρ w kx k => ga ρ w kx fun ds w1 => match ds with
  | [.int j] => (-(2 ^ 62) ≤ j ∧ j < 2 ^ 62) ∧ k ((List.range j.toNat).map fun (i : Nat) => .int (i : Int)) (fun _ => True) w1
  | _ => False
section
variable {X : Cx} {E : XK} {tg : Expr}
theorem pi_imp {e : Expr} {t t' : TI} (h : PI X tg e t) (i : ∀ σ H R, t' σ H R → t σ H R) : PI X tg e t' := ⟨fun pins s σ H R I q => h.run pins s σ H R I (i _ _ _ q)⟩
def iSq (K : PySem.W.Frag) (tl : TE) : TI := fun σ H R => tl σ H fun x H1 => ∃ a, x = .ref a ∧ (((∃ xs, SqL K H1 a xs) ∧ R (Itl K a) H1) ∨ ((∃ xs, SqT K H1 a xs) ∧ R (Itt K a) H1))
theorem pi_sq {l : Expr} {tl : TE} (hl : PE X l tl) : PI X tg l (iSq X.K tl) := by
  refine ⟨fun pins s σ H R I h => ?_⟩
  refine thn (hl.run pins s σ H _ I h) fun v s1 ⟨x, H1, I1, r1, q1⟩ => ?_
  obtain ⟨a, e, q1⟩ := q1
  subst e
  cases r1
  rcases q1 with ⟨⟨xs, hq⟩, q⟩ | ⟨⟨xs, hq⟩, q⟩
  · obtain ⟨its, rv, p, hz⟩ := I1.list hq
    refine wpAny_pyIter_list p.isList ?_
    refine ⟨s1.heap.objs.size, [s1.heap.objs.size], _, _, H1, rfl, I1.kept (t' := s1.toks) fun b o e => Heap.get?_push_of_some _ e, turn_list a _, ⟨_, Heap.get?_push_size _ rfl, rfl, rfl⟩, fun b hb => ?_, q⟩
    have e : b = s1.heap.objs.size := by simpa using hb
    subst e
    exact I1.fpOk (Nat.le_refl _) (I1.hok.fresh (Nat.le_refl _))
  · obtain ⟨its, rv, p, hz⟩ := I1.tuple hq
    refine wpAny_pyIter_tuple (show s1.heap.IsTuple a its.toArray from p) ?_
    refine ⟨s1.heap.objs.size, [s1.heap.objs.size], _, _, H1, rfl, I1.kept (t' := s1.toks) fun b o e => Heap.get?_push_of_some _ e, turn_tuple a _, ⟨_, Heap.get?_push_size _ rfl, rfl, rfl⟩, fun b hb => ?_, q⟩
    have e : b = s1.heap.objs.size := by simpa using hb
    subst e
    exact I1.fpOk (Nat.le_refl _) (I1.hok.fresh (Nat.le_refl _))
theorem iter_lst {K : PySem.W.Frag} {G : Gh} {S : Hp} {a : Addr} {xs : List V} {ds : List D} (e : S a = some (.lst xs)) (r : RepAll K G S xs ds) : IterOk K (Itl K a) ds (fun _ => True) G S := by
  intro i G1 S1 w1 H1 x1 hr1 _
  have q : SqL K H1 a xs := .inl (.inl (hr1.same _ _ (x1.same _ _ e)))
  refine ⟨fun d hd => ?_, fun hl => ⟨xs, q, by rw [r.length, hl]; exact Nat.le_refl _⟩⟩
  obtain ⟨v, h1, h2⟩ := r.get hd
  refine ⟨⟨xs, v, q, h1⟩, fun x H2 y => ?_⟩
  obtain ⟨rfl, y⟩ := y
  have := y xs q
  rw [h1] at this
  cases this
  exact ⟨G1, S1, Ext.refl _ _, hr1, h2.mono x1⟩
theorem iter_tup {K : PySem.W.Frag} {G : Gh} {S : Hp} {a : Addr} {xs : List V} {ds : List D} (e : SqT K S a xs) (r : RepAll K G S xs ds) : IterOk K (Itt K a) ds (fun _ => True) G S := by
  intro i G1 S1 w1 H1 x1 hr1 _
  have q : SqT K H1 a xs := sqT_up hr1.same (sqT_up x1.same e)
  refine ⟨fun d hd => ?_, fun hl => ⟨xs, q, by rw [r.length, hl]; exact Nat.le_refl _⟩⟩
  obtain ⟨v, h1, h2⟩ := r.get hd
  refine ⟨⟨xs, v, q, h1⟩, fun x H2 y => ?_⟩
  obtain ⟨rfl, y⟩ := y
  have := y xs q
  rw [h1] at this
  cases this
  exact ⟨G1, S1, Ext.refl _ _, hr1, h2.mono x1⟩
theorem iter_rf {K : PySem.W.Frag} {G : Gh} {S : Hp} {a : Addr} {c : Nat} {ds : List D} (e : G.al[c]? = some a) : IterOk K (Itl K a) ds (fun w => w.M[c]? = some (.lst ds)) G S := by
  intro i G1 S1 w1 H1 x1 hr1 hw
  obtain ⟨_, xs, h1, r⟩ := hr1.cell c a _ (x1.alGet e) hw
  have q : SqL K H1 a xs := .inl (.inl h1)
  refine ⟨fun d hd => ?_, fun hl => ⟨xs, q, by rw [r.length, hl]; exact Nat.le_refl _⟩⟩
  obtain ⟨v, h3, h2⟩ := r.get hd
  refine ⟨⟨xs, v, q, h3⟩, fun x H2 y => ?_⟩
  obtain ⟨rfl, y⟩ := y
  have := y xs q
  rw [h3] at this
  cases this
  exact ⟨G1, S1, Ext.refl _ _, hr1, h2⟩
theorem di_seq {l : Expr} {ge : GE} (hl : DE X E l ge) : DI X E tg l (giSeq ge) := pi_imp (pi_sq hl) (by
  rintro σ H R ⟨G, S, ρ, w, kx, k, hr, sr, xl, kl, h⟩
  refine ⟨G, S, ρ, w, kx, _, hr, sr, xl, fun G1 S1 H1 w1 d v x1 hr1 rp h1 => ?_, h⟩
  cases rp with
  | lst e r => exact ⟨_, rfl, .inl ⟨⟨_, .inl (.inl (hr1.same _ _ e))⟩, kl _ _ _ _ _ _ _ x1 hr1 (iter_lst e r) h1⟩⟩
  | tup e r => exact ⟨_, rfl, .inr ⟨⟨_, (sqT_up hr1.same e)⟩, kl _ _ _ _ _ _ _ x1 hr1 (iter_tup e r) h1⟩⟩
  | rf e =>
    simp only at h1
    split at h1
    · rename_i xs e2
      obtain ⟨_, ys, h3, h4⟩ := hr1.cell _ _ _ e e2
      exact ⟨_, rfl, .inl ⟨⟨_, .inl (.inl h3)⟩, kl _ _ _ _ _ _ _ x1 hr1 (iter_rf e) h1⟩⟩
    · exact h1.elim
  | _ => exact h1.elim)
theorem iter_rng {K : PySem.W.Frag} {G : Gh} {S : Hp} {n : Nat} : IterOk K (Itr 0 n) ((List.range n).map fun (i : Nat) => .int (i : Int)) (fun _ => True) G S := by
  intro i G1 S1 w1 H1 x1 hr1 _
  refine ⟨fun d hd => ?_, fun hl => ?_⟩
  · rw [List.getElem?_map] at hd
    cases q : (List.range n)[i]? with
    | none => rw [q] at hd; cases hd
    | some z =>
      rw [q] at hd
      have hd : D.int (z : Int) = d := by simpa using hd
      subst hd
      have hi := (List.getElem?_eq_some_iff.mp q).1
      have hz := (List.getElem?_eq_some_iff.mp q).2
      rw [List.length_range] at hi
      rw [List.getElem_range] at hz
      subst hz
      refine ⟨hi, fun x H2 y => ?_⟩
      obtain ⟨rfl, rfl⟩ := y
      rw [Int.zero_add]
      exact ⟨G1, S1, Ext.refl _ _, hr1, .int _⟩
  · rw [List.length_map, List.length_range] at hl
    exact Nat.le_of_eq hl
theorem di_range1 {a : Expr} {ga : GA} {p pos : Pos} (B : Blt X.mg) (hg : Gl X "range") (ha : DA X E [a] ga) (hs : starEach [a] X.env = [(false, eval a X.env)] := by rfl) : DI X E tg (.Call (.Name "range" p) [a] [] pos) (giRange1 ga) := pi_imp (pi_range1 hg B.range_ ha hs) (by
  rintro σ H R ⟨G, S, ρ, w, kx, k, hr, sr, xl, kl, h⟩
  refine ⟨G, S, ρ, w, kx, _, hr, sr, xl, fun G1 S1 H1 w1 ds vs x1 hr1 rp h1 => ?_, h⟩
  split at h1
  · rename_i j
    obtain ⟨v, rfl, r1⟩ := one_rep rp
    cases r1
    exact ⟨j, rfl, h1.1.1, h1.1.2, kl _ _ _ _ _ _ _ x1 hr1 iter_rng h1.2⟩
  · exact h1.elim)
end
end DL

namespace DL
open PySem PySem.Spec PyProof.Rows L2

structure ForS (gt : GG) (b : GS) (F : DEnds) (Ok : Wd → Prop) (P : List D → Rho → Wd → Prop) : Prop where
  done : ∀ ρ w, P [] ρ w → Ok w ∧ F.nx ρ w
  turn : ∀ x xs ρ w, P (x :: xs) ρ w → Ok w ∧ gt x ρ w fun ρ1 w1 => b { F with nx := P xs, ct := P xs, bk := F.nx } ρ1 w1
def gFor (gi : GI) (gt : GG) (b : GS) : GS := fun F ρ w => gi ρ w F.ex fun items Ok w1 => ∃ P : List D → Rho → Wd → Prop, P items ρ w1 ∧ ForS gt b F Ok P
def forD (gt : GG) (b : GS) (F : DEnds) (Ok : Wd → Prop) : List D → Rho → Wd → Prop
  | [], ρ, w => Ok w ∧ F.nx ρ w
  | x :: xs, ρ, w => Ok w ∧ gt x ρ w fun ρ1 w1 => b { F with nx := forD gt b F Ok xs, ct := forD gt b F Ok xs, bk := F.nx } ρ1 w1
section
variable {X : Cx} {E : XK} {pos : Pos}
theorem ds_for {tg iter : Expr} {body : List Stmt} {vs : List Nat} {gi : GI} {gt : GG} {gb : GS} (hp : PassesOwn (model X.prog X.w) X.A X.env X.xe) (hc : X.calm = true) (hi : DI X E tg iter gi) (hg : DG X vs tg gt) (hb : DSs X E body gb)
    (hs : ∀ x, foldedSetIterable iter X.env x = pure x := by intro _; rfl) : DS X E (.For tg iter body [] pos) (gFor gi gt gb) := ps_imp (ps_for hp hc hi hg hb hs) (by
  rintro D σ H ⟨G, S, ρ, w, F, hr, sr, el, h⟩
  refine ⟨G, S, ρ, w, F.ex, _, hr, sr, el.ex, fun G1 S1 H1 w1 items Ok J x1 hr1 it h1 => ?_, h⟩
  obtain ⟨P, h1, hP⟩ := h1
  refine ⟨fun i m σ' H' => m = items.length - i ∧ i ≤ items.length ∧ ∃ G' S' ρ' w', Ext G1 S1 G' S' ∧ HR X.K G' S' w' H' ∧ SR X.K G' S' σ' ρ' ∧ P (items.drop i) ρ' w', ⟨items.length, by simp, Nat.zero_le _, G1, S1, ρ, w1, Ext.refl _ _, hr1, sr.mono x1, h1⟩, ?_⟩
  rintro i m σ' H' ⟨rfl, hi, G2, S2, ρ2, w2, x2, hr2, sr2, h2⟩
  by_cases hlt : i < items.length
  · have e : items.drop i = items[i] :: items.drop (i + 1) := List.drop_eq_getElem_cons hlt
    rw [e] at h2
    obtain ⟨ok, h2⟩ := hP.turn _ _ _ _ h2
    obtain ⟨i1, _⟩ := it i G2 S2 w2 H' x2 hr2 ok
    obtain ⟨go, yld⟩ := i1 items[i] (List.getElem?_eq_getElem hlt)
    refine .inr ⟨go, fun σ3 H3 => ∃ G' S' ρ' w', Ext G1 S1 G' S' ∧ HR X.K G' S' w' H3 ∧ SR X.K G' S' σ3 ρ' ∧ P (items.drop (i + 1)) ρ' w', fun σ3 H3 h3 => ⟨items.length - (i + 1), by omega, rfl, hlt, h3⟩, fun x H3 y => ?_⟩
    obtain ⟨G3, S3, x3, hr3, rp⟩ := yld x H3 y
    refine ⟨G3, S3, ρ2, w2, items[i], _, hr3, sr2.mono x3, rp, fun G4 S4 H4 w4 ρ4 σ4 x4 hr4 sr4 _ h4 => ?_, h2⟩
    have x04 : Ext G S G4 S4 := x1.trans (x2.trans (x3.trans x4))
    refine ⟨G4, S4, ρ4, w4, { F with nx := P (items.drop (i + 1)), ct := P (items.drop (i + 1)), bk := F.nx }, hr4, sr4, ⟨?_, (el.mono x04).rt, (el.mono x04).nx, ?_, (el.mono x04).ex⟩, h4⟩
    · intro G5 S5 H5 w5 ρ5 σ5 x5 hr5 sr5 h5
      exact ⟨G5, S5, ρ5, w5, x2.trans (x3.trans (x4.trans x5)), hr5, sr5, h5⟩
    · intro G5 S5 H5 w5 ρ5 σ5 x5 hr5 sr5 h5
      exact ⟨G5, S5, ρ5, w5, x2.trans (x3.trans (x4.trans x5)), hr5, sr5, h5⟩
  · have e : i = items.length := by omega
    subst e
    rw [List.drop_length] at h2
    obtain ⟨ok, h2⟩ := hP.done _ _ h2
    obtain ⟨_, i2⟩ := it items.length G2 S2 w2 H' x2 hr2 ok
    exact .inl ⟨i2 rfl, el.nx _ _ _ _ _ _ (x1.trans x2) hr2 sr2 h2⟩)
end

def wipeR (ρ : Rho) : List Nat → Rho
  | [] => ρ
  | v :: vs => (wipeR ρ vs).set v none
def gYes : GT := fun _ w _ k => k true w
def DTs (X : Cx) (E : XK) (ifs : List Expr) (g : GT) : Prop := PTs X ifs (upT X.K E g)
structure LcS (gt : GG) (tt : GT) (ge : GE) (Ok : Wd → Prop) (ρ : Rho) (k : KD) (P : List D → List D → Wd → Prop) : Prop where
  done : ∀ acc w, P [] acc w → Ok w ∧ k (.lst acc) w
  turn : ∀ x xs acc w, P (x :: xs) acc w → Ok w ∧ gt x ρ w fun ρ1 w1 => tt ρ1 w1 noX fun b w2 => if b = true then ge ρ1 w2 noX fun y w3 => acc.length < sizeLine ∧ P xs (acc ++ [y]) w3 else P xs acc w2
def gLc (gi : GI) (gt : GG) (tt : GT) (ge : GE) (vs : List Nat) : GE := fun ρ w kx k => gi ρ w kx fun items Ok w1 => ∃ P : List D → List D → Wd → Prop, P items [] w1 ∧ LcS gt tt ge Ok (wipeR ρ vs) k P
def lcD (gt : GG) (tt : GT) (ge : GE) (Ok : Wd → Prop) (ρ : Rho) (k : KD) : List D → List D → Wd → Prop
  | [], acc, w => Ok w ∧ k (.lst acc) w
  | x :: xs, acc, w => Ok w ∧ gt x ρ w fun ρ1 w1 => tt ρ1 w1 noX fun b w2 => if b = true then ge ρ1 w2 noX fun y w3 => acc.length < sizeLine ∧ lcD gt tt ge Ok ρ k xs (acc ++ [y]) w3 else lcD gt tt ge Ok ρ k xs acc w2
section
variable {X : Cx} {E : XK} {pos : Pos}
theorem dts_nil : DTs X E [] gYes := by
  have h := pts_nil (X := X)
  refine ⟨fun pins s σ H Q I q => h.run pins s σ H Q I ?_⟩
  obtain ⟨G, S, ρ, w, kx, k, hr, sr, xl, kl, h⟩ := q
  exact kl _ _ _ _ _ (Ext.refl _ _) hr h
theorem dts_one {c : Expr} {t : GT} (h : DT X E c t) : DTs X E [c] t := pts_one h
theorem wipe_set {σ : L2.St} {ρ : Rho} {K : PySem.W.Frag} {G : Gh} {S : Hp} (sr : SR K G S σ ρ) (v : Nat) : SR K G S (σ.set v none) (ρ.set v none) := by
  refine ⟨by simp [sr.1], fun j e hj => ?_⟩
  by_cases hi : j = v
  · subst hi
    by_cases hl : j < ρ.length
    · rw [List.getElem?_set_self hl] at hj
      cases hj
    · rw [List.getElem?_eq_none (by simpa using hl)] at hj
      cases hj
  · rw [List.getElem?_set_ne (Ne.symm hi)] at hj
    obtain ⟨u, h1, h2⟩ := sr.2 j e hj
    exact ⟨u, by rw [List.getElem?_set_ne (Ne.symm hi)]; exact h1, h2⟩
theorem wipe_sr {σ : L2.St} {ρ : Rho} {K : PySem.W.Frag} {G : Gh} {S : Hp} (sr : SR K G S σ ρ) : ∀ vs : List Nat, SR K G S (wipe σ vs) (wipeR ρ vs)
  | [] => sr
  | v :: vs => wipe_set (wipe_sr sr vs) v
theorem wipe_get {σ : L2.St} : ∀ {vs : List Nat} {i : Nat}, (wipe σ vs)[i]? = if i ∈ vs then (if i < σ.length then some none else none) else σ[i]?
  | [], i => by simp [wipe]
  | v :: vs, i => by
    unfold wipe
    rw [List.getElem?_set]
    by_cases h : v = i
    · subst h
      simp [wipe_length]
    · rw [if_neg h, wipe_get]
      have : (i ∈ v :: vs) ↔ i ∈ vs := by
        simp only [List.mem_cons]
        exact ⟨fun z => z.elim (fun z => absurd z.symm h) id, .inr⟩
      simp only [this]
theorem wipe_off {σ σ2 : L2.St} {vs us : List Nat} (hu : ∀ i ∈ us, i ∈ vs) (h : OffOk us (wipe σ vs) σ2) : wipe σ2 vs = wipe σ vs := by
  refine List.ext_getElem? fun i => ?_
  rw [wipe_get, wipe_get]
  have hl : σ2.length = σ.length := by rw [h.1, wipe_length]
  by_cases hi : i ∈ vs
  · rw [if_pos hi, if_pos hi, hl]
  · rw [if_neg hi, if_neg hi, h.2 i (fun z => hi (hu i z)), wipe_get, if_neg hi]
theorem fr_ne {K : PySem.W.Frag} {G : Gh} {S H : Hp} {w : Wd} (hr : HR K G S w H) {Dl : Addr} (hD : H Dl = none) : ∀ q ∈ G.fr, q.1 ≠ Dl := hr.freshFr hD
theorem lc_go {K : PySem.W.Frag} {gi : GI} {gt : GG} {tt : GT} {ge : GE} {vs us : List Nat} (hu : ∀ i ∈ us, i ∈ vs) : ∀ σ H Q, upE K E (gLc gi gt tt ge vs) σ H Q → tLc (upI K E gi) (upG K us gt) (upT K E0 tt) (upE K E0 ge) vs σ H Q := by
  rintro σ H Q ⟨G, S, ρ, w, kx, k, hr, sr, xl, kl, h⟩
  refine ⟨G, S, ρ, w, kx, _, hr, sr, xl, fun G1 S1 H1 w1 items Ok J x1 hr1 it h1 Dl hD => ?_, h⟩
  obtain ⟨P, h1, hP⟩ := h1
  have hfr := fr_ne hr1 hD
  have sD := hr1.freshS hD
  -- the state between turns: the list so far stands apart
  refine ⟨fun i m H' => m = items.length - i ∧ i ≤ items.length ∧ ∃ (G' : Gh) (S' : Hp) (w' : Wd) (xs : List V) (acc : List D), Ext G1 S1 ⟨G'.al, G'.st, G1.fr⟩ S' ∧ (∀ q ∈ G1.fr, q ∈ G'.fr) ∧ (Dl, HO.lst xs) ∈ G'.fr ∧ HR K G' S' w' H' ∧ RepAll K G' S' xs acc ∧ P (items.drop i) acc w', ⟨items.length, ?_⟩, ?_⟩
  · obtain ⟨hr2, x2⟩ := hr1.push (o := .lst []) hD
    refine ⟨by simp, Nat.zero_le _, ⟨G1.al, G1.st, (Dl, .lst []) :: G1.fr⟩, S1, w1, [], [], ⟨⟨[], by simp⟩, fun _ z => z, fun _ z => z, Same.refl _⟩, fun q hq => List.mem_cons_of_mem _ hq, List.mem_cons_self, hr2, .nil, h1⟩
  rintro i m H' ⟨rfl, hi, G2, S2, w2, xs, acc, x2, f2, fD, hr2, ra, h2⟩
  have x12 : Ext G1 S1 G2 S2 := ⟨x2.al, x2.st, f2, x2.same⟩
  by_cases hlt : i < items.length
  · have e : items.drop i = items[i] :: items.drop (i + 1) := List.drop_eq_getElem_cons hlt
    rw [e] at h2
    obtain ⟨ok, h2⟩ := hP.turn _ _ _ _ h2
    obtain ⟨i1, _⟩ := it i G2 S2 w2 H' x12 hr2 ok
    obtain ⟨go, yld⟩ := i1 items[i] (List.getElem?_eq_getElem hlt)
    refine .inr ⟨go, fun H3 => ∃ (G' : Gh) (S' : Hp) (w' : Wd) (xs : List V) (acc : List D), Ext G1 S1 ⟨G'.al, G'.st, G1.fr⟩ S' ∧ (∀ q ∈ G1.fr, q ∈ G'.fr) ∧ (Dl, HO.lst xs) ∈ G'.fr ∧ HR K G' S' w' H3 ∧ RepAll K G' S' xs acc ∧ P (items.drop (i + 1)) acc w', fun H3 h3 => ⟨items.length - (i + 1), by omega, rfl, hlt, h3⟩, fun x H3 y => ?_⟩
    obtain ⟨G3, S3, x3, hr3, rp⟩ := yld x H3 y
    have x13 := x12.trans x3
    refine ⟨G3, S3, wipeR ρ vs, w2, items[i], _, hr3, (wipe_sr (sr.mono x1) vs).mono x13, rp, fun G4 S4 H4 w4 ρ4 σ4 x4 hr4 sr4 off4 h4 => ⟨wipe_off hu off4, ?_⟩, h2⟩
    have x24 : Ext G2 S2 G4 S4 := x3.trans x4
    refine ⟨G4, S4, ρ4, w4, noX, _, hr4, sr4, xl_no, fun G5 S5 H5 w5 b x5 hr5 h5 => ?_, h4⟩
    have x25 := x24.trans x5
    have x15 := x12.trans x25
    cases b with
    | false => exact iteF ⟨G5, S5, w5, xs, acc, ⟨x15.al, x15.st, fun _ z => z, x15.same⟩, x15.fr, x25.fr _ fD, hr5, ra.mono x25, by simpa using h5⟩
    | true =>
      refine iteT ⟨G5, S5, ρ4, w5, noX, _, hr5, sr4.mono x5, xl_no, fun G6 S6 H6 w6 d v x6 hr6 rp6 h6 => ?_, by simpa using h5⟩
      have x26 := x25.trans x6
      have x16 := x12.trans x26
      have ra6 := ra.mono x26
      have fD6 := x26.fr _ fD
      refine ⟨xs, (hr6.fr _ fD6).2.2, by rw [ra.length]; exact h6.1, ?_⟩
      have hp := hr6.poke (o' := .lst (xs ++ [v])) (fr := G1.fr) fD6 (fun q hq => ⟨x16.fr q hq, hfr q hq⟩)
      refine ⟨⟨G6.al, G6.st, (Dl, .lst (xs ++ [v])) :: G1.fr⟩, S6, w6, xs ++ [v], acc ++ [d], ⟨x16.al, x16.st, fun _ z => z, x16.same⟩, fun q hq => List.mem_cons_of_mem _ hq, List.mem_cons_self, hp, ?_, h6.2⟩
      exact (RepAll.refr ra6).append (.cons (Rep.refr rp6) .nil)
  · have e : i = items.length := by omega
    subst e
    rw [List.drop_length] at h2
    obtain ⟨ok, h2⟩ := hP.done _ _ h2
    obtain ⟨_, i2⟩ := it items.length G2 S2 w2 H' x12 hr2 ok
    refine .inl ⟨i2 rfl, ?_⟩
    -- the list is put among what stays
    obtain ⟨z1, z2, z3⟩ := hr2.fr _ fD
    have x3 : Ext G2 S2 G2 (upd S2 Dl (.lst xs)) := ⟨⟨[], by simp⟩, fun _ z => z, fun _ z => z, fun b u e => by rw [upd_ne (ne_of_none e z1)]; exact e⟩
    have x3' : Ext G1 S1 ⟨G2.al, G2.st, G1.fr⟩ (upd S2 Dl (.lst xs)) := ⟨x2.al, x2.st, fun _ z => z, fun b u e => x3.same _ _ (x2.same _ _ e)⟩
    refine kl _ _ _ _ _ _ (x1.trans x3') ⟨fun b u e => ?_, hr2.len, hr2.nod, fun j b c' f1 f2 => ?_, ⟨hr2.st.1, fun b c' e => ?_⟩, fun q hq => ?_⟩ (.lst upd_same (RepAll.refr (ra.mono x3))) h2
    · by_cases hb : b = Dl
      · subst hb
        rw [upd_same] at e
        cases e
        exact z3
      · rw [upd_ne hb] at e
        exact hr2.same _ _ e
    · have ne : b ≠ Dl := fun z => z2 (z ▸ List.mem_of_getElem? f1)
      have q := hr2.cell j b c' f1 f2
      have q2 := q.mono (H' := H') x3 rfl (by rw [upd_ne ne]; exact q.sNone)
      cases c' with
      | dead => exact q2
      | exc C => exact q2
      | exf C fs =>
        obtain ⟨n0, dx, gs, e3, e4, r⟩ := q2
        exact ⟨n0, dx, gs, e3, e4, Paired.mapP r fun p q z => ⟨z.1, Rep.refr z.2⟩⟩
      | tbl P q => exact q2
      | lk o ks kvs =>
        obtain ⟨n0, e3, r⟩ := q2
        exact ⟨n0, e3, Paired.mapP r fun p q z => ⟨z.1, Rep.refr z.2⟩⟩
      | lst ds =>
        obtain ⟨n0, ys, e3, r⟩ := q2
        exact ⟨n0, ys, e3, RepAll.refr r⟩
      | dk ds =>
        obtain ⟨n0, ys, e3, r⟩ := q2
        exact ⟨n0, ys, e3, Paired.mapP r fun p q z => ⟨z.1, Rep.refr z.2⟩⟩
      | ins C ds =>
        obtain ⟨n0, dx, ys, e3, r⟩ := q2
        exact ⟨n0, dx, ys, e3, Paired.mapP r fun p q z => ⟨z.1, Rep.refr z.2⟩⟩
    · obtain ⟨y1, y2, y3, y4, y5, y6, y7⟩ := hr2.st.2 b c' e
      obtain ⟨n1, n2⟩ := y6 _ fD
      exact ⟨by rw [upd_ne (Ne.symm n1)]; exact y1, by rw [upd_ne (Ne.symm n2)]; exact y2, y3, y4, y5, fun q hq => y6 q (f2 q hq), y7⟩
    · obtain ⟨y1, y2, y3⟩ := hr2.fr q (f2 q hq)
      exact ⟨by rw [upd_ne (hfr q hq)]; exact y1, y2, y3⟩
theorem de_lc {elt tg iter : Expr} {ifs : List Expr} {scope : Scope} {own : List (Str × Nat)} {us : List Nat} {gi : GI} {gt : GG} {tt : GT} {ge : GE} (hc : X.calm = true) (hN : X.N.Nodup) (hi : DI X E tg iter gi) (ok : BlkOk X.N X.env.scope scope own) (hu : ∀ i ∈ us, i ∈ own.map (·.2))
    (hg : ∀ (s : Shared) (H : Hp) (C : Addr) (cl : List (Str × Addr)) (fp : List Addr), DG (X.blk s H scope (compEnvC scope cl C X.env) fp) us tg gt) (ht : ∀ (s : Shared) (H : Hp) (C : Addr) (cl : List (Str × Addr)) (fp : List Addr), DTs (X.blk s H scope (compEnvC scope cl C X.env) fp) E0 ifs tt)
    (he : ∀ (s : Shared) (H : Hp) (C : Addr) (cl : List (Str × Addr)) (fp : List Addr), DE (X.blk s H scope (compEnvC scope cl C X.env) fp) E0 elt ge) (hs : ∀ x, foldedSetIterable iter X.env x = pure x := by intro _; rfl) :
    DE X E (.ListComp elt [⟨tg, iter, ifs, 0⟩] scope pos) (gLc gi gt tt ge (own.map (·.2))) := pe_imp (pe_lc (g := upG X.K us gt) (tt := upT X.K E0 tt) (te := upE X.K E0 ge) hc hN hi ok hg ht he hs) (lc_go hu)
theorem ds_setLc {i : Nat} {y : Str} {py spos : Pos} {elt tg iter : Expr} {ifs : List Expr} {scope : Scope} {own : List (Str × Nat)} {us : List Nat} {gi : GI} {gt : GG} {tt : GT} {ge : GE} (hc : X.calm = true) (hN : X.N.Nodup) (hy : X.N[i]? = some y) (hyl : X.env.scope.names.lookup y = some .local)
    (hsw : swapsWith (.ListComp elt [⟨tg, iter, ifs, 0⟩] scope pos) (some (.Name y py)) spos.line X.env = pure true) (hi : DI X E tg iter gi) (ok : BlkOk X.N X.env.scope scope own) (hu : ∀ i ∈ us, i ∈ own.map (·.2))
    (hg : ∀ (s : Shared) (H : Hp) (C : Addr) (cl : List (Str × Addr)) (fp : List Addr), DG (X.blk s H scope (compEnvC scope cl C X.env) fp) us tg gt) (ht : ∀ (s : Shared) (H : Hp) (C : Addr) (cl : List (Str × Addr)) (fp : List Addr), DTs (X.blk s H scope (compEnvC scope cl C X.env) fp) E0 ifs tt)
    (he : ∀ (s : Shared) (H : Hp) (C : Addr) (cl : List (Str × Addr)) (fp : List Addr), DE (X.blk s H scope (compEnvC scope cl C X.env) fp) E0 elt ge) (hs : ∀ x, foldedSetIterable iter X.env x = pure x := by intro _; rfl) :
    DS X E (.Assign [.Name y py] (.ListComp elt [⟨tg, iter, ifs, 0⟩] scope pos) spos) (gSet i (gLc gi gt tt ge (own.map (·.2)))) := ps_imp (ps_setLc (g := upG X.K us gt) (tt := upT X.K E0 tt) (te := upE X.K E0 ge) hc hN hy hyl hsw hi ok hg ht he hs) (by
  intro D σ H h
  obtain ⟨G, S, ρ, w, F, hr, sr, el, h⟩ := h
  exact lc_go hu σ H _ ⟨G, S, ρ, w, F.ex, fun d w1 => F.nx (ρ.set i (some d)) w1, hr, sr, el.ex, fun G1 S1 H1 w1 d v x1 hr1 rp h1 => el.nx _ _ _ _ _ _ x1 hr1 ((sr.mono x1).set rp i) h1, h⟩)
end
end DL

namespace DL
open PySem PySem.Spec PyProof.Rows L2

section
variable {K : PySem.W.Frag} {G : Gh} {S H : Hp} {w : Wd}
theorem hr_start : HR K ⟨[], none, []⟩ H ⟨[], none⟩ H := ⟨Same.refl H, rfl, List.nodup_nil, fun i a c e => (nomatch e), ⟨fun _ => rfl, fun a c e => (nomatch e)⟩, fun p hp => (nomatch hp)⟩
def gLaw : GF := fun ds w _ k => ∃ ns : List Int, ds = [.scr ns] ∧ ns.length ≤ 63 ∧ w = ⟨[], none⟩ ∧ ∀ w', k (.bl true) w'
theorem law_start {a : Addr} {ns : List Int} (hl : ns.length ≤ 63) (hS : SqL K H a (ns.map V.int)) : upF 1 K gLaw [.ref a] H (fun v _ => v = .bl true) fun _ _ _ => False :=
  ⟨⟨[], none, []⟩, H, [.scr ns], ⟨[], none⟩, noX, fun d _ => d = .bl true, rfl, hr_start, .cons (.scr hS) .nil, xl_no, fun _ _ _ _ d v _ _ r e => by
    subst e
    cases r
    rfl, ns, rfl, hl, rfl, fun _ => rfl⟩
def stKv (c : Addr) (t : Int) : List (Key × V) := [(.inr "cells", .ref c), (.inr "turn", .int t)]
theorem st_cells (c : Addr) (t : Int) : valV (stKv c t) (.inr "cells") = some (.ref c) := valV_pos rfl
theorem key_ne : ¬ ((Sum.inr ("cells" : Str) : Key) = Sum.inr ("turn" : Str)) := by decide +kernel
theorem st_turn (c : Addr) (t : Int) : valV (stKv c t) (.inr "turn") = some (.int t) := by
  unfold stKv
  rw [valV_neg key_ne, valV_pos rfl]
theorem st_put (c : Addr) (t u : Int) : putK (stKv c t) (.inr "turn") (.int u) = stKv c u := by
  have e : ((stKv c t).any fun kv => decide (kv.1 = (Sum.inr ("turn" : Str) : Key))) = true := by
    rw [valV_any, st_turn]
    rfl
  unfold putK
  rw [if_pos e]
  show [if (Sum.inr ("cells" : Str) : Key) = Sum.inr ("turn" : Str) then ((Sum.inr ("cells" : Str) : Key), V.int u) else (Sum.inr ("cells" : Str), V.ref c), if (Sum.inr ("turn" : Str) : Key) = Sum.inr ("turn" : Str) then ((Sum.inr ("turn" : Str) : Key), V.int u) else (Sum.inr ("turn" : Str), V.int t)] = stKv c u
  rw [if_neg key_ne, if_pos rfl]
  rfl
theorem HR.drawn (h : HR K G S w H) {a c : Addr} {n' : Nat} {cells : List Int} {turn : Int} {H' : Hp} (e : G.st = some (a, c)) (he : ∀ b, b ≠ a → b ≠ c → H' b = H b) (h1 : H' a = some (.dK (stKv c turn))) (h2 : H' c = some (.lst (cells.map V.int)))
    (h3 : cells ≠ []) (h4 : cells.length ≤ 63) (h5 : 0 ≤ turn) (h6 : turn + (n' : Nat) ≤ 1000000000) : HR K G S ⟨w.M, some n'⟩ H' := by
  obtain ⟨z1, z2, z3, z4, z5, z6, _⟩ := h.st.2 a c e
  refine ⟨fun b u q => ?_, h.len, h.nod, fun i b cc e1 e2 => ?_, ⟨fun z => (nomatch z), fun a' c' e' => ?_⟩, fun q hq => ?_⟩
  · rw [he b (ne_of_none q z1) (ne_of_none q z2)]
    exact h.same _ _ q
  · have q := h.cell i b cc e1 e2
    exact q.mono (Ext.refl _ _) (he b (fun z => z4 (z ▸ List.mem_of_getElem? e1)) (fun z => z5 (z ▸ List.mem_of_getElem? e1))) q.sNone
  · rw [e] at e'
    cases e'
    exact ⟨z1, z2, z3, z4, z5, z6, cells, turn, h1, h2, h3, h4, h5, h6⟩
  · obtain ⟨y1, y2, y3⟩ := h.fr q hq
    exact ⟨y1, y2, by rw [he _ (z6 q hq).1 (z6 q hq).2]; exact y3⟩
theorem HR.made (h : HR K G S w H) (hn : w.n = none) {c a : Addr} {cells : List Int} (hc : H c = some (.lst (cells.map V.int))) (nc : S c = none ∧ c ∉ G.al ∧ ∀ p ∈ G.fr, p.1 ≠ c) (ha : H a = some (.dK (stKv c 0))) (na : S a = none ∧ a ∉ G.al ∧ ∀ p ∈ G.fr, p.1 ≠ a) (hac : a ≠ c)
    (h3 : cells ≠ []) (h4 : cells.length ≤ 63) : HR K ⟨G.al, some (a, c), G.fr⟩ S ⟨w.M, some 1000000000⟩ H ∧ Ext G S ⟨G.al, some (a, c), G.fr⟩ S := by
  have x : Ext G S ⟨G.al, some (a, c), G.fr⟩ S := ⟨⟨[], by simp⟩, fun p z => (by rw [h.st.1 hn] at z; cases z), fun _ z => z, Same.refl S⟩
  refine ⟨⟨h.same, h.len, h.nod, fun i b cc e1 e2 => ?_, ⟨fun z => (nomatch z), fun a' c' e' => ?_⟩, h.fr⟩, x⟩
  · have q := h.cell i b cc e1 e2
    exact q.mono x rfl q.sNone
  · cases e'
    exact ⟨na.1, nc.1, hac, na.2.1, nc.2.1, fun p hp => ⟨na.2.2 p hp, nc.2.2 p hp⟩, cells, 0, ha, hc, h3, h4, by omega, by simp⟩
end
theorem lay_ints : ∀ l : List Int, PyData.canLayAll0 (l.map PyData.int) = true ∧ PyData.depthAll (l.map PyData.int) = 0
  | [] => ⟨rfl, rfl⟩
  | x :: r => by
    obtain ⟨h1, h2⟩ := lay_ints r
    refine ⟨?_, ?_⟩
    · simp [PyData.canLayAll0, PyData.canLay0, h1]
    · simp [PyData.depthAll, PyData.depth, h2]
theorem shaped_ints (l : List Int) : SeqAt.shaped (.list (l.map PyData.int)) = true := by
  obtain ⟨h1, h2⟩ := lay_ints l
  unfold SeqAt.shaped
  simp [PyData.canLay0, PyData.depth, h1, h2]
def gTake : GF := fun ds w _ k => ∃ (m : Int) (n : Nat), ds = [.st, .int m] ∧ (0 < m ∧ m.natAbs.log2 < 9000) ∧ w.n = some (n + 1) ∧ ∀ r, 0 ≤ r → r < m → k (.int r) ⟨w.M, some n⟩
def gBegin : GF := fun ds w _ k => ∃ ns : List Int, ds = [.scr ns] ∧ w.n = none ∧ k .st ⟨w.M, some 1000000000⟩
end DL

namespace DL
open PySem PySem.Spec PyProof.Rows L2
section
variable {w : Wd} {k : KD} {kb : KB} {i j : Int} {s t : Str} {b : Bool} {xs ys : List D} {d e : D} {n : String}
theorem addD_i : addD (.int i) (.int j) w k = k (.int (i + j)) w := rfl
theorem addD_s : addD (.str s) (.str t) w k = (s.length + t.length ≤ sizeLine ∧ k (.str (s ++ t)) w) := rfl
theorem addD_l : addD (.lst xs) (.lst ys) w k = (xs.length + ys.length ≤ sizeLine ∧ k (.lst (xs ++ ys)) w) := rfl
theorem addD_t : addD (.tup xs) (.tup ys) w k = (xs ≠ [] ∧ xs.length + ys.length ≤ sizeLine ∧ k (.tup (xs ++ ys)) w) := rfl
theorem subD_i : subD (.int i) (.int j) w k = k (.int (i - j)) w := rfl
theorem mulD_i : mulD (.int i) (.int j) w k = (CMulX i j ∧ k (.int (i * j)) w) := rfl
theorem mulD_l : mulD (.lst xs) (.int j) w k = (-(2 ^ 63) ≤ j ∧ j < 2 ^ 63 ∧ xs.length * j.toNat ≤ sizeLine ∧ k (.lst (List.replicate j.toNat xs).flatten) w) := rfl
theorem fdivD_i : fdivD (.int i) (.int j) w k = ((j ≠ 0 ∧ j.natAbs.log2 < 9000) ∧ k (.int (i.fdiv j)) w) := rfl
theorem modD_i : modD (.int i) (.int j) w k = (j ≠ 0 ∧ k (.int (i.fmod j)) w) := rfl
theorem powD_i : powD (.int i) (.int j) w k = (CPow i j ∧ k (.int (i ^ j.toNat)) w) := rfl
theorem ltD_i : ltD (.int i) (.int j) w k = k (.bl (decide (i < j))) w := rfl
theorem ltD_s : ltD (.str s) (.str t) w k = k (.bl (decide (s.cps.toList < t.cps.toList))) w := rfl
theorem leD_i : leD (.int i) (.int j) w k = k (.bl (decide (i ≤ j))) w := rfl
theorem gtD_i : gtD (.int i) (.int j) w k = k (.bl (decide (j < i))) w := rfl
theorem geD_i : geD (.int i) (.int j) w k = k (.bl (decide (j ≤ i))) w := rfl
theorem isD_n : isD d .non w k = k (.bl (isNonD d)) w := rfl
theorem isnotD_n : isnotD d .non w k = k (.bl (!isNonD d)) w := rfl
theorem isNonD_non : isNonD .non = true := rfl
theorem isNonD_bl : isNonD (.bl b) = false := rfl
theorem isNonD_int : isNonD (.int i) = false := rfl
theorem isNonD_str : isNonD (.str s) = false := rfl
theorem isNonD_lst : isNonD (.lst xs) = false := rfl
theorem isNonD_tup : isNonD (.tup xs) = false := rfl
theorem negD_i : negD (.int i) w k = k (.int (-i)) w := rfl
theorem iaddD_i : iaddD (.int i) (.int j) w k = k (.int (i + j)) w := rfl
theorem truD_non : truD .non w kb = kb false w := rfl
theorem truD_bl : truD (.bl b) w kb = kb b w := rfl
theorem truD_int : truD (.int i) w kb = kb (i != 0) w := rfl
theorem truD_str : truD (.str s) w kb = (s.length ≤ sizeLine ∧ kb ((s.length : Int) != 0) w) := rfl
theorem truD_lst : truD (.lst xs) w kb = kb (!xs.isEmpty) w := rfl
theorem truD_tup : truD (.tup xs) w kb = kb (!xs.isEmpty) w := rfl
def someK (o : Option D) (f : D → Prop) : Prop := match o with
  | some d => f d
  | none => False
theorem someK_some {f : D → Prop} : someK (some d) f = f d := rfl
theorem ixD_l : ixD (.lst xs) (.int i) w k = someK (atI xs i) (fun d => k d w) := rfl
theorem ixD_t : ixD (.tup xs) (.int i) w k = someK (atI xs i) (fun d => k d w) := rfl
theorem fAbs_i : fAbs [.int i] w k = k (.int i.natAbs) w := rfl
theorem fInt_i : fInt [.int i] w k = k (.int i) w := rfl
theorem fInt_b : fInt [.bl b] w k = k (.int (if b then 1 else 0)) w := rfl
theorem fMin2_i : fMin2 [.int i, .int j] w k = k (.int (if j < i then j else i)) w := rfl
theorem fLen_l : fLen [.lst xs] w k = k (.int xs.length) w := rfl
theorem fLen_t : fLen [.tup xs] w k = k (.int xs.length) w := rfl
theorem fLen_s : fLen [.str s] w k = (s.length ≤ sizeLine ∧ k (.int s.length) w) := rfl
theorem fList_l : fList [.lst xs] w k = k (.lst xs) w := rfl
theorem fList_t : fList [.tup xs] w k = k (.lst xs) w := rfl
theorem fTuple_l : fTuple [.lst xs] w k = k (.tup xs) w := rfl
theorem fTuple_t : fTuple [.tup xs] w k = k (.tup xs) w := rfl
def optBK (o : Option Bool) (f : Bool → Prop) : Prop := match o with
  | some d => f d
  | none => False
theorem optBK_some {f : Bool → Prop} : optBK (some b) f = f b := rfl
theorem fIsi_non : fIsi [.non, .ob (.ty n)] w k = optBK (kitB "NoneType" n) (fun b => k (.bl b) w) := rfl
theorem fIsi_bl : fIsi [.bl b, .ob (.ty n)] w k = optBK (kitB "bool" n) (fun b => k (.bl b) w) := rfl
theorem fIsi_int : fIsi [.int i, .ob (.ty n)] w k = optBK (kitB "int" n) (fun b => k (.bl b) w) := rfl
theorem fIsi_str : fIsi [.str s, .ob (.ty n)] w k = optBK (kitB "str" n) (fun b => k (.bl b) w) := rfl
theorem fIsi_lst : fIsi [.lst xs, .ob (.ty n)] w k = optBK (kitB "list" n) (fun b => k (.bl b) w) := rfl
theorem fIsi_tup : fIsi [.tup xs, .ob (.ty n)] w k = optBK (kitB "tuple" n) (fun b => k (.bl b) w) := rfl
end
theorem ggTup2 {a b : D} {t : GGs} {r : Rho} {w : Wd} {k : Rho → Wd → Prop} : DL.ggTup 2 t (.tup [a, b]) r w k = t [a, b] r w k := by
  show (2 = 2 ∧ t [a, b] r w k) = _
  simp
theorem ggTup3 {a b c : D} {t : GGs} {r : Rho} {w : Wd} {k : Rho → Wd → Prop} : DL.ggTup 3 t (.tup [a, b, c]) r w k = t [a, b, c] r w k := by
  show (3 = 3 ∧ t [a, b, c] r w k) = _
  simp
theorem ggNil0 {r : Rho} {w : Wd} {k : Rho → Wd → Prop} : DL.ggNil [] r w k = k r w := by
  show ([] = [] ∧ k r w) = _
  simp
theorem ggCons1 {d : D} {ds : List D} {t : GG} {u : GGs} {r : Rho} {w : Wd} {k : Rho → Wd → Prop} : DL.ggCons t u (d :: ds) r w k = t d r w fun r1 w1 => u ds r1 w1 k := rfl
section
variable {w : Wd} {k : KD} {i j a b c d : Int} {s t : Str}
theorem eqD_i : eqD (.int i) (.int j) w k = k (.bl (decide (i = j))) w := by
  simp [eqD, eqD0, toPD, SeqAt.shaped, PyData.canLay0, PyData.depth, PyData.eqv, Bool.beq_eq_decide_eq]
theorem neD_i : neD (.int i) (.int j) w k = k (.bl (!decide (i = j))) w := by
  simp [neD, neD0, toPD, SeqAt.shaped, PyData.canLay0, PyData.depth, PyData.eqv, Bool.beq_eq_decide_eq]
theorem eqD_s : eqD (.str s) (.str t) w k = k (.bl (decide (s = t))) w := rfl
theorem neD_s : neD (.str s) (.str t) w k = k (.bl (!decide (s = t))) w := rfl
theorem eqD_b {p q : Bool} : eqD (.bl p) (.bl q) w k = k (.bl (decide (p = q))) w := by
  simp [eqD, eqD0, toPD, SeqAt.shaped, PyData.canLay0, PyData.depth, PyData.eqv, Bool.beq_eq_decide_eq]
theorem neD_b {p q : Bool} : neD (.bl p) (.bl q) w k = k (.bl (!decide (p = q))) w := by
  simp [neD, neD0, toPD, SeqAt.shaped, PyData.canLay0, PyData.depth, PyData.eqv, Bool.beq_eq_decide_eq]
theorem eqD_f : eqD (.tup [.int a, .int b]) (.tup [.int c, .int d]) w k = k (.bl (decide (a = c ∧ b = d))) w := by
  simp [eqD, eqD0, toPD, toPDs, SeqAt.shaped, PyData.canLay0, PyData.canLayAll0, PyData.depth, PyData.depthAll, PyData.eqv, PyData.eqvAll, Bool.beq_eq_decide_eq]
theorem neD_f : neD (.tup [.int a, .int b]) (.tup [.int c, .int d]) w k = k (.bl (!decide (a = c ∧ b = d))) w := by
  simp [neD, neD0, toPD, toPDs, SeqAt.shaped, PyData.canLay0, PyData.canLayAll0, PyData.depth, PyData.depthAll, PyData.eqv, PyData.eqvAll, Bool.beq_eq_decide_eq]
end
theorem nc0 : ((0 : Nat) : Int) = 0 := rfl
theorem nc1 : ((1 : Nat) : Int) = 1 := rfl
theorem nc2 : ((2 : Nat) : Int) = 2 := rfl
theorem nc3 : ((3 : Nat) : Int) = 3 := rfl
theorem nc4 : ((4 : Nat) : Int) = 4 := rfl
theorem nc5 : ((5 : Nat) : Int) = 5 := rfl
theorem nc6 : ((6 : Nat) : Int) = 6 := rfl
theorem nc7 : ((7 : Nat) : Int) = 7 := rfl
theorem nc8 : ((8 : Nat) : Int) = 8 := rfl
theorem nc9 : ((9 : Nat) : Int) = 9 := rfl
theorem at_nat {α : Type} {xs : List α} {r : Int} (h0 : 0 ≤ r) (h1 : r < xs.length) : atI xs r = xs[r.toNat]? := by
  unfold atI ixN
  rw [if_pos h0, if_pos h1]
  rfl
theorem at_0 {α : Type} {x : α} {xs : List α} : atI (x :: xs) 0 = some x := by
  rw [at_nat (by decide) (by simp)]
  rfl
theorem at_1 {α : Type} {x y : α} {xs : List α} : atI (x :: y :: xs) 1 = some y := by
  rw [at_nat (by decide) (by simp; omega)]
  rfl
theorem at_2 {α : Type} {x y z : α} {xs : List α} : atI (x :: y :: z :: xs) 2 = some z := by
  rw [at_nat (by decide) (by simp; omega)]
  rfl
theorem at_some {α : Type} {xs : List α} {r : Int} (h0 : 0 ≤ r) (h1 : r < xs.length) : ∃ x, x ∈ xs ∧ atI xs r = some x := by
  rw [at_nat h0 h1]
  have : r.toNat < xs.length := by omega
  exact ⟨xs[r.toNat], List.getElem_mem this, List.getElem?_eq_getElem this⟩
theorem ix_all {xs : List D} {r : Int} {w : Wd} {k : KD} (Pd : D → Prop) (h0 : 0 ≤ r) (h1 : r < xs.length) (hP : ∀ x ∈ xs, Pd x) (hk : ∀ x, Pd x → k x w) : ixD (.lst xs) (.int r) w k := by
  obtain ⟨x, hx, e⟩ := at_some h0 h1
  rw [ixD_l, e]
  exact hk x (hP x hx)
theorem all_nil {α : Type} {Pd : α → Prop} : ∀ x ∈ ([] : List α), Pd x := fun _ h => nomatch h
theorem all_cons {α : Type} {Pd : α → Prop} {y : α} {ys : List α} (h : Pd y) (hs : ∀ x ∈ ys, Pd x) : ∀ x ∈ y :: ys, Pd x := List.forall_mem_cons.mpr ⟨h, hs⟩
theorem lc_map {gt : GG} {ge : GE} {Ok : Wd → Prop} {ρ : Rho} {k : KD} {items : List D} {w : Wd} (f : D → D) (hOk : Ok w) (hl : items.length ≤ 100000) (h : ∀ x, x ∈ items → ∀ k' : KD, k' (f x) w → gt x ρ w fun ρ1 w1 => ge ρ1 w1 noX k') (hk : k (.lst (items.map f)) w) :
    ∃ P : List D → List D → Wd → Prop, P items [] w ∧ LcS gt gYes ge Ok ρ k P := by
  refine ⟨fun rem acc w' => w' = w ∧ ∃ dn, items = dn ++ rem ∧ acc = dn.map f, ⟨rfl, [], rfl, rfl⟩, ?_, ?_⟩
  · rintro acc w' ⟨rfl, dn, e, rfl⟩
    rw [List.append_nil] at e
    subst e
    exact ⟨hOk, hk⟩
  · rintro x xs acc w' ⟨rfl, dn, e, rfl⟩
    refine ⟨hOk, ?_⟩
    have hx : x ∈ items := by rw [e]; simp
    have := h x hx (fun y w3 => (dn.map f).length < sizeLine ∧ (w3 = w' ∧ ∃ dn', items = dn' ++ xs ∧ dn.map f ++ [y] = dn'.map f)) ⟨?_, rfl, dn ++ [x], by rw [e]; simp, by simp⟩
    · exact this
    · rw [List.length_map]
      have : dn.length ≤ items.length := by rw [e]; simp
      exact Nat.lt_of_le_of_lt (Nat.le_trans this hl) (by decide)
theorem take_use {w : Wd} {m : Int} {c : Nat} {kx : KX} {k : KD} (n : Nat) (hn : w.n = some c) (hc : n + 1 ≤ c) (hm : 0 < m ∧ m.natAbs.log2 < 9000) (h : ∀ r c', 0 ≤ r → r < m → n ≤ c' → k (.int r) ⟨w.M, some c'⟩) : gTake [.st, .int m] w kx k :=
  ⟨m, c - 1, rfl, hm, by rw [hn]; congr 1; omega, fun r h0 h1 => h r _ h0 h1 (by omega)⟩
theorem log_of {m : Nat} (h : m < 2 ^ 200) : m.log2 < 9000 := Nat.lt_trans (PySem.Flt.log2_lt_of (by decide) h) (by decide)
theorem range_len {n : Nat} : ((List.range n).map fun (i : Nat) => D.int (i : Int)).length = n := by simp
end DL

namespace DL
open PySem PySem.Spec PyProof.Rows L2 RZ

def zipD (xs ys : List D) : List D := List.zipWith (fun x y => .tup [x, y]) xs ys
def giZip (ga : GA) : GI := fun ρ w kx k => ga ρ w kx fun ds w1 => match ds with
  | [.lst xs, .lst ys] => k (zipD xs ys) (fun _ => True) w1
  | [.tup xs, .tup ys] => k (zipD xs ys) (fun _ => True) w1
  | [.rf i, .lst ys] => match w1.M[i]? with
    | some (.lst xs) => k (zipD xs ys) (fun w => w.M[i]? = some (.lst xs)) w1
    | _ => False
  | _ => False
theorem zip_get {xs ys : List D} {i : Nat} {d : D} (h : (zipD xs ys)[i]? = some d) : ∃ x y, xs[i]? = some x ∧ ys[i]? = some y ∧ d = .tup [x, y] := by
  unfold zipD at h
  rw [List.getElem?_zipWith] at h
  cases h1 : xs[i]? with
  | none => rw [h1] at h; cases h
  | some x =>
    cases h2 : ys[i]? with
    | none => rw [h1, h2] at h; cases h
    | some y =>
      rw [h1, h2] at h
      exact ⟨x, y, rfl, rfl, (Option.some.inj h).symm⟩
theorem zip_len {xs ys : List D} {i : Nat} (h : (zipD xs ys).length = i) : xs.length ≤ i ∨ ys.length ≤ i := by
  unfold zipD at h
  rw [List.length_zipWith] at h
  omega
section
variable {X : Cx} {E : XK}
theorem zip_new {K : PySem.W.Frag} {G : Gh} {S H : Hp} {w : Wd} {x y : V} {d e : D} {T : Addr} (hr : HR K G S w H) (hT : H T = none) (r1 : Rep K G S x d) (r2 : Rep K G S y e) :
    ∃ G2 S2, Ext G S G2 S2 ∧ HR K G2 S2 w (upd H T (.tup [x, y])) ∧ Rep K G2 S2 (.ref T) (.tup [d, e]) := by
  obtain ⟨h1, x1⟩ := hr.newS hT (.tup [x, y])
  exact ⟨G, _, x1, h1, .tup (.inl (.inl upd_same)) ((RepAll.cons r1 (.cons r2 .nil)).mono x1)⟩
theorem iter_zipL {K : PySem.W.Frag} {G : Gh} {S : Hp} {a b : Addr} {xs ys : List V} {ds es : List D} (e1 : S a = some (.lst xs)) (e2 : S b = some (.lst ys)) (r1 : RepAll K G S xs ds) (r2 : RepAll K G S ys es) : IterOk K (Itz K a b) (zipD ds es) (fun _ => True) G S := by
  intro i G1 S1 w1 H1 x1 hr1 _
  have q1 : SqL K H1 a xs := .inl (.inl (hr1.same _ _ (x1.same _ _ e1)))
  have q2 : SqL K H1 b ys := .inl (.inl (hr1.same _ _ (x1.same _ _ e2)))
  refine ⟨fun d hd => ?_, fun hl => ⟨xs, ys, q1, q2, by rw [r1.length, r2.length]; exact zip_len hl⟩⟩
  obtain ⟨d1, d2, g1, g2, rfl⟩ := zip_get hd
  obtain ⟨v1, h1, h2⟩ := r1.get g1
  obtain ⟨v2, h3, h4⟩ := r2.get g2
  refine ⟨⟨xs, ys, v1, v2, q1, q2, h1, h3⟩, fun x H2 y => ?_⟩
  obtain ⟨T, u1, u2, rfl, hT, rfl, y1, y2⟩ := y
  have z1 := y1 xs q1
  have z2 := y2 ys q2
  rw [h1] at z1
  rw [h3] at z2
  cases z1
  cases z2
  exact zip_new hr1 hT (h2.mono x1) (h4.mono x1)
theorem iter_zipT {K : PySem.W.Frag} {G : Gh} {S : Hp} {a b : Addr} {xs ys : List V} {ds es : List D} (e1 : SqT K S a xs) (e2 : SqT K S b ys) (r1 : RepAll K G S xs ds) (r2 : RepAll K G S ys es) : IterOk K (ItzT K a b) (zipD ds es) (fun _ => True) G S := by
  intro i G1 S1 w1 H1 x1 hr1 _
  have q1 : SqT K H1 a xs := sqT_up hr1.same (sqT_up x1.same e1)
  have q2 : SqT K H1 b ys := sqT_up hr1.same (sqT_up x1.same e2)
  refine ⟨fun d hd => ?_, fun hl => ⟨xs, ys, q1, q2, by rw [r1.length, r2.length]; exact zip_len hl⟩⟩
  obtain ⟨d1, d2, g1, g2, rfl⟩ := zip_get hd
  obtain ⟨v1, h1, h2⟩ := r1.get g1
  obtain ⟨v2, h3, h4⟩ := r2.get g2
  refine ⟨⟨xs, ys, v1, v2, q1, q2, h1, h3⟩, fun x H2 y => ?_⟩
  obtain ⟨T, u1, u2, rfl, hT, rfl, y1, y2⟩ := y
  have z1 := y1 xs q1
  have z2 := y2 ys q2
  rw [h1] at z1
  rw [h3] at z2
  cases z1
  cases z2
  exact zip_new hr1 hT (h2.mono x1) (h4.mono x1)
theorem iter_zipC {K : PySem.W.Frag} {G : Gh} {S : Hp} {a b : Addr} {i : Nat} {ys : List V} {ds es : List D} (e1 : G.al[i]? = some a) (e2 : S b = some (.lst ys)) (r2 : RepAll K G S ys es) : IterOk K (Itz K a b) (zipD ds es) (fun w => w.M[i]? = some (.lst ds)) G S := by
  intro j G1 S1 w1 H1 x1 hr1 ok
  obtain ⟨_, xs, h1, r1⟩ := hr1.cell i a _ (x1.alGet e1) ok
  have q1 : SqL K H1 a xs := .inl (.inl h1)
  have q2 : SqL K H1 b ys := .inl (.inl (hr1.same _ _ (x1.same _ _ e2)))
  refine ⟨fun d hd => ?_, fun hl => ⟨xs, ys, q1, q2, by rw [r1.length, r2.length]; exact zip_len hl⟩⟩
  obtain ⟨d1, d2, g1, g2, rfl⟩ := zip_get hd
  obtain ⟨v1, h1, h2⟩ := r1.get g1
  obtain ⟨v2, h3, h4⟩ := r2.get g2
  refine ⟨⟨xs, ys, v1, v2, q1, q2, h1, h3⟩, fun x H2 y => ?_⟩
  obtain ⟨T, u1, u2, rfl, hT, rfl, y1, y2⟩ := y
  have z1 := y1 xs q1
  have z2 := y2 ys q2
  rw [h1] at z1
  rw [h3] at z2
  cases z1
  cases z2
  exact zip_new hr1 hT h2 (h4.mono x1)
theorem di_zip {e e2 : Expr} {ga : GA} {p pos tpos : Pos} {elts : List Expr} {kk : Nat} (B : Blt X.mg) (hg : Gl X "zip") (ha : DA X E [e, e2] ga)
    (hs : starEach [e, e2] X.env = (false, eval e X.env) :: starEach [e2] X.env := by rfl) (hpl : (backTo pos (starEach [e2] X.env)).any (·.1) = false := by rfl) :
    DI X E (.Tuple elts kk tpos) (.Call (.Name "zip" p) [e, e2] [] pos) (giZip ga) := pi_imp (pi_zipA hg B.zip_ ha hs hpl) (by
  rintro σ H R ⟨G, S, ρ, w, kx, k, hr, sr, xl, kl, h⟩
  refine ⟨G, S, ρ, w, kx, _, hr, sr, xl, fun G1 S1 H1 w1 ds vs x1 hr1 rp h1 => ?_, h⟩
  split at h1
  · obtain ⟨v, u, rfl, r1, r2⟩ := two_rep rp
    cases r1 with
    | lst e1 q1 => cases r2 with
      | lst e2 q2 => exact ⟨_, _, _, _, rfl, .inl ⟨.inl (.inl (hr1.same _ _ e1)), .inl (.inl (hr1.same _ _ e2)), kl _ _ _ _ _ _ _ x1 hr1 (iter_zipL e1 e2 q1 q2) h1⟩⟩
  · obtain ⟨v, u, rfl, r1, r2⟩ := two_rep rp
    cases r1 with
    | tup e1 q1 => cases r2 with
      | tup e2 q2 => exact ⟨_, _, _, _, rfl, .inr ⟨(sqT_up hr1.same e1), (sqT_up hr1.same e2), kl _ _ _ _ _ _ _ x1 hr1 (iter_zipT e1 e2 q1 q2) h1⟩⟩
  · obtain ⟨v, u, rfl, r1, r2⟩ := two_rep rp
    split at h1
    · rename_i em
      cases r1 with
      | rf e1 => cases r2 with
        | lst e2 q2 =>
          obtain ⟨_, xs, g1, g2⟩ := hr1.cell _ _ _ e1 em
          exact ⟨_, _, _, _, rfl, .inl ⟨.inl (.inl g1), .inl (.inl (hr1.same _ _ e2)), kl _ _ _ _ _ _ _ x1 hr1 (iter_zipC e1 e2 q2) h1⟩⟩
    · exact h1.elim
  · exact h1.elim)
end

def gRevL (g : GE) : GE := fun ρ w kx k => g ρ w kx fun x w1 => match x with
  | .lst xs => k (.lst xs.reverse) w1
  | _ => False
theorem RepAll.rev {K : PySem.W.Frag} {G : Gh} {S : Hp} : ∀ {vs : List V} {ds : List D}, RepAll K G S vs ds → RepAll K G S vs.reverse ds.reverse
  | _, _, .nil => .nil
  | _, _, .cons h r => by
    rw [List.reverse_cons, List.reverse_cons]
    exact (RepAll.rev r).append (.cons h .nil)
theorem slD_l {xs : List D} {lo hi : Option Int} {w : Wd} {k : KD} : slD (.lst xs) lo hi w k = k (.lst (cutD xs lo hi)) w := rfl
theorem cut_mem {α : Type} {xs : List α} {lo hi : Option Int} {x : α} (h : x ∈ cutD xs lo hi) : x ∈ xs := List.mem_of_mem_drop (List.mem_of_mem_take h)
mutual
def plain : D → Bool
  | .non => true
  | .int _ => true
  | .str _ => true
  | .lst xs => plains xs
  | .tup xs => plains xs
  | _ => false
def plains : List D → Bool
  | [] => true
  | x :: xs => plain x && plains xs
end
mutual
def okF : D → Bool
  | .non => true
  | .bl _ => true
  | .int _ => true
  | .str _ => true
  | .lst xs => okFs xs
  | .tup xs => okFs xs
  | _ => false
def okFs : List D → Bool
  | [] => true
  | x :: xs => okF x && okFs xs
end
mutual
def dep : D → Nat
  | .lst xs => deps xs + 1
  | .tup xs => deps xs + 1
  | _ => 0
def deps : List D → Nat
  | [] => 0
  | x :: xs => max (dep x) (deps xs)
end
mutual
def wid : D → Bool
  | .lst xs => decide (xs.length ≤ 100000) && wids xs
  | .tup xs => decide (xs.length ≤ 100000) && wids xs
  | _ => true
def wids : List D → Bool
  | [] => true
  | x :: xs => wid x && wids xs
end
mutual
theorem plain_ok : ∀ {d : D}, plain d = true → okF d = true
  | .non, _ => rfl
  | .int _, _ => rfl
  | .str _, _ => rfl
  | .lst xs, h => by
    unfold plain at h
    unfold okF
    exact plains_ok h
  | .tup xs, h => by
    unfold plain at h
    unfold okF
    exact plains_ok h
theorem plains_ok : ∀ {xs : List D}, plains xs = true → okFs xs = true
  | [], _ => rfl
  | x :: xs, h => by
    unfold plains at h
    rw [Bool.and_eq_true] at h
    unfold okFs
    rw [Bool.and_eq_true]
    exact ⟨plain_ok h.1, plains_ok h.2⟩
end
mutual
def lay : D → Bool
  | .non => true
  | .bl _ => true
  | .int _ => true
  | .str s => PyData.strOk s
  | .lst xs => lays xs
  | .tup xs => lays xs
  | _ => false
def lays : List D → Bool
  | [] => true
  | x :: xs => lay x && lays xs
end
mutual
theorem lay_pd : ∀ {d : D}, lay d = true → ∃ p, toPD d = some p ∧ p.canLay0 = true ∧ p.depth = dep d
  | .non, _ => ⟨_, rfl, rfl, rfl⟩
  | .bl _, _ => ⟨_, rfl, rfl, rfl⟩
  | .int _, _ => ⟨_, rfl, rfl, rfl⟩
  | .str s, h => ⟨_, rfl, h, rfl⟩
  | .lst xs, h => by
    obtain ⟨ps, h1, h2, h3⟩ := lays_pd (xs := xs) h
    refine ⟨.list ps, by rw [toPD, h1]; rfl, h2, ?_⟩
    show PyData.depthAll ps + 1 = _
    rw [h3]
    rfl
  | .tup xs, h => by
    obtain ⟨ps, h1, h2, h3⟩ := lays_pd (xs := xs) h
    refine ⟨.tuple ps, by rw [toPD, h1]; rfl, h2, ?_⟩
    show PyData.depthAll ps + 1 = _
    rw [h3]
    rfl
theorem lays_pd : ∀ {xs : List D}, lays xs = true → ∃ ps, toPDs xs = some ps ∧ PyData.canLayAll0 ps = true ∧ PyData.depthAll ps = deps xs
  | [], _ => ⟨[], rfl, rfl, rfl⟩
  | x :: xs, h => by
    unfold lays at h
    rw [Bool.and_eq_true] at h
    obtain ⟨p, h1, h2, h3⟩ := lay_pd h.1
    obtain ⟨ps, h4, h5, h6⟩ := lays_pd h.2
    refine ⟨p :: ps, by rw [toPDs, h1, h4], by simp [PyData.canLayAll0, h2, h5], ?_⟩
    show max p.depth (PyData.depthAll ps) = max (dep x) (deps xs)
    rw [h3, h6]
end
def gSame : Nat → GF
  | 0 => fun _ _ _ _ => False
  | j + 1 => fun ds w _ k => ∃ a b : D, ds = [a, b] ∧ (okF a = true ∧ plain b = true ∧ dep b ≤ j ∧ wid a = true ∧ wid b = true) ∧ ∀ c : Bool, (c = true ↔ a = b) → k (.bl c) w
end DL

namespace DL
open PySem PySem.Spec PyProof.Rows L2 RZ

abbrev FM := D → List D → Wd → KD → Prop
def MtOk (K : PySem.W.Frag) (r : V → List V → Hp → VK → Prop) (f : FM) : Prop := ∀ {G S H w x d vs ds k Q}, HR K G S w H → Rep K G S x d → RepAll K G S vs ds → KL K G S k Q → f d ds w k → r x vs H Q
def isTy (T : String) (d : D) (w : Wd) : Prop := match d with
  | .str _ => T = "str"
  | .lst _ => T = "list"
  | .rf i => match w.M[i]? with
    | some (.lst _) => T = "list"
    | some (.dk _) => T = "dict"
    | _ => False
  | _ => False
theorem isTy_ok {K : PySem.W.Frag} {G : Gh} {S H : Hp} {w : Wd} {v : V} {d : D} {T : String} (hr : HR K G S w H) (r : Rep K G S v d) (h : isTy T d w) : tyV K T v H := by
  cases r with
  | str x => exact h
  | lst e r => exact .inl ⟨h, _, .inl (.inl (hr.same _ _ e))⟩
  | rf e =>
    unfold isTy at h
    simp only at h
    split at h
    · rename_i e2
      obtain ⟨_, ys, h1, h2⟩ := hr.cell _ _ _ e e2
      exact .inl ⟨h, ys, .inl (.inl h1)⟩
    · rename_i e2
      obtain ⟨_, ys, h1, h2⟩ := hr.cell _ _ _ e e2
      exact .inr (.inr (.inl ⟨h, .inl ⟨ys, h1⟩⟩))
    · exact h.elim
  | _ => exact h.elim
def gBM (T : String) (f : FM) (go : GE) (ga : GA) : GE := fun ρ w kx k => go ρ w kx fun x w1 => isTy T x w1 ∧ ga ρ w1 kx fun xs w2 => f x xs w2 k
section
variable {X : Cx} {E : XK} {o e : Expr} {es : List Expr} {go : GE} {ga : GA} {apos cpos : Pos} {name : Str} {T id : String} {r : V → List V → Hp → VK → Prop} {f : FM}
theorem de_bm (pa : PlainAttrs T) (slot : Slot T name id) (hty : typeOf (.builtin id) = pure (.type "method_descriptor")) (hm : MtR X id r) (hf : MtOk X.K r f) (ho : DE X E o go) (ha : DA X E (e :: es) ga)
    (hbase : attributeBase o name X.env (eval o X.env) = eval o X.env)
    (hfew : ((backTo cpos (starEach (e :: es) X.env)).all (fun x => !x.1) && (backToKw cpos (keywordEach [] X.env)).all (fun x => x.1.isSome)
      && decide ((e :: es).length + ([] : List Keyword).length + (if ([] : List Keyword).isEmpty then 0 else 1) < 30)) = true)
    (hline : (apos.endLine == cpos.line) = true) (hs : starEach (e :: es) X.env = (false, eval e X.env) :: starEach es X.env) (hplain : (backTo cpos (starEach es X.env)).any (·.1) = false) :
    DE X E (.Call (.Attribute o name apos) (e :: es) [] cpos) (gBM T f go ga) := pe_imp (pe_bm pa slot hty hm ho ha hbase hfew hline hs hplain) (by
  rintro σ H Q ⟨G, S, ρ, w, kx, k, hr, sr, xl, kl, h⟩
  exact ⟨G, S, ρ, w, kx, _, hr, sr, xl, fun G1 S1 H1 w1 d v x1 hr1 rp h1 => ⟨isTy_ok hr1 rp h1.1, G1, S1, ρ, w1, kx, _, hr1, sr.mono x1, xl.mono x1, fun G2 S2 H2 w2 ds vs x2 hr2 rp2 h2 => hf hr2 (rp.mono x2) rp2 (kl.mono (x1.trans x2)) h2, h1.2⟩, h⟩)
end
def cellK (i : Nat) (w : Wd) (f : List D → Prop) : Prop := match w.M[i]? with
  | some (.lst xs) => f xs
  | _ => False
theorem cell_get {K : PySem.W.Frag} {G : Gh} {S H : Hp} {w : Wd} {a : Addr} {i : Nat} {f : List D → Prop} (hr : HR K G S w H) (e : G.al[i]? = some a) (h : cellK i w f) :
    ∃ ds xs, w.M[i]? = some (.lst ds) ∧ S a = none ∧ H a = some (.lst xs) ∧ RepAll K G S xs ds ∧ f ds := by
  unfold cellK at h
  split at h
  · rename_i ds e2
    obtain ⟨h1, xs, h2, h3⟩ := hr.cell _ _ _ e e2
    exact ⟨ds, xs, e2, h1, h2, h3, h⟩
  · exact h.elim
theorem cell_put {K : PySem.W.Frag} {G : Gh} {S H : Hp} {w : Wd} {a : Addr} {i : Nat} {c : Cell} {ys : List V} {es : List D} (hr : HR K G S w H) (e : G.al[i]? = some a) (e2 : w.M[i]? = some c) (hs : S a = none) (r : RepAll K G S ys es) :
    HR K G S ⟨w.M.set i (.lst es), w.n⟩ (upd H a (.lst ys)) := hr.setC e e2 hs ⟨hs, ys, upd_same, r⟩
def mAppend : FM := fun x ds w k => match x, ds with
  | .rf i, [d] => cellK i w fun xs => xs.length < sizeLine ∧ k .non ⟨w.M.set i (.lst (xs ++ [d])), w.n⟩
  | _, _ => False
def mPopAt : FM := fun x ds w k => match x, ds with
  | .rf i, [.int j] => cellK i w fun xs => 0 ≤ j ∧ j < xs.length ∧ j < 2 ^ 63 ∧ someK xs[j.toNat]? fun d => k d ⟨w.M.set i (.lst (xs.eraseIdx j.toNat)), w.n⟩
  | _, _ => False
def mExtend : FM := fun x ds w k => match x, ds with
  | .rf i, [.lst ys] => cellK i w fun xs => xs.length + ys.length ≤ sizeLine ∧ k .non ⟨w.M.set i (.lst (xs ++ ys)), w.n⟩
  | _, _ => False
def mReverse : FM := fun x ds w k => match x, ds with
  | .rf i, [] => cellK i w fun xs => k .non ⟨w.M.set i (.lst xs.reverse), w.n⟩
  | _, _ => False
section
variable {K : PySem.W.Frag}
theorem ok_append : MtOk K rAppend mAppend := by
  intro G S H w x d vs ds k Q hr rx rxs kl h
  unfold mAppend at h
  split at h
  · cases rx with
    | rf e =>
      obtain ⟨es, xs, e2, h1, h2, h3, h4, h5⟩ := cell_get hr e h
      obtain ⟨v, rfl, r⟩ := one_rep rxs
      exact ⟨_, xs, v, rfl, rfl, h2, by rw [h3.length]; exact h4, kl _ _ _ _ _ _ (Ext.refl _ _) (cell_put hr e e2 h1 (h3.append (.cons r .nil))) .non h5⟩
  · exact h.elim
theorem seqIx {n : Nat} {j : Int} (h0 : 0 ≤ j) (h1 : j < n) : seqIndex? j n = some j.toNat := by
  have e : ixN n j = some j.toNat := by
    unfold ixN
    rw [if_pos h0, if_pos h1]
  exact (ixN_seq e).1
theorem ok_popAt : MtOk K rPopAt mPopAt := by
  intro G S H w x d vs ds k Q hr rx rxs kl h
  unfold mPopAt at h
  split at h
  · cases rx with
    | rf e =>
      obtain ⟨es, xs, e2, h1, h2, h3, h4, h5, h6, h7⟩ := cell_get hr e h
      obtain ⟨v, rfl, r⟩ := one_rep rxs
      cases r
      unfold someK at h7
      split at h7
      · rename_i d e3
        obtain ⟨u, e4, r4⟩ := h3.get e3
        exact ⟨_, xs, _, _, u, rfl, rfl, h2, by omega, h6, seqIx h4 (by rw [h3.length]; exact h5), e4, kl _ _ _ _ _ _ (Ext.refl _ _) (cell_put hr e e2 h1 (h3.eraseIdx _)) r4 h7⟩
      · exact h7.elim
  · exact h.elim
end
theorem rep_strs {K : PySem.W.Frag} {G : Gh} {S : Hp} : ∀ ys : List Str, RepAll K G S (ys.map V.str) (ys.map D.str)
  | [] => .nil
  | y :: ys => .cons (.str y) (rep_strs ys)
def mSplit : FM := fun x ds w k => match x, ds with
  | .str a, [.str b] => (b.length == 0) = false ∧ a.length + 2 ≤ sizeLine ∧ k (.lst ((Txt.split a b).map D.str)) w
  | _, _ => False
def mSplitC : FM := fun x ds w k => match x, ds with
  | .str a, [.str b] => (b.length == 0) = false ∧ a.length + 2 ≤ sizeLine ∧ k (.rf w.M.length) ⟨w.M ++ [.lst ((Txt.split a b).map D.str)], w.n⟩
  | _, _ => False
def rSplitT : V → List V → Hp → VK → Prop := fun x xs H Q => ∃ a b, x = .str a ∧ xs = [.str b] ∧ (b.length == 0) = false ∧ a.length + 2 ≤ sizeLine ∧ rNewStrs (Txt.split a b) H Q
theorem ok_splitC {K : PySem.W.Frag} : MtOk K rSplitT mSplitC := by
  intro G S H w x d vs ds k Q hr rx rxs kl h
  unfold mSplitC at h
  split at h
  · cases rx
    obtain ⟨v, rfl, r⟩ := one_rep rxs
    cases r
    exact ⟨_, _, rfl, rfl, h.1, h.2.1, kl.newCL hr (rep_strs _) h.2.2⟩
  · exact h.elim
theorem countP_eqU {x : V} : ∀ {xs : List V} {us : List Value}, Vals xs us → xs.all flatV = true → us.countP (eqU x) = xs.countP fun y => eqV y x
  | _, _, .nil, _ => rfl
  | _, _, .cons r t, h => by
    rw [List.all_cons, Bool.and_eq_true] at h
    rw [List.countP_cons, List.countP_cons, countP_eqU t h.2, eqU_of r h.1]
def rCntV (K : PySem.W.Frag) : V → List V → Hp → VK → Prop := fun x xs H Q => ∃ (p : Addr) (ys : List V) (y : V), x = .ref p ∧ xs = [y] ∧ flatV y = true ∧ ys.all flatV = true ∧ SqL K H p ys ∧ Q (.int ((ys.countP fun z => eqV z y : Nat) : Int)) H
theorem mt_countV {X : Cx} : MtR X "list.count" (rCntV X.K) := by
  intro pins s σ H x xs v us Q I rx rxs h
  obtain ⟨p, ys, y, rfl, rfl, fy, fys, hs, q⟩ := h
  cases rx
  obtain ⟨u, rfl, ru⟩ := rxs.one
  obtain ⟨its, rv, ⟨⟨cls, dd, data, sl⟩, n, ho, hc, hdn, hd⟩, hlen⟩ := I.list hs
  simp only at hc hd
  subst hc hd
  refine call_meets PySem.F.slot_list_count ⟨_, ho, rfl⟩ PySem.F.entry_list_count (PySem.F.args_list_count_2 _ _)
    (SeqAt.list_countAt p its.toArray n dd sl u (eqU y)) ⟨ho, fun z hz => mem_eqAt ru fy rv fys z (by simpa using hz), ?_⟩
  have ec : its.toArray.toList.countP (eqU y) = ys.countP fun z => eqV z y := by
    rw [List.toList_toArray]
    exact countP_eqU rv fys
  refine ⟨.int ((ys.countP fun z => eqV z y : Nat) : Int), H, I.tok _, ⟨s.toks, ?_⟩, q⟩
  show Value.int ((its.toArray.toList.countP (eqU y) : Nat) : Int) s.toks = Value.int ((ys.countP fun z => eqV z y : Nat) : Int) s.toks
  rw [ec]
def allStr : List D → Option (List Str)
  | [] => some []
  | .str b :: r => match allStr r with
    | some bs => some (b :: bs)
    | none => none
  | _ => none
theorem rep_strs' {K : PySem.W.Frag} {G : Gh} {S : Hp} : ∀ {ds : List D} {vs : List V} {bs : List Str}, RepAll K G S vs ds → allStr ds = some bs → vs = bs.map V.str
  | [], _, _, r, e => by
    cases r
    cases e
    rfl
  | d :: ds, _, _, r, e => by
    cases r with
    | cons h r =>
      cases d with
      | str b =>
        cases h
        unfold allStr at e
        cases q : allStr ds with
        | none =>
          rw [q] at e
          cases e
        | some bs =>
          rw [q] at e
          cases e
          rw [rep_strs' r q]
          rfl
      | _ => simp [allStr] at e
theorem allStr_map (l : List Str) : allStr (l.map D.str) = some l := by
  induction l with
  | nil => rfl
  | cons x r ih =>
    rw [List.map_cons]
    unfold allStr
    rw [ih]
def mCount : FM := fun x ds w k => match x, ds with
  | .lst xs, [.str s] => ∃ ss, allStr xs = some ss ∧ ∀ c : Nat, c ≤ xs.length → k (.int (c : Nat)) w
  | _, _ => False
end DL

namespace DL
open PySem PySem.Spec PyProof.Rows L2 RZ

def gLcC (gi : GI) (gt : GG) (tt : GT) (ge : GE) (vs : List Nat) : GE := fun ρ w kx k => gLc gi gt tt ge vs ρ w kx fun d w1 => ∃ acc, d = .lst acc ∧ k (.rf w1.M.length) ⟨w1.M ++ [.lst acc], w1.n⟩
section
variable {X : Cx} {E : XK} {pos : Pos}
end
def ggSub (go gi : GE) : GG := fun d ρ w k => go ρ w noX fun x w1 => gi ρ w1 noX fun y w2 => match x, y with
  | .rf i, .int j => cellK i w2 fun xs => 0 ≤ j ∧ j < xs.length ∧ k ρ ⟨w2.M.set i (.lst (xs.set j.toNat d)), w2.n⟩
  | _, _ => False
section
variable {X : Cx} {E : XK} {o i : Expr} {go gi : GE} {pos : Pos}
end
def slA : D → Option Int → Option Int → Wd → KD → Prop := fun x lo hi w k => match x with
  | .lst ds => k (.lst (cutD ds lo hi)) w
  | .tup ds => k (.tup (cutD ds lo hi)) w
  | .rf i => cellK i w fun ds => k (.lst (cutD ds lo hi)) w
  | _ => False
theorem cut_whole {α : Type} {xs : List α} {lo hi : Option Int} (h : HT.sIx xs.length 0 lo = 0 ∧ HT.sIx xs.length xs.length hi = xs.length) : cutD xs lo hi = xs := by
  unfold cutD
  rw [h.1, h.2, List.drop_zero, Nat.sub_zero, List.take_length]
def rSlAA (K : PySem.W.Frag) : V → Option Int → Option Int → Hp → VK → Prop := fun x lo hi H Q => rSlL K x lo hi H Q ∨ rSlA K x lo hi H Q
theorem ok_slA {K : PySem.W.Frag} : SlOk K (rSlAA K) slA := by
  intro G S H w x d lo hi k Q hr rx kl h
  cases rx with
  | lst e r => exact .inl ⟨_, _, rfl, .inl (.inl (hr.same _ _ e)), kl.newL hr (rep_cut r) h⟩
  | tup e r =>
    refine .inr ⟨_, _, rfl, sqT_up hr.same e, fun hw => ?_, fun _ => kl.newT hr (rep_cut r) h⟩
    rw [r.length] at hw
    have h : k (.tup (cutD _ lo hi)) w := h
    rw [cut_whole hw] at h
    exact kl.here hr (.tup e r) h
  | rf e =>
    obtain ⟨es, xs, e2, h1, h2, h3, h4⟩ := cell_get hr e h
    exact .inl ⟨_, _, rfl, .inl (.inl h2), kl.newL hr (rep_cut h3) h4⟩
  | _ => exact h.elim
section
variable {X : Cx} {E : XK} {a : Expr} {ga : GE} {gl gh : GO} {pos p2 : Pos} {lo hi : Option Expr}
theorem de_slA (he : DE X E a ga) (hl : DO X E lo gl) (hu : DO X E hi gh) : DE X E (.Subscript a (.Slice lo hi none p2) pos) (gSl slA ga gl gh) := de_slice (sl_list.or sl_tupA) ok_slA he hl hu
end
def addTD : F2 := fun x y w k => match x, y with
  | .tup xs, .tup ys => xs.length + ys.length ≤ sizeLine ∧ k (.tup (xs ++ ys)) w
  | _, _ => False
theorem ok_addTD {K : PySem.W.Frag} : BinOk K (rCatA K) addTD := by
  intro G S H w x y d e k Q hr rx ry kl h
  unfold addTD at h
  split at h
  · cases rx with
    | tup e1 r1 => cases ry with
      | tup e2 r2 =>
        refine ⟨_, _, _, _, rfl, rfl, sqT_up hr.same e1, sqT_up hr.same e2, by rw [r1.length, r2.length]; exact h.1, fun z => ?_, fun _ z => ?_, fun _ _ => kl.newT hr (r1.append r2) h.2⟩
        · subst z
          cases r1
          exact kl.here hr (.tup e2 r2) h.2
        · subst z
          cases r2
          have h2 := h.2
          rw [List.append_nil] at h2
          exact kl.here hr (.tup e1 r1) h2
  · exact h.elim
def addCD : F2 := fun x y w k => match x, y with
  | .lst xs, .lst ys => xs.length + ys.length ≤ sizeLine ∧ k (.rf w.M.length) ⟨w.M ++ [.lst (xs ++ ys)], w.n⟩
  | .rf i, .lst ys => cellK i w fun xs => xs.length + ys.length ≤ sizeLine ∧ k (.rf w.M.length) ⟨w.M ++ [.lst (xs ++ ys)], w.n⟩
  | _, _ => False
def mulCD : F2 := fun x y w k => match x, y with
  | .lst xs, .int j => -(2 ^ 63) ≤ j ∧ j < 2 ^ 63 ∧ xs.length * j.toNat ≤ sizeLine ∧ k (.rf w.M.length) ⟨w.M ++ [.lst (List.replicate j.toNat xs).flatten], w.n⟩
  | _, _ => False
def isbD : F2 := fun x y w k => match x, y with
  | .bl a, .bl b => k (.bl (decide (a = b))) w
  | _, _ => False
def isnotbD : F2 := fun x y w k => match x, y with
  | .bl a, .bl b => k (.bl (!decide (a = b))) w
  | _, _ => False
theorem ok_isnotbD {K : PySem.W.Frag} : BinOk K rNotB isnotbD := by
  intro G S H w x y d e k Q hr rx ry kl h
  unfold isnotbD at h
  split at h
  · cases rx
    cases ry
    exact ⟨_, _, rfl, rfl, kl.here hr (.bl _) h⟩
  · exact h.elim
section
variable {X : Cx} {E : XK} {a b : Expr} {ga gb : GE} {pos : Pos}
theorem de_addt (ha : DE X E a ga) (hb : DE X E b gb) : DE X E (.BinOp a .Add b pos) (gBin addTD ga gb) := de_bin op_catA ok_addTD ha hb
theorem dt_isnotb (ha : DE X E a ga) (hb : DE X E b gb) : DT X E (.Compare a [.IsNot] [b] pos) (gB (gBin isnotbD ga gb)) := dt_cmp op_notBl ok_isnotbD ha hb (nomark _)
end
def enumD : Nat → List D → List D
  | _, [] => []
  | i, x :: xs => .tup [.int (i : Nat), x] :: enumD (i + 1) xs
theorem enum_len : ∀ (xs : List D) (i : Nat), (enumD i xs).length = xs.length
  | [], _ => rfl
  | x :: xs, i => congrArg (· + 1) (enum_len xs (i + 1))
theorem enum_get : ∀ {xs : List D} {n i : Nat} {d : D}, (enumD n xs)[i]? = some d → ∃ x, xs[i]? = some x ∧ d = .tup [.int ((n + i : Nat) : Int), x]
  | [], _, _, _, h => by simp [enumD] at h
  | x :: xs, n, 0, d, h => by
    unfold enumD at h
    rw [List.getElem?_cons_zero] at h
    exact ⟨x, rfl, (Option.some.inj h).symm⟩
  | x :: xs, n, i + 1, d, h => by
    unfold enumD at h
    rw [List.getElem?_cons_succ] at h
    obtain ⟨y, h1, h2⟩ := enum_get h
    refine ⟨y, by rw [List.getElem?_cons_succ]; exact h1, ?_⟩
    rw [h2, show n + 1 + i = n + (i + 1) by omega]
def giEnum (ga : GA) : GI := fun ρ w kx k => ga ρ w kx fun ds w1 => match ds with
  | [.lst xs] => k (enumD 0 xs) (fun _ => True) w1
  | _ => False
section
variable {X : Cx} {E : XK}
end
mutual
def low (n : Nat) : D → Bool
  | .rf i => decide (i < n)
  | .lst xs => lows n xs
  | .tup xs => lows n xs
  | _ => true
def lows (n : Nat) : List D → Bool
  | [] => true
  | x :: xs => low n x && lows n xs
end
section
variable {K : PySem.W.Frag} {G : Gh} {S H : Hp} {w : Wd}
mutual
theorem Rep.low : ∀ {v : V} {d : D}, Rep K G S v d → DL.low G.al.length d = true
  | _, _, .non => rfl
  | _, _, .bl _ => rfl
  | _, _, .int _ => rfl
  | _, _, .str _ => rfl
  | _, _, .lst _ r => RepAll.low r
  | _, _, .tup _ r => RepAll.low r
  | _, _, .rf h => decide_eq_true (List.getElem?_eq_some_iff.mp h).1
  | _, _, .st _ => rfl
  | _, _, .ob _ => rfl
  | _, _, .scr _ => rfl
theorem RepAll.low : ∀ {v : List V} {d : List D}, RepAll K G S v d → lows G.al.length d = true
  | _, _, .nil => rfl
  | _, _, .cons h r => by
    unfold lows
    rw [Rep.low h, RepAll.low r]
    rfl
end
variable {n : Nat}
mutual
theorem Rep.trunc : ∀ {v : V} {d : D}, Rep K G S v d → DL.low n d = true → Rep K ⟨G.al.take n, G.st, G.fr⟩ S v d
  | _, _, .non, _ => .non
  | _, _, .bl b, _ => .bl b
  | _, _, .int b, _ => .int b
  | _, _, .str b, _ => .str b
  | _, _, .lst e r, h => .lst e (RepAll.trunc r h)
  | _, _, .tup e r, h => .tup e (RepAll.trunc r h)
  | _, _, .rf (i := i) e, h => by
    have hi : i < n := of_decide_eq_true h
    refine .rf ?_
    show (G.al.take n)[i]? = _
    rw [List.getElem?_take, if_pos hi]
    exact e
  | _, _, .st h, _ => .st h
  | _, _, .ob h, _ => .ob h
  | _, _, .scr h, _ => .scr h
theorem RepAll.trunc : ∀ {v : List V} {d : List D}, RepAll K G S v d → lows n d = true → RepAll K ⟨G.al.take n, G.st, G.fr⟩ S v d
  | _, _, .nil, _ => .nil
  | _, _, .cons q r, h => by
    unfold lows at h
    rw [Bool.and_eq_true] at h
    exact .cons (Rep.trunc q h.1) (RepAll.trunc r h.2)
end
def lowC (n : Nat) : Cell → Prop
  | .dead => True
  | .exc _ => True
  | .exf _ fs => ∀ p ∈ fs, low n p.2 = true
  | .tbl _ _ => True
  | .lk _ _ kvs => ∀ p ∈ kvs, low n p.2 = true
  | .lst xs => lows n xs = true
  | .dk kvs => ∀ p ∈ kvs, low n p.2 = true
  | .ins _ fs => ∀ p ∈ fs, low n p.2 = true
theorem fs_low {κ : Type} : ∀ {xs : List (κ × V)} {ys : List (κ × D)}, FsRep K G S xs ys → ∀ p ∈ ys, DL.low G.al.length p.2 = true
  | _, _, .nil, p, hp => nomatch hp
  | _, _, .cons h r, p, hp => by
    rcases List.mem_cons.mp hp with rfl | hp
    · exact h.2.low
    · exact fs_low r p hp
theorem fs_trunc {κ : Type} : ∀ {xs : List (κ × V)} {ys : List (κ × D)}, FsRep K G S xs ys → (∀ p ∈ ys, DL.low n p.2 = true) → FsRep K ⟨G.al.take n, G.st, G.fr⟩ S xs ys
  | _, _, .nil, _ => .nil
  | _, _, .cons h r, hp => .cons ⟨h.1, h.2.trunc (hp _ List.mem_cons_self)⟩ (fs_trunc r fun p q => hp p (List.mem_cons_of_mem _ q))
theorem CellOk.low {a : Addr} {c : Cell} (h : CellOk K G S H a c) : lowC G.al.length c := by
  cases c with
  | dead => trivial
  | exc C => trivial
  | exf C fs => obtain ⟨_, _, _, _, _, r⟩ := h; exact fs_low r
  | tbl P q => trivial
  | lk o ks kvs => obtain ⟨_, _, r⟩ := h; exact fs_low r
  | lst ds => obtain ⟨_, _, _, r⟩ := h; exact r.low
  | dk ds => obtain ⟨_, _, _, r⟩ := h; exact fs_low r
  | ins C ds => obtain ⟨_, _, _, _, r⟩ := h; exact fs_low r
theorem CellOk.trunc {a : Addr} {c : Cell} (h : CellOk K G S H a c) (l : lowC n c) : CellOk K ⟨G.al.take n, G.st, G.fr⟩ S H a c := by
  cases c with
  | dead => exact h
  | exc C => exact h
  | exf C fs => obtain ⟨h1, dx, gs, h2, h3, r⟩ := h; exact ⟨h1, dx, gs, h2, h3, fs_trunc r l⟩
  | tbl P q => exact h
  | lk o ks kvs => obtain ⟨h1, h2, r⟩ := h; exact ⟨h1, h2, fs_trunc r l⟩
  | lst ds => obtain ⟨h1, xs, h2, r⟩ := h; exact ⟨h1, xs, h2, r.trunc l⟩
  | dk ds => obtain ⟨h1, xs, h2, r⟩ := h; exact ⟨h1, xs, h2, fs_trunc r l⟩
  | ins C ds => obtain ⟨h1, dx, xs, h2, r⟩ := h; exact ⟨h1, dx, xs, h2, fs_trunc r l⟩
theorem HR.lowAll (h : HR K G S w H) : ∀ c ∈ w.M, lowC w.M.length c := fun c hc => by
  obtain ⟨i, hi⟩ := List.getElem?_of_mem hc
  have l := (List.getElem?_eq_some_iff.mp hi).1
  rw [← h.len] at l ⊢
  exact (h.cell i _ c (List.getElem?_eq_getElem l) hi).low
theorem HR.trunc {M0 r : List Cell} (h : HR K G S w H) (e : w.M = M0 ++ r) (hl : ∀ c ∈ M0, lowC M0.length c) : HR K ⟨G.al.take M0.length, G.st, G.fr⟩ S ⟨M0, w.n⟩ H := by
  have ln : G.al.length = M0.length + r.length := by rw [h.len, e, List.length_append]
  refine ⟨h.same, ?_, h.nod.sublist (List.take_sublist _ _), fun i a c e1 e2 => ?_, ⟨h.st.1, fun a c z => ?_⟩, fun p hp => ?_⟩
  · show (G.al.take M0.length).length = M0.length
    rw [List.length_take, ln]
    omega
  · have e1 : (G.al.take M0.length)[i]? = some a := e1
    have e2 : M0[i]? = some c := e2
    have li := (List.getElem?_eq_some_iff.mp e2).1
    rw [List.getElem?_take, if_pos li] at e1
    have q := h.cell i a c e1 (by rw [e, List.getElem?_append_left li]; exact e2)
    exact q.trunc (hl c (List.mem_of_getElem? e2))
  · obtain ⟨z1, z2, z3, z4, z5, z6⟩ := h.st.2 a c z
    exact ⟨z1, z2, z3, fun q => z4 (List.mem_of_mem_take q), fun q => z5 (List.mem_of_mem_take q), z6⟩
  · obtain ⟨y1, y2, y3⟩ := h.fr p hp
    exact ⟨y1, fun q => y2 (List.mem_of_mem_take q), y3⟩
end
def gTr (f : GF) : GF := fun ds w kx k => f ds w kx fun d w1 => (∃ r, w1.M = w.M ++ r) ∧ low w.M.length d = true ∧ k d ⟨w.M, w1.n⟩
theorem tr_up {n : Nat} {K : PySem.W.Frag} {f : GF} : ∀ vs H Q E, upF n K (gTr f) vs H Q E → upF n K f vs H Q E := by
  rintro vs H Q E ⟨G, S, ds, w, kx, k, h1, h2, h3, h4, h5, h6⟩
  refine ⟨G, S, ds, w, kx, _, h1, h2, h3, h4, fun G' S' H' w' d v x1 hr1 rp hk => ?_, h6⟩
  obtain ⟨⟨r, e⟩, lo, hk⟩ := hk
  refine h5 ⟨G'.al.take w.M.length, G'.st, G'.fr⟩ S' H' ⟨w.M, w'.n⟩ _ _ ⟨⟨[], ?_⟩, x1.st, x1.fr, x1.same⟩ (hr1.trunc e h2.lowAll) (rp.trunc lo) hk
  obtain ⟨r2, e2⟩ := x1.al
  show G'.al.take w.M.length = G.al ++ []
  rw [e2, ← h2.len, List.take_left, List.append_nil]
theorem FnAt.trunc {P : Program} {w : World} {K : PySem.W.Frag} {mg : Str → Option Value} {base : Heap} {CX : CXT} {k : Nat} {x : Str} {n : Nat} {g : GF} (h : FnAt P w K mg base CX k x n g) : FnAt P w K mg base CX k x n (gTr g) := by
  obtain ⟨f, fd, ps, h1, h2⟩ := h.ex
  exact ⟨f, fd, ps, h1.imp tr_up, h2⟩
section
variable {w : Wd} {k : KD} {i j : Int} {M : List Cell} {n : Option Nat} {xs ys : List D} {d : D} {c c' : Cell}
theorem isTy_l {T : String} : isTy T (.lst xs) w = (T = "list") := rfl
theorem isTy_s {T : String} {s : Str} : isTy T (.str s) w = (T = "str") := rfl
theorem new_at : (M ++ [c])[M.length]? = some c := by simp
theorem new_set : (M ++ [c]).set M.length c' = M ++ [c'] := by
  rw [List.set_append_right (h := Nat.le_refl _), Nat.sub_self]
  rfl
theorem isTy_new {T : String} : isTy T (.rf M.length) ⟨M ++ [.lst xs], n⟩ = (T = "list") := by
  unfold isTy
  simp
theorem cellK_new {f : List D → Prop} : cellK M.length ⟨M ++ [.lst xs], n⟩ f = f xs := by
  unfold cellK
  simp
theorem append_new : mAppend (.rf M.length) [d] ⟨M ++ [.lst xs], n⟩ k = (xs.length < sizeLine ∧ k .non ⟨M ++ [.lst (xs ++ [d])], n⟩) := by
  unfold mAppend
  simp only [cellK_new, new_set]
theorem popAt_new : mPopAt (.rf M.length) [.int j] ⟨M ++ [.lst xs], n⟩ k = (0 ≤ j ∧ j < xs.length ∧ j < 2 ^ 63 ∧ someK xs[j.toNat]? fun d => k d ⟨M ++ [.lst (xs.eraseIdx j.toNat)], n⟩) := by
  unfold mPopAt
  simp only [cellK_new, new_set]
def frzK (d : D) (w : Wd) (k : KD) : Prop := match d with
  | .rf i => match w.M[i]? with
    | some (.lst ds) => k (.lst ds) ⟨w.M.set i .dead, w.n⟩
    | _ => False
  | _ => False
theorem gFrz_eq {ge : GE} {ρ : Rho} {kx : KX} : gFrz ge ρ w kx k = ge ρ w kx fun x w1 => frzK x w1 k := rfl
theorem frzK_new : frzK (.rf M.length) ⟨M ++ [.lst xs], n⟩ k = k (.lst xs) ⟨M ++ [.dead], n⟩ := by
  unfold frzK
  simp only [new_at, new_set]
theorem fLen_new : fLen [.rf M.length] ⟨M ++ [.lst xs], n⟩ k = k (.int xs.length) ⟨M ++ [.lst xs], n⟩ := by
  simp [fLen, seqD]
theorem fTuple_new : fTuple [.rf M.length] ⟨M ++ [.lst xs], n⟩ k = k (.tup xs) ⟨M ++ [.lst xs], n⟩ := by
  simp [fTuple, seqD]
theorem ixD_new : ixD (.rf M.length) (.int j) ⟨M ++ [.lst xs], n⟩ k = someK (atI xs j) (fun d => k d ⟨M ++ [.lst xs], n⟩) := by
  simp [ixD, seqD]
  rfl
theorem slA_l {lo hi : Option Int} : slA (.lst xs) lo hi w k = k (.lst (cutD xs lo hi)) w := rfl
theorem slA_t {lo hi : Option Int} : slA (.tup xs) lo hi w k = k (.tup (cutD xs lo hi)) w := rfl
theorem slA_new {lo hi : Option Int} : slA (.rf M.length) lo hi ⟨M ++ [.lst xs], n⟩ k = k (.lst (cutD xs lo hi)) ⟨M ++ [.lst xs], n⟩ := by
  unfold slA
  simp only [cellK_new]
theorem addTD_t : addTD (.tup xs) (.tup ys) w k = (xs.length + ys.length ≤ sizeLine ∧ k (.tup (xs ++ ys)) w) := rfl
theorem addCD_l : addCD (.lst xs) (.lst ys) w k = (xs.length + ys.length ≤ sizeLine ∧ k (.rf w.M.length) ⟨w.M ++ [.lst (xs ++ ys)], w.n⟩) := rfl
theorem mulCD_l : mulCD (.lst xs) (.int j) w k = (-(2 ^ 63) ≤ j ∧ j < 2 ^ 63 ∧ xs.length * j.toNat ≤ sizeLine ∧ k (.rf w.M.length) ⟨w.M ++ [.lst (List.replicate j.toNat xs).flatten], w.n⟩) := rfl
theorem isbD_b {a b : Bool} : isbD (.bl a) (.bl b) w k = k (.bl (decide (a = b))) w := rfl
theorem isnotbD_b {a b : Bool} : isnotbD (.bl a) (.bl b) w k = k (.bl (!decide (a = b))) w := rfl
theorem mSplitC_s {a b : Str} : mSplitC (.str a) [.str b] w k = ((b.length == 0) = false ∧ a.length + 2 ≤ sizeLine ∧ k (.rf w.M.length) ⟨w.M ++ [.lst ((Txt.split a b).map D.str)], w.n⟩) := rfl
end
theorem lows_of {n : Nat} : ∀ {xs : List D}, (∀ x ∈ xs, low n x = true) → lows n xs = true
  | [], _ => rfl
  | x :: xs, h => by
    unfold lows
    rw [h x List.mem_cons_self, lows_of fun y hy => h y (List.mem_cons_of_mem _ hy)]
    rfl
def lstK (d : D) (w : Wd) (f : List D → Prop) : Prop := match d with
  | .lst xs => f xs
  | .rf i => cellK i w f
  | _ => False
def addLD : F2 := fun x y w k => lstK x w fun xs => lstK y w fun ys => xs.length + ys.length ≤ sizeLine ∧ k (.lst (xs ++ ys)) w
theorem lst_get {K : PySem.W.Frag} {G : Gh} {S H : Hp} {w : Wd} {v : V} {d : D} {f : List D → Prop} (hr : HR K G S w H) (r : Rep K G S v d) (h : lstK d w f) : ∃ a xs ds, v = .ref a ∧ H a = some (.lst xs) ∧ RepAll K G S xs ds ∧ f ds := by
  cases r with
  | lst e r => exact ⟨_, _, _, rfl, hr.same _ _ e, r, h⟩
  | rf e =>
    obtain ⟨es, xs, _, _, h2, h3, h4⟩ := cell_get hr e h
    exact ⟨_, _, _, rfl, h2, h3, h4⟩
  | _ => exact h.elim
theorem ok_addLD {K : PySem.W.Frag} : BinOk K rCat addLD := by
  intro G S H w x y d e k Q hr rx ry kl h
  obtain ⟨a, xs, ds, rfl, h1, h2, h⟩ := lst_get hr rx h
  obtain ⟨b, ys, es, rfl, h3, h4, h5, h6⟩ := lst_get hr ry h
  exact ⟨_, _, _, _, rfl, rfl, h1, h3, by rw [h2.length, h4.length]; exact h5, kl.newL hr (h2.append h4) h6⟩
theorem de_addl {X : Cx} {E : XK} {a b : Expr} {ga gb : GE} {pos : Pos} (ha : DE X E a ga) (hb : DE X E b gb) : DE X E (.BinOp a .Add b pos) (gBin addLD ga gb) := de_bin op_cat ok_addLD ha hb
theorem lstK_l {xs : List D} {w : Wd} {f : List D → Prop} : lstK (.lst xs) w f = f xs := rfl
theorem lstK_r {i : Nat} {w : Wd} {f : List D → Prop} : lstK (.rf i) w f = cellK i w f := rfl
theorem addLD_eq {x y : D} {w : Wd} {k : KD} : addLD x y w k = lstK x w fun xs => lstK y w fun ys => xs.length + ys.length ≤ sizeLine ∧ k (.lst (xs ++ ys)) w := rfl
end DL

namespace DL
open PySem PySem.Spec PyProof.Rows L2 RZ

theorem lc_tyf {α : Type} {gt : GG} {tt : GT} {ge : GE} {Ok : Wd → Prop} {ρ : Rho} {k : KD} {w : Wd} (toD f : α → D) (p : α → Bool) (xs : List α) (hOk : Ok w) (hl : xs.length ≤ 100000)
    (h : ∀ a, a ∈ xs → ∀ (A : KD) (B : Wd → Prop), (p a = true → A (f a) w) → (p a = false → B w) → gt (toD a) ρ w fun ρ1 w1 => tt ρ1 w1 noX fun c w2 => if c = true then ge ρ1 w2 noX A else B w2)
    (hk : k (.lst ((xs.filter p).map f)) w) : ∃ P : List D → List D → Wd → Prop, P (xs.map toD) [] w ∧ LcS gt tt ge Ok ρ k P := by
  refine ⟨fun rem acc w' => w' = w ∧ ∃ dn rs, xs = dn ++ rs ∧ rem = rs.map toD ∧ acc = (dn.filter p).map f, ⟨rfl, [], xs, rfl, rfl, rfl⟩, ?_, ?_⟩
  · rintro acc w' ⟨rfl, dn, rs, e, e2, rfl⟩
    have : rs = [] := by simpa using e2.symm
    subst this
    rw [List.append_nil] at e
    subst e
    exact ⟨hOk, hk⟩
  · rintro x rem acc w' ⟨rfl, dn, rs, e, e2, rfl⟩
    cases rs with
    | nil => cases e2
    | cons a rs =>
      rw [List.map_cons] at e2
      injection e2 with e2 e3
      subst e2
      subst e3
      refine ⟨hOk, ?_⟩
      have ha : a ∈ xs := by rw [e]; simp
      have hlen : dn.length ≤ xs.length := by rw [e]; simp
      refine h a ha _ _ (fun hp => ⟨?_, rfl, dn ++ [a], rs, by rw [e]; simp, rfl, ?_⟩) (fun hp => ⟨rfl, dn ++ [a], rs, by rw [e]; simp, rfl, ?_⟩)
      · rw [List.length_map]
        have := List.length_filter_le p dn
        exact Nat.lt_of_le_of_lt (show (dn.filter p).length ≤ 100000 by omega) (by decide)
      · rw [List.filter_append, List.filter_cons, if_pos hp, List.map_append]
        rfl
      · rw [List.filter_append, List.filter_cons, if_neg (by rw [hp]; decide), List.filter_nil, List.append_nil]
theorem lc_ty {α : Type} {gt : GG} {ge : GE} {Ok : Wd → Prop} {ρ : Rho} {k : KD} {w : Wd} (toD f : α → D) (xs : List α) (hOk : Ok w) (hl : xs.length ≤ 100000)
    (h : ∀ a, a ∈ xs → ∀ k' : KD, k' (f a) w → gt (toD a) ρ w fun ρ1 w1 => ge ρ1 w1 noX k') (hk : k (.lst (xs.map f)) w) : ∃ P : List D → List D → Wd → Prop, P (xs.map toD) [] w ∧ LcS gt gYes ge Ok ρ k P := by
  refine lc_tyf toD f (fun _ => true) xs hOk hl (fun a ha A B h1 _ => ?_) ?_
  · exact h a ha A (h1 rfl)
  · rw [List.filter_eq_self.mpr fun _ _ => rfl]
    exact hk
theorem at_last1 {α : Type} (xs : List α) (v : α) : atI (xs ++ [v]) (-1) = some v := atI_last xs v
theorem cut_init {α : Type} (xs : List α) (v : α) : cutD (xs ++ [v]) none (some (-1)) = xs := by
  unfold cutD
  rw [HT.sIx_none, List.drop_zero, Nat.sub_zero]
  have : HT.sIx (xs ++ [v]).length (xs ++ [v]).length (some (-1)) = xs.length := by
    show (if (-1 : Int) < 0 then ((-1 : Int) + ((xs ++ [v]).length : Int)).toNat else min (-1 : Int).toNat (xs ++ [v]).length) = _
    rw [if_pos (by decide), List.length_append, List.length_singleton]
    omega
  rw [this, List.take_left]
theorem rep_mem {α : Type} {n : Nat} {xs : List α} {x : α} (h : x ∈ (List.replicate n xs).flatten) : x ∈ xs := by
  obtain ⟨l, h1, h2⟩ := List.mem_flatten.mp h
  rw [List.eq_of_mem_replicate h1] at h2
  exact h2
theorem rep_flen {α : Type} (n : Nat) (xs : List α) : ((List.replicate n xs).flatten).length = n * xs.length := by
  rw [List.length_flatten, List.map_replicate, List.sum_replicate_nat]
theorem cut_len' {α : Type} (xs : List α) (lo hi : Option Int) : (cutD xs lo hi).length ≤ xs.length := by
  unfold cutD
  rw [List.length_take, List.length_drop]
  omega
theorem split_last {α : Type} {xs : List α} (h : 0 < xs.length) : ∃ ys y, xs = ys ++ [y] := by
  have : xs ≠ [] := fun z => by rw [z] at h; cases h
  exact ⟨xs.dropLast, xs.getLast this, (List.dropLast_concat_getLast this).symm⟩
end DL

namespace DL
open PySem PySem.Spec PyProof.Rows L2 RZ

def keyD : D → Option Key
  | .int i => some (.inl i)
  | .str s => some (.inr s)
  | _ => none
section
variable {K : PySem.W.Frag} {G : Gh} {S H : Hp} {w : Wd}
theorem rep_key {v : V} {d : D} {k : Key} (r : Rep K G S v d) (h : keyD d = some k) : v = kV k := by
  cases r with
  | int i => cases h; rfl
  | str i => cases h; rfl
  | _ => cases h
section
variable {κ : Type} [DecidableEq κ]
def valD (kvs : List (κ × D)) (k : κ) : Option D := (kvs.find? fun kv => decide (kv.1 = k)).map (·.2)
def putD (kvs : List (κ × D)) (k : κ) (d : D) : List (κ × D) := if (kvs.any fun kv => decide (kv.1 = k)) = true then kvs.map fun kv => if kv.1 = k then (kv.1, d) else kv else kvs ++ [(k, d)]
theorem fs_some {k : κ} {d : D} : ∀ {xs : List (κ × V)} {ys : List (κ × D)}, FsRep K G S xs ys → valD ys k = some d → ∃ v, valV xs k = some v ∧ Rep K G S v d
  | _, _, .nil, e => nomatch e
  | x :: xs, y :: ys, .cons h r, e => by
    by_cases hk : y.1 = k
    · have e2 : valD (y :: ys) k = some y.2 := by simp [valD, List.find?_cons, hk]
      rw [e2] at e
      cases e
      exact ⟨x.2, valV_pos (h.1.trans hk), h.2⟩
    · have e2 : valD (y :: ys) k = valD ys k := by simp [valD, List.find?_cons, hk]
      rw [e2] at e
      rw [valV_neg fun z => hk (h.1.symm.trans z)]
      exact fs_some r e
theorem fs_none {k : κ} : ∀ {xs : List (κ × V)} {ys : List (κ × D)}, FsRep K G S xs ys → valD ys k = none → valV xs k = none
  | _, _, .nil, _ => rfl
  | x :: xs, y :: ys, .cons h r, e => by
    by_cases hk : y.1 = k
    · have e2 : valD (y :: ys) k = some y.2 := by simp [valD, List.find?_cons, hk]
      rw [e2] at e
      cases e
    · have e2 : valD (y :: ys) k = valD ys k := by simp [valD, List.find?_cons, hk]
      rw [e2] at e
      rw [valV_neg fun z => hk (h.1.symm.trans z)]
      exact fs_none r e
end
def dkK (i : Nat) (w : Wd) (f : List (Key × D) → Prop) : Prop := match w.M[i]? with
  | some (.dk xs) => f xs
  | _ => False
theorem KL.newCell {k : KD} {Q : VK} {o : HO} {c : Cell} (kl : KL K G S k Q) (hr : HR K G S w H) (h : k (.rf w.M.length) ⟨w.M ++ [c], w.n⟩) {p : Addr} (hp : H p = none) (hc : CellOk K ⟨G.al ++ [p], G.st, G.fr⟩ S (upd H p o) p c) : Q (.ref p) (upd H p o) := by
  obtain ⟨h1, x1⟩ := hr.newC hp o c hc
  refine kl _ _ _ _ _ _ x1 h1 (.rf ?_) h
  show (G.al ++ [p])[w.M.length]? = some p
  rw [List.getElem?_append_right (by rw [hr.len]; exact Nat.le_refl _), hr.len, Nat.sub_self]
  rfl
end
def gDNew : GE := fun _ w _ k => k (.rf w.M.length) ⟨w.M ++ [.dk []], w.n⟩
def keyK (d : D) (f : Key → Prop) : Prop := match keyD d with
  | some k => f k
  | none => False
def rfK (d : D) (f : Nat → Prop) : Prop := match d with
  | .rf i => f i
  | _ => False
def gDGet (go gi : GE) : GE := fun ρ w kx k => go ρ w kx fun x w1 => gi ρ w1 kx fun y w2 => rfK x fun i => keyK y fun q => dkK i w2 fun kvs => someK (valD kvs q) fun d => k d w2
def gDGet2 (go gi gd : GE) : GE := fun ρ w kx k => go ρ w kx fun x w1 => rfK x fun i => dkK i w1 fun _ => gi ρ w1 kx fun y w2 => gd ρ w2 kx fun z w3 => keyK y fun q => dkK i w3 fun kvs => k ((valD kvs q).getD z) w3
def gDSetd (go gi gd : GE) : GE := fun ρ w kx k => go ρ w kx fun x w1 => rfK x fun i => dkK i w1 fun _ => gi ρ w1 kx fun y w2 => gd ρ w2 kx fun z w3 => keyK y fun q => dkK i w3 fun kvs => kvs.length < sizeLine ∧ match valD kvs q with
  | some d => k d w3
  | none => k z ⟨w3.M.set i (.dk (putD kvs q z)), w3.n⟩
def ggDPut (go gi : GE) : GG := fun d ρ w k => go ρ w noX fun x w1 => gi ρ w1 noX fun y w2 => rfK x fun i => keyK y fun q => dkK i w2 fun kvs => kvs.length < sizeLine ∧ k ρ ⟨w2.M.set i (.dk (putD kvs q d)), w2.n⟩
theorem keyK_rep {K : PySem.W.Frag} {G : Gh} {S : Hp} {v : V} {d : D} {f : Key → Prop} (r : Rep K G S v d) (h : keyK d f) : ∃ k, v = kV k ∧ f k := by
  unfold keyK at h
  split at h
  · rename_i k e
    exact ⟨k, rep_key r e, h⟩
  · exact h.elim
section
variable {X : Cx} {E : XK} {o i e : Expr} {go gi gd : GE} {pos apos cpos : Pos}
theorem de_dnew : DE X E (.Dict [] [] pos) gDNew := pe_imp pe_dnewK (by
  rintro σ H Q ⟨G, S, ρ, w, kx, k, hr, sr, xl, kl, h⟩ p hp
  exact kl.newCell hr h hp ⟨hr.freshS hp, [], upd_same, .nil⟩)
end
def fSortD : FB := fun ds w k => match ds with
  | [.rf i] => dkK i w fun kvs => ∃ ks : List Str, kvs.map (·.1) = ks.map Sum.inr ∧ ks.length < 64 ∧ ∀ ys : List Str, ys.Perm ks → sortedS ys = true → k (.lst (ys.map D.str)) w
  | _ => False
def insK (C : Addr) (i : Nat) (w : Wd) (f : List (Str × D) → Prop) : Prop := match w.M[i]? with
  | some (.ins C' fs) => C' = C ∧ f fs
  | _ => False
def putFD (f : Str) (d : D) : List (Str × D) → List (Str × D)
  | [] => [(f, d)]
  | (g, x) :: r => if g = f then (g, d) :: r else (g, x) :: putFD f d r
section
variable {K : PySem.W.Frag} {G : Gh} {S : Hp}
end
def gFld (C : Addr) (go : GE) (f : Str) : GE := fun ρ w kx k => go ρ w kx fun x w1 => rfK x fun i => insK C i w1 fun fs => someK (fs.lookup f) fun d => k d w1
def gSetF (C : Addr) (go gv : GE) (f : Str) : GS := fun F ρ w => gv ρ w F.ex fun d w1 => go ρ w1 F.ex fun x w2 => rfK x fun i => insK C i w2 fun fs => fs.length < 1000 ∧ F.nx ρ ⟨w2.M.set i (.ins C (putFD f d fs)), w2.n⟩
def gMeth (C : Addr) (n : Nat) (sp : GF) (m : Str) (go : GE) (ga : GA) : GE := fun ρ w kx k => go ρ w kx fun x w1 => rfK x fun i => insK C i w1 fun fs => fs.lookup m = none ∧ ga ρ w1 kx fun xs w2 => (x :: xs).length = n ∧ sp (x :: xs) w2 noX k
def gMake (C : Addr) (n : Nat) (sp : GF) (ga : GA) : GE := fun ρ w kx k => ga ρ w kx fun xs w1 => (D.rf w1.M.length :: xs).length = n ∧ sp (.rf w1.M.length :: xs) ⟨w1.M ++ [.ins C []], w1.n⟩ noX fun d w2 => d = .non ∧ k (.rf w1.M.length) w2
structure ClsAt (K : PySem.W.Frag) (mg : Str → Option Value) (x : Str) (C : Addr) (fs : List Str) : Prop where
  cl : Cls K C
  mgC : mg x = some (.ref C)
  na : ∀ f ∈ fs, NoAttr K C f
structure MethAt (K : PySem.W.Frag) (C : Addr) (m qual : Str) (st : Stmt) (ps : List Str) : Prop where
  ex : ∃ f fd, Fun K m qual st f fd ∧ Meth K C m f ∧ Binds K fd ps []
structure InitAt (K : PySem.W.Frag) (C : Addr) (qual : Str) (st : Stmt) (ps : List Str) : Prop where
  ex : ∃ f fd, Fun K "__init__" qual st f fd ∧ Mk K C f ∧ Binds K fd ps []
structure MtAt (P : Program) (w : World) (K : PySem.W.Frag) (mg : Str → Option Value) (base : Heap) (CX : CXT) (k : Nat) (C : Addr) (m : Str) (n : Nat) (g : GF) : Prop where
  ex : ∃ f fd ps, FnOk P w K mg base CX k f fd ps (upF n K g) ∧ Meth K C m f ∧ Binds K fd ps []
structure InAt (P : Program) (w : World) (K : PySem.W.Frag) (mg : Str → Option Value) (base : Heap) (CX : CXT) (k : Nat) (C : Addr) (n : Nat) (g : GF) : Prop where
  ex : ∃ f fd ps, FnOk P w K mg base CX k f fd ps (upF n K g) ∧ Mk K C f ∧ Binds K fd ps []
section
variable {P : Program} {w : World} {K : PySem.W.Frag} {mg : Str → Option Value} {base : Heap}
theorem MtAt.imp {CX : CXT} {k : Nat} {C : Addr} {m : Str} {n : Nat} {g g' : GF} (h : MtAt P w K mg base CX k C m n g) (i : ∀ ds w kx k, g' ds w kx k → g ds w kx k) : MtAt P w K mg base CX k C m n g' := by
  obtain ⟨f, fd, ps, h1, h2⟩ := h.ex
  exact ⟨f, fd, ps, h1.imp (up_imp i), h2⟩
theorem InAt.imp {CX : CXT} {k : Nat} {C : Addr} {n : Nat} {g g' : GF} (h : InAt P w K mg base CX k C n g) (i : ∀ ds w kx k, g' ds w kx k → g ds w kx k) : InAt P w K mg base CX k C n g' := by
  obtain ⟨f, fd, ps, h1, h2⟩ := h.ex
  exact ⟨f, fd, ps, h1.imp (up_imp i), h2⟩
theorem MtAt.trunc {CX : CXT} {k : Nat} {C : Addr} {m : Str} {n : Nat} {g : GF} (h : MtAt P w K mg base CX k C m n g) : MtAt P w K mg base CX k C m n (gTr g) := by
  obtain ⟨f, fd, ps, h1, h2⟩ := h.ex
  exact ⟨f, fd, ps, h1.imp tr_up, h2⟩
theorem fun_fnq {x q : Str} {st : Stmt} {f : Addr} {fd : FuncData} {N ps : List Str} {k : Nat} {g : GS} (F : Fun K x q st f fd) (S : FnScope N ps (defScope st))
    (hbody : ∀ (f : Addr) (cdv : Value) (A : Around) (outer : List Env) (s : Shared) (H : Hp) (E : XK), Room k (A.deeper (envOfC q (defScope st) s.heap.objs.size f cdv)) →
      DSs (cxOf CX0 P w K mg base N q (defScope st) f cdv A outer s H E).nox E0 (defBody st) g) : FnOk P w K mg base CX0 (k + 1) f fd ps (upF ps.length K (sem0 N.length g)) := by
  refine F.ok S (fun vs H Q E h => ?_) (fun cdv A outer s H vs Q E hr h => ?_)
  · obtain ⟨G, S, ds, w, kx, k, h1, h2, h3, _⟩ := h
    rw [h3.length, h1]
  · obtain ⟨G, S1, ds, w1, kx, k1, h1, h2, h3, h4, h5, h6⟩ := h
    refine ⟨_, hbody f cdv A outer s H E hr, G, S1, rho N.length ds, w1, { nx := fun _ w' => k1 .non w', rt := k1, ex := noX }, h2, sr_start h3, ⟨fun G' S' H' w' ρ' σ' x1 hr1 _ hk => h5 _ _ _ _ _ _ x1 hr1 .non hk, h5, ?_, ?_, xl_no⟩, h6⟩
    · intro _ _ _ _ _ _ _ _ _ z
      exact z.elim
    · intro _ _ _ _ _ _ _ _ _ z
      exact z.elim
theorem MethAt.fn0 {C : Addr} {m q : Str} {st : Stmt} {N ps : List Str} {k : Nat} {g : GS} (T : MethAt K C m q st ps) (S : FnScope N ps (defScope st))
    (hbody : ∀ (f : Addr) (cdv : Value) (A : Around) (outer : List Env) (s : Shared) (H : Hp) (E : XK), Room k (A.deeper (envOfC q (defScope st) s.heap.objs.size f cdv)) →
      DSs (cxOf CX0 P w K mg base N q (defScope st) f cdv A outer s H E).nox E0 (defBody st) g) : MtAt P w K mg base CX0 (k + 1) C m ps.length (sem0 N.length g) := by
  obtain ⟨f, fd, F, hm, hb⟩ := T.ex
  exact ⟨f, fd, ps, fun_fnq F S hbody, hm, hb⟩
theorem InitAt.fn0 {C : Addr} {q : Str} {st : Stmt} {N ps : List Str} {k : Nat} {g : GS} (T : InitAt K C q st ps) (S : FnScope N ps (defScope st))
    (hbody : ∀ (f : Addr) (cdv : Value) (A : Around) (outer : List Env) (s : Shared) (H : Hp) (E : XK), Room k (A.deeper (envOfC q (defScope st) s.heap.objs.size f cdv)) →
      DSs (cxOf CX0 P w K mg base N q (defScope st) f cdv A outer s H E).nox E0 (defBody st) g) : InAt P w K mg base CX0 (k + 1) C ps.length (sem0 N.length g) := by
  obtain ⟨f, fd, F, hm, hb⟩ := T.ex
  exact ⟨f, fd, ps, fun_fnq F S hbody, hm, hb⟩
end
section
variable {X : Cx} {E : XK} {o e value : Expr} {es : List Expr} {go gv : GE} {ga : GA} {pos pos' apos p : Pos} {f x m : Str} {C : Addr} {fs : List Str} {k n : Nat} {g : GF}
end
end DL

namespace DL
open PySem PySem.Spec PyProof.Rows L2 RZ
structure XCls (K : PySem.W.Frag) (mg : Str → Option Value) (x : Str) (C : Addr) : Prop where
  mgC : mg x = some (.ref C)
  kp : PySem.W.keepIn K (.ref C) = true
  exc : PySem.W.excIn K C [.type "ValueError", .type "Exception", .type "BaseException", .type "object"] "ValueError.__new__" = true
  sub : PySem.W.subIn K (.ref C) (.type "BaseException") = some true
  ty : PySem.W.typeIn K (.ref C) = some (.type "type")
structure Tk (X : Cx) (E : XK) : Prop where
  tk : Takes X (fun cls d _ H => E cls d H)
def gRaise (C : Addr) : GS := fun F _ w => F.ex (.own C) w
section
variable {P : Program} {w : World} {K : PySem.W.Frag} {mg : Str → Option Value} {base : Heap}
theorem fun_fnX {x q : Str} {st : Stmt} {f : Addr} {fd : FuncData} {N ps : List Str} {k : Nat} {g : GS} (F : Fun K x q st f fd) (S : FnScope N ps (defScope st))
    (hbody : ∀ (f : Addr) (cdv : Value) (A : Around) (outer : List Env) (s : Shared) (H : Hp) (E : XK), Room k (A.deeper (envOfC q (defScope st) s.heap.objs.size f cdv)) →
      Tk (cxOf (L2.CX P w) P w K mg base N q (defScope st) f cdv A outer s H E) E → DSs (cxOf (L2.CX P w) P w K mg base N q (defScope st) f cdv A outer s H E) E (defBody st) g) : FnOk P w K mg base (L2.CX P w) (k + 1) f fd ps (upF ps.length K (semX N.length g)) := by
  refine F.okX S (fun vs H Q E h => ?_) (fun cdv A outer s H vs Q E hr h => ?_)
  · obtain ⟨G, S, ds, w, kx, k, h1, h2, h3, _⟩ := h
    rw [h3.length, h1]
  · obtain ⟨G, S1, ds, w1, kx, k1, h1, h2, h3, h4, h5, h6⟩ := h
    refine ⟨_, hbody f cdv A outer s H E hr ⟨takes_of rfl rfl rfl rfl⟩, G, S1, rho N.length ds, w1, { nx := fun _ w' => k1 .non w', rt := k1, ex := kx }, h2, sr_start h3, ⟨fun G' S' H' w' ρ' σ' x1 hr1 _ hk => h5 _ _ _ _ _ _ x1 hr1 .non hk, h5, ?_, ?_, h4⟩, h6⟩
    · intro _ _ _ _ _ _ _ _ _ z
      exact z.elim
    · intro _ _ _ _ _ _ _ _ _ z
      exact z.elim
theorem DefAt.fnX {x : Str} {st : Stmt} {N ps : List Str} {k : Nat} {g : GS} (T : DefAt K mg x st ps) (S : FnScope N ps (defScope st))
    (hbody : ∀ (f : Addr) (cdv : Value) (A : Around) (outer : List Env) (s : Shared) (H : Hp) (E : XK), Room k (A.deeper (envOfC x (defScope st) s.heap.objs.size f cdv)) →
      Tk (cxOf (L2.CX P w) P w K mg base N x (defScope st) f cdv A outer s H E) E → DSs (cxOf (L2.CX P w) P w K mg base N x (defScope st) f cdv A outer s H E) E (defBody st) g) : FnAt P w K mg base (L2.CX P w) (k + 1) x ps.length (semX N.length g) := by
  obtain ⟨f, fd, F, hm, hb⟩ := T.ex
  exact ⟨f, fd, ps, fun_fnX F S hbody, hm, F.kp, hb⟩
theorem MethAt.fnX {C : Addr} {m q : Str} {st : Stmt} {N ps : List Str} {k : Nat} {g : GS} (T : MethAt K C m q st ps) (S : FnScope N ps (defScope st))
    (hbody : ∀ (f : Addr) (cdv : Value) (A : Around) (outer : List Env) (s : Shared) (H : Hp) (E : XK), Room k (A.deeper (envOfC q (defScope st) s.heap.objs.size f cdv)) →
      Tk (cxOf (L2.CX P w) P w K mg base N q (defScope st) f cdv A outer s H E) E → DSs (cxOf (L2.CX P w) P w K mg base N q (defScope st) f cdv A outer s H E) E (defBody st) g) : MtAt P w K mg base (L2.CX P w) (k + 1) C m ps.length (semX N.length g) := by
  obtain ⟨f, fd, F, hm, hb⟩ := T.ex
  exact ⟨f, fd, ps, fun_fnX F S hbody, hm, hb⟩
end
def gCallX (n : Nat) (g : GF) (ga : GA) : GE := fun ρ w kx k => ga ρ w kx fun ds w1 => ds.length = n ∧ g ds w1 kx k
def gMethX (C : Addr) (n : Nat) (sp : GF) (m : Str) (go : GE) (ga : GA) : GE := fun ρ w kx k => go ρ w kx fun x w1 => rfK x fun i => insK C i w1 fun fs => fs.lookup m = none ∧ ga ρ w1 kx fun xs w2 => (x :: xs).length = n ∧ sp (x :: xs) w2 kx k
section
variable {X : Cx} {E : XK} {k n : Nat} {g : GF} {x m : Str} {e o : Expr} {es : List Expr} {ga : GA} {go : GE} {p pos apos : Pos} {C : Addr} {fs : List Str}
end
end DL

namespace DL
open PySem PySem.Spec PyProof.Rows L2 RZ
def DEW (X : Cx) (W : WX) (e : Expr) (g : GE) : Prop := PE X e (fun σ H Q => upE X.K (WE W σ) g σ H Q)
def DSW (X : Cx) (W : WX) (st : Stmt) (g : GS) : Prop := PS X st (fun D σ H => upS X.K (WE W σ) g D σ H)
def DSsW (X : Cx) (W : WX) (st : List Stmt) (g : GS) : Prop := PSs X st (fun D σ H => upS X.K (WE W σ) g D σ H)
section
variable {X : Cx} {W : WX} {k n : Nat} {g : GF} {x m : Str} {e o : Expr} {es : List Expr} {ga : GA} {go ge : GE} {p pos apos : Pos} {C : Addr} {fs : List Str}
def tMethS (C : Addr) (m : Str) (sp : Sp) (E : L2.St → XK) (ta : TE) (t : TA) : TE := fun σ H Q => ta σ H fun x H1 => ∃ a dx fs, x = .ref a ∧ H1 a = some (.ins C dx fs) ∧ fs.lookup m = none ∧ t σ H1 fun vs H2 => sp (x :: vs) H2 Q (E σ)
end
def gTry (i j : Nat) (P : Addr → Prop) (body : GS) : GS := fun F ρ w => i < ρ.length ∧ body { F with ex := fun e w' => match e with
  | .own C => P C ∧ F.nx ((ρ.set j (some (.rf w'.M.length))).set i none) ⟨w'.M ++ [.exc C], w'.n⟩
  | _ => False } ρ w
end DL

namespace DL
open PySem PySem.Spec PyProof.Rows L2 RZ
structure XF where
  (bf taken noname toomuch norate noneleft endless badrow royal : Addr)
  nd : [bf, taken, noname, toomuch, norate, noneleft].Nodup
  ne : ∀ a ∈ [bf, taken, noname, toomuch, norate, noneleft], a ≠ endless ∧ a ≠ badrow ∧ a ≠ royal
  nr : endless ≠ royal ∧ badrow ≠ royal
def XF.all (X : XF) : List (Str × Addr) := [("BadFraction", X.bf), ("Taken", X.taken), ("NoName", X.noname), ("TooMuch", X.toomuch), ("NoRate", X.norate), ("NoneLeft", X.noneleft), ("Endless", X.endless), ("BadRow", X.badrow), ("RoyalError", X.royal)]
def XF.addrs (X : XF) : List Addr := [X.bf, X.taken, X.noname, X.toomuch, X.norate, X.noneleft, X.endless, X.badrow, X.royal]
def XF.raised (X : XF) : List Addr := [X.bf, X.taken, X.noname, X.toomuch, X.norate, X.noneleft]
def isEV (X : XF) (D : Addr) : V → Option Bool
  | .ref C => if C ∈ X.addrs then some (decide (D = C ∨ C = X.royal)) else none
  | .ty n => if n = "ValueError" then some true else none
  | _ => none
def isEVs (X : XF) (A : Addr) : List D → Option Bool
  | [] => some false
  | .ob v :: r => match isEV X A v, isEVs X A r with
    | some a, some b => some (a || b)
    | _, _ => none
  | _ :: _ => none
def excK (X : XF) (i : Nat) (w : Wd) (f : Addr → Prop) : Prop := match w.M[i]? with
  | some (.exc A) => A ∈ X.raised ∧ f A
  | _ => False
def optK (o : Option Bool) (f : Bool → Prop) : Prop := match o with
  | some b => f b
  | none => False
def fIsE (X : XF) : FB := fun ds w k => match ds with
  | [.rf i, .ob v] => excK X i w fun A => optK (isEV X A v) fun b => k (.bl b) w
  | _ => False
def fIsET (X : XF) : FB := fun ds w k => match ds with
  | [.rf i, .tup cs] => excK X i w fun A => optK (isEVs X A cs) fun b => k (.bl b) w
  | _ => False
structure XFK (K : PySem.W.Frag) (mg : Str → Option Value) (X : XF) : Prop where
  at_ : ∀ p ∈ X.all, mg p.1 = some (.ref p.2) ∧ PySem.W.keepIn K (.ref p.2) = true ∧ PySem.W.hasDictIn K p.2 = true ∧ PySem.W.typeIn K (.ref p.2) = some (.type "type") ∧ PySem.W.subIn K (.ref p.2) (.type "BaseException") = some true
  exc : ∀ A ∈ X.raised, PySem.W.excIn K A [.type "ValueError", .type "Exception", .type "BaseException", .type "object"] "ValueError.__new__" = true ∧ ExcC K A ∧ PySem.W.subIn K (.ref A) (.type "ValueError") = some true
  sub : ∀ A ∈ X.raised, ∀ C ∈ X.addrs, PySem.W.subIn K (.ref A) (.ref C) = some (decide (A = C ∨ C = X.royal))
section
variable {K : PySem.W.Frag} {mg : Str → Option Value} {X : XF}
theorem XFK.addr (h : XFK K mg X) {C : Addr} (hC : C ∈ X.addrs) : ∃ x, mg x = some (.ref C) ∧ PySem.W.keepIn K (.ref C) = true ∧ PySem.W.hasDictIn K C = true ∧ PySem.W.typeIn K (.ref C) = some (.type "type") ∧ PySem.W.subIn K (.ref C) (.type "BaseException") = some true := by
  have : ∃ p ∈ X.all, p.2 = C := by
    have e : X.addrs = X.all.map (·.2) := rfl
    rw [e] at hC
    exact List.mem_map.mp hC
  obtain ⟨p, hp, rfl⟩ := this
  exact ⟨p.1, h.at_ p hp⟩
theorem XFK.one (h : XFK K mg X) {A : Addr} (hA : A ∈ X.raised) {v : V} {b : Bool} (e : isEV X A v = some b) : ∃ u, ClsV v u ∧ PySem.W.kitOne K (.ref A) u = some b := by
  unfold isEV at e
  split at e
  · rename_i C
    split at e
    · rename_i hC
      refine ⟨.ref C, .own C, ?_⟩
      obtain ⟨_, _, _, hd, ht, _⟩ := h.addr hC
      obtain ⟨cd, hc, _⟩ := PySem.W.any_some hd
      have hs := h.sub A hA C hC
      unfold PySem.W.kitOne PySem.W.kitCls
      by_cases hAC : A = C
      · subst hAC
        simp only [beq_self_eq_true, if_true]
        rw [← e]
        simp
      · rw [if_neg (by simpa using hAC)]
        have e2 : ((PySem.W.clsIn K C).isSome && PySem.W.typeIn K (.ref C) == some (.type "type")) = true := by rw [hc, ht] <;> rfl
        simp only [e2, if_true]
        rw [hs, e]
    · cases e
  · rename_i n
    split at e
    · rename_i hn
      subst hn
      cases e
      refine ⟨.type "ValueError", .ty _, ?_⟩
      unfold PySem.W.kitOne PySem.W.kitCls
      rw [if_neg (by simp)]
      have e2 : PySem.W.kitMeta "ValueError" = true := by decide +kernel
      simp only [e2, if_true]
      exact (h.exc A hA).2.2
    · cases e
  · cases e
theorem XFK.any (h : XFK K mg X) {G : Gh} {S : Hp} {A : Addr} (hA : A ∈ X.raised) : ∀ {vs : List V} {ds : List D} {b : Bool}, RepAll K G S vs ds → isEVs X A ds = some b → ∃ us, Paired ClsV vs us ∧ PySem.W.kitAny K (.ref A) us = some b := by
  intro vs ds b r e
  induction ds generalizing vs b with
  | nil =>
    cases r
    cases e
    exact ⟨[], .nil, rfl⟩
  | cons d ds ih =>
    cases r with
    | cons h1 r =>
      cases d with
      | ob v =>
        simp only [isEVs] at e
        cases e1 : isEV X A v with
        | none => rw [e1] at e; cases e
        | some a1 =>
          cases e2 : isEVs X A ds with
          | none => rw [e1, e2] at e; cases e
          | some b1 =>
            rw [e1, e2] at e
            cases e
            cases h1
            obtain ⟨u, c, hu⟩ := h.one hA e1
            obtain ⟨us, p, hus⟩ := ih r e2
            refine ⟨u :: us, .cons c p, ?_⟩
            unfold PySem.W.kitAny
            rw [hu]
            cases a1
            · exact hus
            · rfl
      | _ => simp [isEVs] at e
end
section
variable {X : Cx} {E : XK} {e : Expr} {es : List Expr} {ga : GA} {p pos : Pos} {F : XF}
theorem tk0 {X : Cx} : Takes X (fun _ _ _ _ => False) := fun _ _ ⟨_, _, _, _, _, _, _, _, _, _, _, _, _, _, _, _, h⟩ => h.elim
theorem Tk.no {X : Cx} : Tk X E0 := ⟨tk0⟩
theorem XFK.royal {K : PySem.W.Frag} {mg : Str → Option Value} (h : XFK K mg F) : ∀ B, B ∈ F.raised → PySem.W.exmOne K (.ref B) (.ref F.royal) = some true := by
  intro B hB
  obtain ⟨_, _, hd, ht, hb⟩ := h.at_ ("RoyalError", F.royal) (by simp [XF.all])
  refine PySem.W.exm_ref hb hd ht ?_
  rw [h.sub B hB F.royal (by simp [XF.addrs])]
  simp
theorem XFK.own {K : PySem.W.Frag} {mg : Str → Option Value} (h : XFK K mg F) {x : Str} {C : Addr} (hx : (x, C) ∈ F.all) : mg x = some (.ref C) := (h.at_ _ hx).1
theorem XFK.kp {K : PySem.W.Frag} {mg : Str → Option Value} (h : XFK K mg F) {x : Str} {C : Addr} (hx : (x, C) ∈ F.all) : PySem.W.keepIn K (.ref C) = true := (h.at_ _ hx).2.1
end
end DL

namespace DL
open PySem PySem.Spec PyProof.Rows L2 RZ

def LamOut (H H1 : Hp) (P c : Addr) (q : Str) (ps : Array Value) : Prop :=
  (H1 = H ∧ H c = some (LamX.CodeO c q)) ∨ ∃ a b : Value, H c = none ∧ TriplesOk (ps ++ #[a, b, .ref c]).toList ∧ H1 = upd (upd H P (.tbl (ps ++ #[a, b, .ref c]))) c (LamX.CodeO c q) ∧
    ∀ (p' : Pos) (cv : Value), codeAmong p' (ps ++ #[a, b, .ref c]).toList = some cv → codeAmong p' ps.toList = some cv ∨ cv = .ref c
structure LamIx (params : Arguments) (scope : Scope) (one : Str) : Prop where
  kind : scope.kind = .function
  co : scope.isCoroutine = false
  gen : scope.isGenerator = false
  cell : ∀ x ∈ scope.names, x.2 ≠ .cell
  free : ∀ x ∈ scope.names, x.2 ≠ .free
  loc : scope.names.lookup one = some .local
  bind : ∀ (q : Str) (body : Expr) (cl : List (Str × Addr)) (pm cv ctv v : Value), bindArgs (PySem.W.kla_fn "<lambda>" q params body scope cl pm cv ctv) ⟨[v], []⟩ = pure [(one, v)]
end DL

namespace DL
open PySem PySem.Spec PyProof.Rows L2 RZ

def keyI (i : Int) (d : D) : Int := match d with
  | .tup ys => match atI ys i with
    | some (.int n) => n
    | _ => 0
  | _ => 0
def HasKey (i : Int) (d : D) : Prop := ∃ ys n, d = .tup ys ∧ atI ys i = some (.int n)
def leI (i : Int) (a b : D) : Bool := decide (keyI i a ≤ keyI i b)
def newK (c : Bool) (ds : List D) (w : Wd) (k : KD) : Prop := match c with
  | false => k (.lst ds) w
  | true => k (.rf w.M.length) ⟨w.M ++ [.lst ds], w.n⟩
def gSortKeyG (c : Bool) (P : Addr) (q : Str) (i : Int) (ge : GE) : GE := fun ρ w kx k => ge ρ w kx fun d w1 => lstK d w1 fun xs => (∃ j : Nat, w1.M[j]? = some (.tbl P q)) ∧ (∀ x ∈ xs, HasKey i x) ∧ newK c (xs.mergeSort (leI i)) w1 k
abbrev gSortKey := gSortKeyG false
abbrev gSortKeyC := gSortKeyG true
section
variable {X : Cx} {E : XK}
end
end DL

namespace DL
open PySem PySem.Spec PyProof.Rows L2 RZ

def encD (d : D) : PyData := (toPD d).getD .none
def rSortDat (K : PySem.W.Frag) : List V → Hp → VK → Prop := fun xs H Q => ∃ (a : Addr) (ts : List (V × D)), xs = [.ref a] ∧ SqL K H a (ts.map Prod.fst) ∧ (∀ t ∈ ts, Dp K H t.1 (encD t.2)) ∧ PySem.W.AllAlike ((ts.map Prod.snd).map encD) ∧ PySem.W.Sortable ((ts.map Prod.snd).map encD) ∧
  (∀ t ∈ ts, (encD t.2).depth < 60) ∧ ∀ p, H p = none → Q (.ref p) (upd H p (.lst ((ts.mergeSort (PySem.W.dataLe false fun t => encD t.2)).map Prod.fst)))
def fSortDat : FB := fun ds w k => match ds with
  | [d] => lstK d w fun xs => (∀ x ∈ xs, ∃ p, toPD x = some p ∧ p.depth < 60) ∧ PySem.W.AllAlike (xs.map encD) ∧ PySem.W.Sortable (xs.map encD) ∧ k (.lst (xs.mergeSort (PySem.W.dataLe false encD))) w
  | _ => False
def fSortDatC : FB := fun ds w k => match ds with
  | [d] => lstK d w fun xs => (∀ x ∈ xs, ∃ p, toPD x = some p ∧ p.depth < 60) ∧ PySem.W.AllAlike (xs.map encD) ∧ PySem.W.Sortable (xs.map encD) ∧ k (.rf w.M.length) ⟨w.M ++ [.lst (xs.mergeSort (PySem.W.dataLe false encD))], w.n⟩
  | _ => False
section
variable {X : Cx} {E : XK} {e : Expr} {es : List Expr} {ga : GA} {p pos : Pos} (B : Blt X.mg) {kk : Nat} (hr : Room kk X.A)
include B hr
end

def rInC (K : PySem.W.Frag) (neg : Bool) : R2 := fun x y H Q => (∃ (a : Addr) (o : Option V), y = .ref a ∧ DGet H a x o ∧ Q (.bl (if neg then !o.isSome else o.isSome)) H) ∨ rIn K neg x y H Q
theorem op_inC {X : Cx} (hu : X.A.units + 1 < cLine) : OpR X (compareOp .In) (rInC X.K false) := by
  intro pins s σ H x y v u Q I rx ry h
  rcases h with ⟨a, o, rfl, g, q⟩ | h
  · obtain rfl : u = Value.ref a := ry
    exact d_in hu I g rx fun s3 I3 => ⟨.bl o.isSome, H, I3, rfl, q⟩
  · exact op_in_seq pins s σ H x y v u Q I rx ry h
theorem op_notInC {X : Cx} (hu : X.A.units + 1 < cLine) : OpR X (compareOp .NotIn) (rInC X.K true) := by
  intro pins s σ H x y v u Q I rx ry h
  rcases h with ⟨a, o, rfl, g, q⟩ | h
  · obtain rfl : u = Value.ref a := ry
    exact d_notIn hu I g rx fun s3 I3 => ⟨.bl (!o.isSome), H, I3, rfl, q⟩
  · exact op_notIn_seq pins s σ H x y v u Q I rx ry h
def inL (x : D) (xs : List D) (f : Bool → Prop) : Prop := match x with
  | .str s => ∃ ss, allStr xs = some ss ∧ f (decide (s ∈ ss))
  | .int i => ∃ is, allInt xs = some is ∧ f (decide (i ∈ is))
  | _ => False
def inC (x y : D) (w : Wd) (f : Bool → Prop) : Prop := match y with
  | .lst xs => inL x xs f
  | .tup xs => inL x xs f
  | .rf i => match w.M[i]? with
    | some (.lst xs) => inL x xs f
    | some (.dk kvs) => keyK x fun q => f (valD kvs q).isSome
    | _ => False
  | _ => False
def inCD : F2 := fun x y w k => inC x y w fun b => k (.bl b) w
def notinCD : F2 := fun x y w k => inC x y w fun b => k (.bl (!b)) w
theorem inV_str (s : Str) (ss : List Str) : inV (.str s) (ss.map V.str) = decide (s ∈ ss) := by
  unfold inV
  rw [Bool.eq_iff_iff, List.any_eq_true, decide_eq_true_iff]
  constructor
  · rintro ⟨v, hv, e⟩
    obtain ⟨t, ht, rfl⟩ := List.mem_map.mp hv
    have : t = s := by simpa [eqV] using e
    rw [← this]
    exact ht
  · intro h
    exact ⟨.str s, List.mem_map.mpr ⟨s, h, rfl⟩, by simp [eqV]⟩
theorem inV_int (s : Int) (ss : List Int) : inV (.int s) (ss.map V.int) = decide (s ∈ ss) := by
  unfold inV
  rw [Bool.eq_iff_iff, List.any_eq_true, decide_eq_true_iff]
  constructor
  · rintro ⟨v, hv, e⟩
    obtain ⟨t, ht, rfl⟩ := List.mem_map.mp hv
    have : t = s := by simpa [eqV] using e
    rw [← this]
    exact ht
  · intro h
    exact ⟨.int s, List.mem_map.mpr ⟨s, h, rfl⟩, by simp [eqV]⟩
theorem flat_strs (ss : List Str) : (ss.map V.str).all flatV = true := by simp [flatV]
theorem flat_ints (ss : List Int) : (ss.map V.int).all flatV = true := by simp [flatV]
theorem inL_ok {K : PySem.W.Frag} {G : Gh} {S H : Hp} {w : Wd} {v : V} {x : D} {a : Addr} {ys : List V} {xs : List D} {neg : Bool} {k : KD} {Q : VK} (hr : HR K G S w H) (rx : Rep K G S v x) (hs : SqL K H a ys ∨ SqT K H a ys) (ry : RepAll K G S ys xs) (kl : KL K G S k Q)
    (h : inL x xs fun b => k (.bl (if neg then !b else b)) w) : rInC K neg v (.ref a) H Q := by
  unfold inL at h
  split at h
  · obtain ⟨ss, e, h⟩ := h
    cases rx
    have e2 := rep_strs' ry e
    subst e2
    refine .inr ⟨a, _, rfl, hs, rfl, flat_strs ss, ?_⟩
    rw [inV_str]
    cases neg <;> exact kl.here hr (.bl _) h
  · obtain ⟨ss, e, h⟩ := h
    cases rx
    have e2 := rep_ints ry e
    subst e2
    refine .inr ⟨a, _, rfl, hs, rfl, flat_ints ss, ?_⟩
    rw [inV_int]
    cases neg <;> exact kl.here hr (.bl _) h
  · exact h.elim
theorem inC_ok {K : PySem.W.Frag} {neg : Bool} {f : F2} (hf : ∀ x y w k, f x y w k → inC x y w fun b => k (.bl (if neg then !b else b)) w) : BinOk K (rInC K neg) f := by
  intro G S H w x y d e k Q hr rx ry kl h
  have h := hf _ _ _ _ h
  unfold inC at h
  split at h
  · cases ry with
    | lst e1 r1 => exact inL_ok hr rx (.inl (.inl (.inl (hr.same _ _ e1)))) r1 kl h
  · cases ry with
    | tup e1 r1 => exact inL_ok hr rx (.inr ((sqT_up hr.same e1))) r1 kl h
  · rename_i i
    cases ry with
    | rf ea =>
      rename_i a
      split at h
      · rename_i xs e2
        obtain ⟨_, ys, h1, h2⟩ := hr.cell _ _ _ ea e2
        exact inL_ok hr rx (.inl (.inl (.inl h1))) h2 kl h
      · rename_i kvs e2
        obtain ⟨_, ys, h1, h2⟩ := hr.cell _ _ _ ea e2
        obtain ⟨q, rfl, h4⟩ := keyK_rep rx h
        refine .inl ⟨a, _, rfl, DGet.k h1, ?_⟩
        have hv : (valV ys q).isSome = (valD kvs q).isSome := by
          cases z : valD kvs q with
          | none =>
            rw [fs_none h2 z]
            rfl
          | some d =>
            obtain ⟨v, z2, _⟩ := fs_some h2 z
            rw [z2]
            rfl
        rw [hv]
        cases neg <;> exact kl.here hr (.bl _) h4
      · exact h.elim
  · exact h.elim
section
variable {X : Cx} {E : XK} {a b : Expr} {ga gb : GE} {pos : Pos} {kk : Nat} (hr : Room kk X.A)
include hr
theorem de_inC (ha : DE X E a ga) (hb : DE X E b gb) (hm : behindInMarks .In b = false := by rfl) : DE X E (.Compare a [.In] [b] pos) (gBin inCD ga gb) := de_cmp (op_inC (hu_of hr)) (inC_ok (neg := false) fun _ _ _ _ h => h) ha hb hm
theorem dt_notinC (ha : DE X E a ga) (hb : DE X E b gb) (hm : behindInMarks .NotIn b = false := by rfl) : DT X E (.Compare a [.NotIn] [b] pos) (gB (gBin notinCD ga gb)) := dt_cmp (op_notInC (hu_of hr)) (inC_ok (neg := true) fun _ _ _ _ h => h) ha hb hm
end

def gDGet1 (go gi : GE) : GE := fun ρ w kx k => go ρ w kx fun x w1 => rfK x fun i => dkK i w1 fun _ => gi ρ w1 kx fun y w2 => keyK y fun q => dkK i w2 fun kvs => k ((valD kvs q).getD .non) w2
def gLock (g : GE) : GE := fun ρ w kx k => ∃ (i : Nat) (kvs : List (Key × D)), w.M[i]? = some (.dk kvs) ∧ ∀ o ks, g ρ ⟨w.M.set i (.lk o ks kvs), w.n⟩ kx fun d w1 => w1.M[i]? = some (.lk o ks kvs) ∧ k d ⟨w1.M.set i (.dk kvs), w1.n⟩
def keyOfD : Key → D
  | .inl i => .int i
  | .inr s => .str s
def itemsD (kvs : List (Key × D)) : List D := kvs.map fun p => .tup [keyOfD p.1, p.2]
def lkK (i : Nat) (w : Wd) (f : Obj → List (Key × V) → List (Key × D) → Prop) : Prop := match w.M[i]? with
  | some (.lk o ks kvs) => f o ks kvs
  | _ => False
def giItems (go : GE) : GI := fun ρ w kx k => go ρ w kx fun x w1 => rfK x fun i => lkK i w1 fun o ks kvs => k (itemsD kvs) (fun w => w.M[i]? = some (.lk o ks kvs)) w1
def giKeys (go : GE) : GI := fun ρ w kx k => go ρ w kx fun x w1 => rfK x fun i => lkK i w1 fun o ks kvs => k (kvs.map fun p => keyOfD p.1) (fun w => w.M[i]? = some (.lk o ks kvs)) w1
section
variable {X : Cx} {E : XK}
end
end DL

namespace DL
open PySem PySem.Spec PyProof.Rows L2 RZ

def gPairs : List (Str × GE) → Rho → Wd → KX → KA → Prop
  | [], _, w, _, k => k [] w
  | p :: r, ρ, w, kx, k => p.2 ρ w kx fun d w1 => gPairs r ρ w1 kx fun ds w2 => k (d :: ds) w2
def gDisp (ps : List (Str × GE)) : GE := fun ρ w kx k => gPairs ps ρ ⟨w.M ++ [.dk []], w.n⟩ kx fun ds w1 => w1.M[w.M.length]? = some (.dk []) ∧ k (.rf w.M.length) ⟨w1.M.set w.M.length (.dk ((ps.map fun p => (Sum.inr p.1 : Key)).zip ds)), w1.n⟩
def DPs (X : Cx) (E : XK) (pos : Pos) (ks : List (Option Expr)) (vs : List Expr) (ps : List (Str × GE)) : Prop := ∃ trs, PPs X pos ks vs trs ∧ ∀ σ H (Q : List (V × V) → Hp → Prop),
  (∃ G S ρ w kx k, HR X.K G S w H ∧ SR X.K G S σ ρ ∧ XL X.K G S kx E ∧ (∀ G' S' H' w' ds vs, Ext G S G' S' → HR X.K G' S' w' H' → RepAll X.K G' S' vs ds → k ds w' → vs.length = ps.length → Q ((ps.map fun p => V.str p.1).zip vs) H') ∧ gPairs ps ρ w kx k) → tPairs trs σ H Q
section
variable {X : Cx} {E : XK} {pos : Pos}
theorem dps_nil : DPs X E pos [] [] [] := ⟨[], pps_nil, by
  rintro σ H Q ⟨G, S, ρ, w, kx, k, hr, sr, xl, kl, h⟩
  exact kl _ _ _ _ [] [] (Ext.refl _ _) hr .nil h rfl⟩
theorem dps_cons {s : Str} {j : Nat} {p : Pos} {v : Expr} {ks : List (Option Expr)} {vs : List Expr} {g : GE} {ps : List (Str × GE)} (hv : DE X E v g) (hr : DPs X E pos ks vs ps) : DPs X E pos (some (.Constant (.str s) j p) :: ks) (v :: vs) ((s, g) :: ps) := by
  obtain ⟨trs, h1, h2⟩ := hr
  refine ⟨_, pps_cons pe_str hv h1, ?_⟩
  rintro σ H Q ⟨G, S, ρ, w, kx, k, hr, sr, xl, kl, h⟩
  show upE X.K E g σ H fun y H2 => tPairs trs σ H2 fun ps H3 => Q ((V.str s, y) :: ps) H3
  refine ⟨G, S, ρ, w, kx, _, hr, sr, xl, fun G1 S1 H1 w1 d x x1 hr1 rp hq => ?_, h⟩
  refine h2 σ H1 _ ⟨G1, S1, ρ, w1, kx, _, hr1, sr.mono x1, xl.mono x1, fun G2 S2 H2 w2 ds us x2 hr2 rps hq2 hl => ?_, hq⟩
  exact kl _ _ _ _ (d :: ds) (x :: us) (x1.trans x2) hr2 (.cons (rp.mono x2) rps) hq2 (by rw [List.length_cons, List.length_cons, hl])
theorem mergeK_nd : ∀ (more acc : List (Key × V)), ((acc ++ more).map Prod.fst).Nodup → mergeK acc more = acc ++ more
  | [], acc, _ => by simp [mergeK]
  | kv :: more, acc, h => by
    have e : putK acc kv.1 kv.2 = acc ++ [kv] := by
      unfold putK
      rw [if_neg]
      intro z
      obtain ⟨x, hx, e⟩ := List.any_eq_true.mp z
      have e := of_decide_eq_true e
      rw [List.map_append, List.nodup_append] at h
      exact h.2.2 x.1 (List.mem_map.mpr ⟨x, hx, rfl⟩) kv.1 (by simp) e
    show mergeK (putK acc kv.1 kv.2) more = _
    rw [e, mergeK_nd more (acc ++ [kv]) (by rw [List.append_assoc]; exact h), List.append_assoc]
    rfl
theorem fs_zip {K : PySem.W.Frag} {G : Gh} {S : Hp} : ∀ {ks : List Key} {vs : List V} {ds : List D}, RepAll K G S vs ds → FsRep K G S (ks.zip vs) (ks.zip ds)
  | [], _, _, _ => .nil
  | k :: ks, _, _, .nil => .nil
  | k :: ks, _, _, .cons h r => .cons ⟨rfl, h⟩ (fs_zip r)
theorem zip_kV : ∀ (ss : List Str) (vs : List V), (ss.map V.str).zip vs = ((ss.map fun s => (Sum.inr s : Key)).zip vs).map fun kv => (kV kv.1, kv.2)
  | [], _ => rfl
  | s :: ss, [] => rfl
  | s :: ss, v :: vs => by
    rw [List.map_cons, List.map_cons, List.zip_cons_cons, List.zip_cons_cons, List.map_cons, zip_kV ss vs]
    rfl
theorem de_disp {keys : List (Option Expr)} {values : List Expr} {ps : List (Str × GE)} (h : DPs X E pos keys values ps) (hall : keys.all (·.isSome) = true) (hl : keys.length = values.length) (h0 : keys ≠ []) (h15 : keys.length ≤ 15) (hp15 : ps.length ≤ 15) (hnd : (ps.map fun p => (Sum.inr p.1 : Key)).Nodup) : DE X E (.Dict keys values pos) (gDisp ps) := by
  obtain ⟨trs, h1, h2⟩ := h
  refine pe_imp (pe_disp h1 hall hl h0 h15) ?_
  rintro σ H Q ⟨G, S, ρ, w, kx, k, hr, sr, xl, kl, h⟩ p hp
  obtain ⟨hr1, x1⟩ := hr.newC hp (.dK []) (.dk []) ⟨hr.freshS hp, [], upd_same, .nil⟩
  have ep : (G.al ++ [p])[w.M.length]? = some p := by
    rw [List.getElem?_append_right (by rw [hr.len]; exact Nat.le_refl _), hr.len, Nat.sub_self]
    rfl
  refine h2 σ _ _ ⟨_, S, ρ, _, kx, _, hr1, sr.mono x1, xl.mono x1, fun G2 S2 H2 w2 ds vs x2 hr2 rps hq hlen => ?_, h⟩
  obtain ⟨e2, hk⟩ := hq
  have ep2 := x2.alGet ep
  obtain ⟨hs, ks, g1, g2⟩ := hr2.cell _ _ _ ep2 e2
  cases g2
  have ez : (ps.map fun q => V.str q.1).zip vs = ((ps.map fun q => (Sum.inr q.1 : Key)).zip vs).map fun kv => (kV kv.1, kv.2) := by
    have := zip_kV (ps.map (·.1)) vs
    rw [List.map_map, List.map_map] at this
    exact this
  refine ⟨g1, (ps.map fun q => (Sum.inr q.1 : Key)).zip vs, ez, ?_, ?_⟩
  · rw [List.length_zip, List.length_map]
    omega
  · rw [mergeK_nd _ _ (by
      rw [List.nil_append, List.map_fst_zip (by rw [List.length_map, hlen]; exact Nat.le_refl _)]
      exact hnd), List.nil_append]
    exact kl _ _ _ _ _ _ (x1.trans x2) (hr2.setC (c := .dk ((ps.map fun q => (Sum.inr q.1 : Key)).zip ds)) ep2 e2 hs ⟨hs, _, upd_same, fs_zip rps⟩) (.rf ep2) hk
end

def fSortDC : FB := fun ds w k => match ds with
  | [.rf i] => dkK i w fun kvs => ∃ ks : List Str, kvs.map (·.1) = ks.map Sum.inr ∧ ks.length < 64 ∧ ∀ ys : List Str, ys.Perm ks → sortedS ys = true → k (.rf w.M.length) ⟨w.M ++ [.lst (ys.map D.str)], w.n⟩
  | _ => False
def toPDw (w : Wd) (d : D) : Option PyData := match d with
  | .rf i => match w.M[i]? with
    | some (.lst xs) => (toPDs xs).map .list
    | _ => none
  | d => toPD d
def neCD : F2 := fun x y w k => match x, y with
  | .str s, .str t => k (.bl (!decide (s = t))) w
  | x, y => match toPDw w x, toPD y with
    | some p, some q => SeqAt.shaped p = true ∧ SeqAt.shaped q = true ∧ k (.bl (!PyData.eqv p q)) w
    | _, _ => False
section
variable {X : Cx} {E : XK} {a b : Expr} {ga gb : GE} {pos : Pos} {kk : Nat} (hr : Room kk X.A)
include hr
end

def qLam (x : Str) : Str := (x ++ ".<locals>.") ++ "<lambda>"
structure FunC (K : PySem.W.Frag) (x qual : Str) (st : Stmt) (f : Addr) (fd : FuncData) (c : Addr) : Prop where
  ex : ∃ (oc : Value) (od : Option Addr) (kV doc pm : Value) (an : Option Addr) (ct : Value) (osl : Array (Option Value)),
    fd = PySem.W.fnOf x qual (defArgs st) (defBody st) (defScope st) .none kV doc pm an (.ref c) ct ∧ K.lookup f = some ⟨oc, od, .func fd, osl⟩ ∧ PySem.W.codeIn K (.ref c) qual = true
  kp : PySem.W.keepIn K (.ref f) = true
theorem FunC.fun {K : PySem.W.Frag} {x qual : Str} {st : Stmt} {f : Addr} {fd : FuncData} {c : Addr} (F : FunC K x qual st f fd c) : Fun K x qual st f fd := by
  obtain ⟨oc, od, kV, doc, pm, an, ct, osl, e1, e2, e3⟩ := F.ex
  exact ⟨⟨oc, od, kV, doc, pm, an, .ref c, ct, osl, e1, e2, e3⟩, F.kp⟩
structure DefAtT (K : PySem.W.Frag) (mg : Str → Option Value) (base : Heap) (x : Str) (st : Stmt) (ps : List Str) (P : Addr) : Prop where
  ex : ∃ f fd c, FunC K x x st f fd c ∧ mg x = some (.ref f) ∧ Binds K fd ps [] ∧ LamX.TabB base mg c P
theorem DefAtT.fn0 {P : Program} {w : World} {K : PySem.W.Frag} {mg : Str → Option Value} {base : Heap} {x : Str} {st : Stmt} {N ps : List Str} {Pt : Addr} {k : Nat} {g : GS} (T : DefAtT K mg base x st ps Pt) (S : FnScope N ps (defScope st))
    (hbody : ∀ (f c : Addr) (TB : LamX.TabB base mg c Pt) (A : Around) (outer : List Env) (s : Shared) (H : Hp) (E : XK), Room k (A.deeper (envOfC x (defScope st) s.heap.objs.size f (.ref c))) →
      DSs (cxOf CX0 P w K mg base N x (defScope st) f (.ref c) A outer s H E).nox E0 (defBody st) g) : FnAt P w K mg base CX0 (k + 1) x ps.length (sem0 N.length g) := by
  obtain ⟨f, fd, c, F, hm, hb, TB⟩ := T.ex
  refine ⟨f, fd, ps, ?_, hm, F.kp, hb⟩
  obtain ⟨oc, od, kV, doc, pm, an, ct, osl, rfl, lk, hcd⟩ := F.ex
  refine fn_of lk hcd S (fun vs H Q E h => ?_) fun A outer s H vs Q E hr hsp => ?_
  · obtain ⟨G, S, ds, w, kx, k, h1, h2, h3, _⟩ := h
    rw [h3.length, h1]
  · obtain ⟨G, S1, ds, w1, kx, k1, h1, h2, h3, h4, h5, h6⟩ := hsp
    refine ⟨_, (hbody f c TB A outer s H E hr).nox, G, S1, rho N.length ds, w1, { nx := fun _ w' => k1 .non w', rt := k1, ex := noX }, h2, sr_start h3, ⟨fun G' S' H' w' ρ' σ' x1 hr1 _ hk => h5 _ _ _ _ _ _ x1 hr1 .non hk, h5, ?_, ?_, xl_no⟩, h6⟩
    · intro _ _ _ _ _ _ _ _ _ z
      exact z.elim
    · intro _ _ _ _ _ _ _ _ _ z
      exact z.elim

def giEnumC (ga : GA) : GI := fun ρ w kx k => ga ρ w kx fun ds w1 => match ds with
  | [.lst xs] => k (enumD 0 xs) (fun _ => True) w1
  | [.rf i] => cellK i w1 fun xs => k (enumD 0 xs) (fun w => w.M[i]? = some (.lst xs)) w1
  | _ => False
end DL

namespace DL
open PySem PySem.Spec PyProof.Rows L2 RZ

def gPar3 (i j l : Nat) (ga : GA) : GS := fun F ρ w => ga ρ w F.ex fun ds w1 => match ds with
  | [d, e, f] => F.nx (((ρ.set i (some d)).set j (some e)).set l (some f)) w1
  | _ => False
section
variable {X : Cx} {E : XK} {pos : Pos}
end
end DL

namespace DL
open PySem PySem.Calls PySem.Spec PyProof.Rows PyProof.V L2 RZ

mutual
theorem reads_there {h : Heap} : ∀ {v : Value} {d : PyData} {as : List Addr}, Reads h v d as → ∀ a ∈ as, ∃ o, h.get? a = some o
  | _, _, _, .none, a, ha => nomatch ha
  | _, _, _, .bool _, a, ha => nomatch ha
  | _, _, _, .int _ _, a, ha => nomatch ha
  | _, _, _, .str _ _, a, ha => nomatch ha
  | _, _, _, .list e _ _ r, a, ha => by
    rcases List.mem_cons.mp ha with rfl | ha
    · exact ⟨_, e⟩
    · exact readsAll_there r a ha
  | _, _, _, .tuple _ _ _ r, a, ha => readsAll_there r a ha
  | _, _, _, .dict e _ _ r1 r2, a, ha => by
    rcases List.mem_append.mp ha with ha | ha
    · rcases List.mem_cons.mp ha with rfl | ha
      · exact ⟨_, e⟩
      · exact readsAll_there r1 a ha
    · exact readsAll_there r2 a ha
theorem readsAll_there {h : Heap} : ∀ {vs : List Value} {ds : List PyData} {as : List Addr}, ReadsAll h vs ds as → ∀ a ∈ as, ∃ o, h.get? a = some o
  | _, _, _, .nil, a, ha => nomatch ha
  | _, _, _, .cons r1 r2, a, ha => by
    rcases List.mem_append.mp ha with ha | ha
    · exact reads_there r1 a ha
    · exact readsAll_there r2 a ha
end
theorem sqL_up {K : PySem.W.Frag} {H H' : Hp} (e : ∀ b o, H b = some o → H' b = some o) {a : Addr} {xs : List V} (h : SqL K H a xs) : SqL K H' a xs := by
  unfold SqL at h ⊢
  rcases h with (h | ⟨o, h⟩) | h
  · exact .inl (.inl (e _ _ h))
  · exact .inl (.inr ⟨o, e _ _ h⟩)
  · exact .inr h
mutual
theorem dp_up {K : PySem.W.Frag} {H H' : Hp} (e : ∀ b o, H b = some o → H' b = some o) : ∀ {v : V} {d : PyData}, Dp K H v d → Dp K H' v d
  | _, _, .non => .non
  | _, _, .bl b => .bl b
  | _, _, .int i => .int i
  | _, _, .str x => .str x
  | _, _, .lst h1 h2 => .lst (sqL_up e h1) (dpAll_up e h2)
  | _, _, .tup h1 h2 => .tup (sqT_up e h1) (dpAll_up e h2)
theorem dpAll_up {K : PySem.W.Frag} {H H' : Hp} (e : ∀ b o, H b = some o → H' b = some o) : ∀ {vs : List V} {ds : List PyData}, DpAll K H vs ds → DpAll K H' vs ds
  | _, _, .nil => .nil
  | _, _, .cons h1 h2 => .cons (dp_up e h1) (dpAll_up e h2)
end
def itemsV (p d : Addr) : HO := .ext fun h => h.IsItemsView p d
section
variable {X : Cx}
def rItemsK : V → List V → Hp → VK → Prop := fun x xs H Q => ∃ (a : Addr) (kvs : List (Key × V)), x = .ref a ∧ xs = [] ∧ H a = some (.dK kvs) ∧ ∀ p, H p = none → Q (.ref p) (upd H p (itemsV p a))
def keyE : Key → PyData
  | .inl i => .int i
  | .inr s => .str s
def pairE (t : (Key × V) × D) : PyData := .tuple [keyE t.1.1, encD t.2]
def rSortItK (K : PySem.W.Frag) : List V → Hp → VK → Prop := fun xs H Q => ∃ (p a : Addr) (ts : List ((Key × V) × D)), xs = [.ref p] ∧ H p = some (itemsV p a) ∧ H a = some (.dK (ts.map Prod.fst)) ∧ (∀ t ∈ ts, Dp K H t.1.2 (encD t.2)) ∧ PySem.W.AllAlike (ts.map pairE) ∧ PySem.W.Sortable (ts.map pairE) ∧
  (∀ t ∈ ts, (encD t.2).depth < 60) ∧
  ∀ (as : List Addr) (l : Addr), as.length = ts.length → as.Nodup → (∀ b ∈ as, H b = none) → H l = none → l ∉ as → Q (.ref l) (upd (LiI.putT H as (ts.map Prod.fst)) l (.lst (((as.zip ts).mergeSort (PySem.W.dataLe false fun z => pairE z.2)).map fun z => V.ref z.1)))
end
def gSortItems (go : GE) : GE := fun ρ w kx k => go ρ w kx fun x w1 => rfK x fun i => dkK i w1 fun kvs => (∀ y ∈ kvs, ∃ p, toPD y.2 = some p ∧ p.depth < 60) ∧ PySem.W.AllAlike ((itemsD kvs).map encD) ∧ PySem.W.Sortable ((itemsD kvs).map encD) ∧ k (.lst ((itemsD kvs).mergeSort (PySem.W.dataLe false encD))) w1
def pairD (t : (Key × V) × D) : D := .tup [keyOfD t.1.1, t.2]
section
variable {X : Cx} {E : XK} {e : Expr} {ge : GE} {p apos cpos pos : Pos} {kk : Nat}
end
section
variable {X : Cx} {E : XK} {e : Expr} {ge : GE} {p apos cpos pos : Pos} {kk : Nat}
def gLockO (g : GE) : GE := fun ρ w kx k => gLock g ρ w kx k ∨ g ρ w kx k
def gMid (g : GE) : GE := fun ρ w kx k => g ρ w kx fun x w1 => k x w1 ∨ rfK x fun i => dkK i w1 fun kvs => ∀ o ks, k x ⟨w1.M.set i (.lk o ks kvs), w1.n⟩
end
def fMaxL : FB := fun ds w k => match ds with
  | [.lst xs] => match allInt xs with
    | some ns => 0 < ns.length ∧ ∀ m, m ∈ ns → (∀ y, y ∈ ns → y ≤ m) → k (.int m) w
    | none => False
  | _ => False
def gLockS (g : GS) : GS := fun F ρ w => ∃ (i : Nat) (kvs : List (Key × D)), w.M[i]? = some (.dk kvs) ∧ ∀ o ks, g { nx := fun ρ' w1 => w1.M[i]? = some (.lk o ks kvs) ∧ F.nx ρ' ⟨w1.M.set i (.dk kvs), w1.n⟩, rt := fun _ _ => False, ex := F.ex } ρ ⟨w.M.set i (.lk o ks kvs), w.n⟩
def gLockSO (g : GS) : GS := fun F ρ w => gLockS g F ρ w ∨ g F ρ w
end DL

namespace DL
open PySem PySem.Spec PyProof.Rows L2 RZ

end DL

namespace DL
open PySem PySem.Spec PyProof.Rows L2 RZ

def inDD : F2 := fun x y w k => ∃ p ps, toPD x = some p ∧ toPDw w y = some (.list ps) ∧ SeqAt.shaped p = true ∧ SeqAt.shaped (.list ps) = true ∧ k (.bl (ps.any fun z => PyData.eqv z p)) w
def notinDD : F2 := fun x y w k => inDD x y w fun d w1 => ∃ b, d = .bl b ∧ k (.bl (!b)) w1
section
variable {X : Cx} {E : XK} {a b : Expr} {ga gb : GE} {pos : Pos} {kk : Nat} (hr : Room kk X.A)
include hr
end
end DL

namespace L2
open PySem PySem.Spec PyProof.Rows
section
variable {P : Program} {w : World} {A : Around} {E : Value → Shared → Prop} {s : Shared}
abbrev newSetO (w : World) : Obj := { cls := .type "set", dict := none, data := .set #[] 0 (.fresh 0 0 (!w.params.followText "set-order")) }
end
def rSetLI (w : World) (K : PySem.W.Frag) : List V → Hp → VK → Prop := fun xs H Q => ∃ (p : Addr) (ns : List Int), xs = [.ref p] ∧ SqL K H p (ns.map V.int) ∧ ns.length ≤ 1000 ∧ ∀ (q : Addr) (c : Nat), H q = none → c ≤ ns.length → Q (.ref q) (upd H q (SetO w q (fun j => decide (j ∈ ns)) c))
end L2

namespace L2
open PySem PySem.Spec PyProof.Rows
section
variable {X : Cx} {pins : List (Addr × Obj)} {σ : St} {H : Hp} {s : Shared} {a : Addr} {A : Around} {E : Value → Shared → Prop}
end
def tDUpd (K : PySem.W.Frag) (td tx : TE) : TE := fun σ H Q => td σ H fun x H1 => ∃ a, x = .ref a ∧ IsD H1 a ∧ tx σ H1 fun y H2 => ∃ (kvs : List (Key × V)) (l : Addr) (ps : List (Addr × Key × V)), H2 a = some (.dK kvs) ∧ y = .ref l ∧ SqL K H2 l (ps.map fun p => V.ref p.1) ∧
  (∀ p ∈ ps, SqT K H2 p.1 [kV p.2.1, p.2.2]) ∧ kvs.length + ps.length ≤ sizeLine ∧ Q .non (upd H2 a (.dK (mergeK kvs (ps.map (·.2)))))
section
variable {X : Cx} {o e : Expr} {td tx : TE} {apos cpos : Pos}
end
end L2

namespace DL
open PySem PySem.Spec PyProof.Rows L2 RZ
def gSortSet (ga : GA) : GE := fun ρ w kx k => ga ρ w kx fun ds w1 => ∃ ns : List Int, ds = [.lst (ns.map D.int)] ∧ ns.length < 64 ∧ ∀ ms : List Int, ms.Pairwise (· < ·) → (∀ j, j ∈ ms ↔ j ∈ ns) → k (.lst (ms.map D.int)) w1
def fMax2 : FB := fun ds w k => match ds with
  | [.int i, .int j] => k (.int (if j > i then j else i)) w
  | _ => False
def fSortDI : FB := fun ds w k => match ds with
  | [.rf i] => dkK i w fun kvs => ∃ ks : List Int, kvs.map (·.1) = ks.map Sum.inl ∧ ks.length < 64 ∧ ∀ ys : List Int, ys.Perm ks → ys.Pairwise (· ≤ ·) → k (.lst (ys.map D.int)) w
  | _ => False
def kD : Key → D
  | .inl i => .int i
  | .inr x => .str x
def mergeD (kvs more : List (Key × D)) : List (Key × D) := more.foldl (fun acc kv => putD acc kv.1 kv.2) kvs
def gDUpd (go ga : GE) : GE := fun ρ w kx k => go ρ w kx fun x w1 => rfK x fun i => dkK i w1 fun _ => ga ρ w1 kx fun y w2 => dkK i w2 fun kvs => ∃ ps : List (Key × D), y = .lst (ps.map fun p => .tup [kD p.1, p.2]) ∧ kvs.length + ps.length ≤ sizeLine ∧
  k .non ⟨w2.M.set i (.dk (mergeD kvs ps)), w2.n⟩
end DL

namespace DL
open PySem PySem.Spec PyProof.Rows L2 RZ

def fDictD : FB := fun ds w k => match ds with
  | [.rf i] => dkK i w fun kvs => k (.rf w.M.length) ⟨w.M ++ [.dk kvs], w.n⟩
  | _ => False
def fDictP : FB := fun ds w k => match ds with
  | [.lst xs] => ∃ ps : List (Key × D), xs = ps.map (fun p => .tup [kD p.1, p.2]) ∧ k (.rf w.M.length) ⟨w.M ++ [.dk (mergeD [] ps)], w.n⟩
  | _ => False
def fListC : FB := fun ds w k => match ds with
  | [d] => match seqD d w with
    | some xs => k (.rf w.M.length) ⟨w.M ++ [.lst xs], w.n⟩
    | none => False
  | _ => False
section
variable {X : Cx} {E : XK} {e : Expr} {es : List Expr} {ga : GA} {p pos : Pos}
end
end DL

namespace DL
open PySem PySem.Spec PyProof.Rows L2 RZ

def mCountB : FM := fun x ds w k => match x, ds with
  | .lst xs, [.bl b] => ∃ bs : List Bool, xs = bs.map D.bl ∧ k (.int ((bs.count b : Nat) : Int)) w
  | _, _ => False
def mIndexB : FM := fun x ds w k => match x, ds with
  | .lst xs, [.bl b] => ∃ (bs : List Bool) (j : Nat), xs = bs.map D.bl ∧ bs[j]? = some b ∧ (∀ m < j, bs[m]? ≠ some b) ∧ k (.int (j : Int)) w
  | _, _ => False
end DL

namespace DL
open PySem PySem.Spec PyProof.Rows L2 RZ

def dkR (i : Nat) (w : Wd) (f : List (Key × D) → Prop) : Prop := match w.M[i]? with
  | some (.dk xs) => f xs
  | some (.lk _ _ xs) => f xs
  | _ => False
section
variable {K : PySem.W.Frag} {G : Gh} {S H : Hp} {w : Wd}
end
def gDGetR (go gi : GE) : GE := fun ρ w kx k => go ρ w kx fun x w1 => gi ρ w1 kx fun y w2 => rfK x fun i => keyK y fun q => dkR i w2 fun kvs => someK (valD kvs q) fun d => k d w2
section
variable {X : Cx} {E : XK} {o i e : Expr} {go gi gd : GE} {pos apos cpos : Pos}
end
theorem rep_strs2 {K : PySem.W.Frag} {G : Gh} {S : Hp} : ∀ {bs : List Str} {vs : List V}, RepAll K G S vs (bs.map D.str) → vs = bs.map V.str
  | [], _, r => by
    cases r
    rfl
  | b :: bs, _, r => by
    cases r with
    | cons h r =>
      cases h
      rw [rep_strs2 r]
      rfl
theorem flat_strsS (bs : List Str) : (bs.map V.str).all flatV = true := by
  rw [List.all_eq_true]
  intro x hx
  obtain ⟨b, _, rfl⟩ := List.mem_map.mp hx
  rfl
def mCountS : FM := fun x ds w k => match x, ds with
  | .lst xs, [.str b] => ∃ bs : List Str, xs = bs.map D.str ∧ k (.int ((bs.count b : Nat) : Int)) w
  | _, _ => False
theorem ok_countS {K : PySem.W.Frag} : MtOk K (rCntV K) mCountS := by
  intro G S H w x d vs ds k Q hr rx rxs kl h
  unfold mCountS at h
  split at h
  · obtain ⟨bs, rfl, h2⟩ := h
    obtain ⟨v, rfl, r⟩ := one_rep rxs
    cases r
    rename_i b
    cases rx with
    | lst e r2 =>
      have e3 := rep_strs2 r2
      subst e3
      refine ⟨_, _, _, rfl, rfl, rfl, flat_strsS bs, .inl (.inl (hr.same _ _ e)), ?_⟩
      have hc : ((bs.map V.str).countP fun z => eqV z (.str b)) = bs.count b := by
        rw [List.countP_map, List.count]
        rfl
      rw [hc]
      exact kl.here hr (.int _) h2
  · exact h.elim
end DL

namespace DL
open PySem PySem.Spec PyProof.Rows L2 RZ

def inRK (x : D) (ds : List D) (w : Wd) (k : Bool → Wd → Prop) : Prop := match x, ds with
  | .int i, [.int lo, .int hi] => k (decide (lo ≤ i ∧ i < hi)) w
  | _, _ => False
def gInR (ge : GE) (ga : GA) : GE := fun ρ w kx k => ge ρ w kx fun x w1 => ga ρ w1 kx fun ds w2 => inRK x ds w2 fun b w3 => k (.bl b) w3
section
variable {X : Cx} {E : XK} {e a : Expr} {es : List Expr} {ge : GE} {ga : GA} {p pos pos2 : Pos}
theorem pe_rangeV (B : Blt X.mg) (hg : Gl X "range") (ha : DA X E (a :: es) ga)
    (he : starEach (a :: es) X.env = (false, eval a X.env) :: starEach es X.env := by rfl) (hpl : (backTo pos2 (starEach es X.env)).any (·.1) = false := by rfl) : PE X (.Call (.Name "range" p) (a :: es) [] pos2) (tCB (fun vs H Q => ∃ i j, vs = [V.int i, V.int j] ∧ ∀ p, H p = none → Q (.ref p) (upd H p (.rng i j))) (upA X.K E ga)) := pe_callTy cr_range2 hg B.range_ (by decide +kernel) ha (by decide) (by decide) he hpl
end
end DL

namespace DL
open PySem PySem.Spec PyProof.Rows L2 RZ
def tLenSetF (K : PySem.W.Frag) (ta : TE) : TE := fun σ H Q => ta σ H fun x H1 => ∃ (l : Addr) (ns : List Int), x = .ref l ∧ SqL K H1 l (ns.map V.int) ∧ ns.length ≤ 4000 ∧ Q (.int ((PyProof.Rows.firstMet (fun i => ns.getD i 0) ns.length).length : Nat)) H1
def gLenSet (ga : GA) : GE := fun ρ w kx k => ga ρ w kx fun ds w1 => ∃ ns : List Int, ds = [.lst (ns.map D.int)] ∧ ns.length ≤ 4000 ∧ ∀ c : Nat, (c = ns.length → ns.Nodup) → k (.int (c : Int)) w1
end DL

namespace DL
open PySem PySem.Spec PyProof.Rows L2 RZ
def TupG (K : PySem.W.Frag) (mg : Str → Option Value) (x : Str) (ns : List Int) : Prop := ∃ a, mg x = some (.ref a) ∧ ∀ H : Hp, SqT K H a (ns.map V.int)
def mPop : FM := fun x ds w k => match x, ds with
  | .rf i, [] => cellK i w fun xs => someK xs[xs.length - 1]? fun d => k d ⟨w.M.set i (.lst xs.dropLast), w.n⟩
  | _, _ => False
def dropD {κ : Type} [DecidableEq κ] (kvs : List (κ × D)) (k : κ) : List (κ × D) := kvs.filter fun kv => decide (kv.1 ≠ k)
def gDPop1 (go gi : GE) : GE := fun ρ w kx k => go ρ w kx fun x w1 => rfK x fun i => dkK i w1 fun _ => gi ρ w1 kx fun y w2 => keyK y fun q => dkK i w2 fun kvs => someK (valD kvs q) fun d => k d ⟨w2.M.set i (.dk (dropD kvs q)), w2.n⟩
def gDPop2 (go gi gd : GE) : GE := fun ρ w kx k => go ρ w kx fun x w1 => rfK x fun i => dkK i w1 fun _ => gi ρ w1 kx fun y w2 => gd ρ w2 kx fun z w3 => keyK y fun q => dkK i w3 fun kvs => match valD kvs q with
  | some d => k d ⟨w3.M.set i (.dk (dropD kvs q)), w3.n⟩
  | none => k z w3
section
variable {X : Cx} {E : XK} {o i e : Expr} {go gi gd : GE} {pos apos cpos : Pos}
end
end DL

namespace DL
open PySem PySem.Spec PyProof.Rows L2 RZ
def gSortItemsC (go : GE) : GE := fun ρ w kx k => go ρ w kx fun x w1 => rfK x fun i => dkK i w1 fun kvs => (∀ y ∈ kvs, ∃ p, toPD y.2 = some p ∧ p.depth < 60) ∧ PySem.W.AllAlike ((itemsD kvs).map encD) ∧ PySem.W.Sortable ((itemsD kvs).map encD) ∧ k (.rf w1.M.length) ⟨w1.M ++ [.lst ((itemsD kvs).mergeSort (PySem.W.dataLe false encD))], w1.n⟩
section
variable {X : Cx} {E : XK} {e : Expr} {ge : GE} {p apos cpos pos : Pos} {kk : Nat}
end
def eqDD : F2 := fun x y w k => match x, y with
  | .rf i, .rf j => ∃ kvs : List (Key × D), w.M[i]? = some (.dk kvs) ∧ w.M[j]? = some (.dk kvs) ∧ (kvs.map (·.1)).Nodup ∧ (∀ p ∈ kvs, ∃ n, p.2 = .int n) ∧ k (.bl true) w
  | _, _ => False
def rEqDD : R2 := fun x y H Q => ∃ a b kvs, x = .ref a ∧ y = .ref b ∧ H a = some (.dK kvs) ∧ H b = some (.dK kvs) ∧ (kvs.map (·.1)).Nodup ∧ (∀ p ∈ kvs, flatB p.2 = true) ∧ Q (.bl true) H
section
variable {X : Cx} {E : XK} {a b : Expr} {ga gb : GE} {pos : Pos} {kk : Nat} (hr : Room kk X.A)
include hr
end
end DL

namespace DL
open PySem PySem.Spec PyProof.Rows L2 RZ
def giRev (ga : GA) : GI := fun ρ w kx k => ga ρ w kx fun ds w1 => match ds with
  | [.lst xs] => k xs.reverse (fun _ => True) w1
  | _ => False
section
variable {X : Cx} {E : XK} {tg : Expr}
end
def gDisp1 (gk gv : GE) : GE := fun ρ w kx k => gk ρ ⟨w.M ++ [.dk []], w.n⟩ kx fun d w1 => keyK d fun q => gv ρ w1 kx fun v w2 => w2.M[w.M.length]? = some (.dk []) ∧ k (.rf w.M.length) ⟨w2.M.set w.M.length (.dk [(q, v)]), w2.n⟩
def mExtendC : FM := fun x ds w k => match x, ds with
  | .rf i, [.rf j] => cellK i w fun xs => cellK j w fun ys => xs.length + ys.length ≤ sizeLine ∧ k .non ⟨w.M.set i (.lst (xs ++ ys)), w.n⟩
  | _, _ => False
end DL

namespace DL
open PySem PySem.Spec PyProof.Rows L2 RZ
theorem rep_strsF {K : PySem.W.Frag} {G : Gh} {S : Hp} : ∀ {ss : List Str} {vs : List V}, RepAll K G S vs (ss.map D.str) → vs = ss.map V.str
  | [], _, .nil => rfl
  | s :: ss, _, .cons h r => by
    cases h
    rw [rep_strsF r]
    rfl
def gJoin (sep : Str) (ge : GE) : GE := fun ρ w kx k => ge ρ w kx fun d w1 => ∃ ss : List Str, (d = .lst (ss.map D.str) ∨ d = .tup (ss.map D.str)) ∧ (ss.map (·.length)).sum + ss.length * sep.length ≤ 16777216 ∧ k (.str (Txt.join sep ss)) w1
theorem de_join {X : Cx} {E : XK} {sep : Str} {e : Expr} {ge : GE} {j : Nat} {p2 apos pos : Pos} (he : DE X E e ge) (hs : starEach [e] X.env = [(false, eval e X.env)] := by rfl) (hbase : attributeBase (.Constant (.str sep) j p2) "join" X.env (eval (.Constant (.str sep) j p2) X.env) = eval (.Constant (.str sep) j p2) X.env := by rfl) (hline : (apos.endLine == pos.line) = true := by rfl) :
    DE X E (.Call (.Attribute (.Constant (.str sep) j p2) "join" apos) [e] [] pos) (gJoin sep ge) := by
  refine pe_imp (pe_join pe_str he hs hbase hline) ?_
  rintro σ H Q ⟨G, S, ρ, w, kx, k, hr, sr, xl, kl, h⟩
  refine ⟨⟨_, rfl⟩, G, S, ρ, w, kx, _, hr, sr, xl, fun G1 S1 H1 w1 d v x1 hr1 rp hq => ?_, h⟩
  obtain ⟨ss, hd, hl, hx⟩ := hq
  rcases hd with rfl | rfl
  · cases rp with
    | @lst t vs _ ht hcs =>
      refine ⟨sep, t, ss, rfl, rfl, .inl ?_, hl, kl _ _ _ _ _ _ x1 hr1 (.str _) hx⟩
      rw [← rep_strsF hcs]
      exact .inl (.inl (hr1.same _ _ ht))
  · cases rp with
    | @tup t vs _ ht hcs =>
      refine ⟨sep, t, ss, rfl, rfl, .inr ?_, hl, kl _ _ _ _ _ _ x1 hr1 (.str _) hx⟩
      rw [← rep_strsF hcs]
      exact sqT_up hr1.same ht
def gRevA (g : GE) : GE := fun ρ w kx k => g ρ w kx fun x w1 => match x with
  | .lst xs => k (.lst xs.reverse) w1
  | .rf i => cellK i w1 fun xs => k (.lst xs.reverse) w1
  | _ => False
def gFrzO (g : GE) : GE := fun ρ w kx k => (g ρ w kx fun x w1 => match x with | .rf i => (match w1.M[i]? with | some (.lst ds) => k (.lst ds) ⟨w1.M.set i .dead, w1.n⟩ | _ => False) | _ => False) ∨ g ρ w kx k
end DL
namespace DL
open PySem PySem.Spec PyProof.Rows L2 RZ
section
variable {X : Cx} {E : XK} {e : Expr} {g : GE}
end
end DL

namespace DL
open PySem PySem.Spec PyProof.Rows L2 RZ
structure RoyK (K : PySem.W.Frag) (mg : Str → Option Value) (C : Addr) (mc : Value) : Prop where
  mgC : mg "RoyalError" = some (.ref C)
  ga : PySem.W.specialIn K (.ref C) "__getattribute__" = some (some (.builtin "type.__getattribute__"))
  ty : PySem.W.typeIn K (.ref C) = some mc
  rd : PySem.W.readsIn K C mc = true
  at_ : PySem.W.findCls K (.ref C) mc "__init__" = some (.val (.builtin "ValueError.__init__"))
def spE (K : PySem.W.Frag) : Sp := fun vs H Q _ => ∃ (a C t : Addr) (ss : List Str), vs = [.ref a, .ref t] ∧ OexC K C ∧ PySem.W.findIn K (.ref C) "names" = some none ∧ H a = some (exo a C none) ∧ SqT K H t (ss.map V.str) ∧ (ss.map (·.length)).sum + ss.length * 1 ≤ 10000 ∧
  ∀ dx, H dx = none → dx ≠ a → Q .non (upd (upd H dx (exd dx [("names", .ref t)])) a (exo a C (some dx)))
end DL

namespace L2
open PySem PySem.Spec PyProof.Rows
def rIsiF (K : PySem.W.Frag) : List V → Hp → VK → Prop := fun xs H Q => ∃ (a D dx : Addr) (fs : List (Str × V)) (c : V) (u : Value) (b : Bool), xs = [.ref a, c] ∧ ExcC K D ∧ H a = some (ExcAt a (.ref D) (some dx)) ∧ H dx = some (.xd fs) ∧ ClsV c u ∧ PySem.W.kitOne K (.ref D) u = some b ∧ Q (.bl b) H
def rIsiTF (K : PySem.W.Frag) : List V → Hp → VK → Prop := fun xs H Q => ∃ (a D dx tp : Addr) (fs : List (Str × V)) (cs : List V) (us : List Value) (b : Bool), xs = [.ref a, .ref tp] ∧ ExcC K D ∧ H a = some (ExcAt a (.ref D) (some dx)) ∧ H dx = some (.xd fs) ∧ SqT K H tp cs ∧ Paired ClsV cs us ∧ PySem.W.kitAny K (.ref D) us = some b ∧ Q (.bl b) H
def tXH (K : PySem.W.Frag) (f : Str) (te : TE) : TE := fun σ H Q => te σ H fun x H1 => ∃ (a C dd : Addr) (fs : List (Str × V)) (v : V), x = .ref a ∧ XfC K C ∧ PySem.W.findIn K (.ref C) f = some none ∧ H1 a = some (ExcAt a (.ref C) (some dd)) ∧ H1 dd = some (.xd fs) ∧ fs.lookup f = some v ∧ Q v H1
section
variable {X : Cx} {pins : List (Addr × Obj)} {σ : St} {H : Hp} {s : Shared}
end
end L2

namespace DL
open PySem PySem.Spec PyProof.Rows L2 RZ
structure EndK (P : Program) (w : World) (K : PySem.W.Frag) (mg : Str → Option Value) (base : Heap) (C : Addr) : Prop where
  oex : OexC K C
  no : PySem.W.findIn K (.ref C) "names" = some none
  at_ : mg "Endless" = some (.ref C)
  ex : ∃ fI fd, PySem.W.findIn K (.ref C) "__init__" = some (some (.ref fI)) ∧ PySem.W.typeIn K (.ref fI) = some (.type "function") ∧ FnOk P w K mg base CX0 1 fI fd ["self", "names"] (spE K) ∧ Binds K fd ["self", "names"] []
def gRaiseF (C : Addr) (ge : GE) : GS := fun F ρ w => ge ρ w F.ex fun d w1 => ∃ ss : List Str, d = .tup (ss.map D.str) ∧ (ss.map (·.length)).sum + ss.length * 1 ≤ 10000 ∧ F.ex (.flds C [("names", d)]) w1
def tryX (i j : Nat) (P : Addr → Prop) (F : DEnds) (ρ : Rho) : KX := fun e w' => match e with
  | .own C => P C ∧ F.nx ((ρ.set j (some (.rf w'.M.length))).set i none) ⟨w'.M ++ [.exc C], w'.n⟩
  | .flds C fs => P C ∧ F.nx ((ρ.set j (some (.rf w'.M.length))).set i none) ⟨w'.M ++ [.exf C fs], w'.n⟩
def gTryF (i j : Nat) (P : Addr → Prop) (body : GS) : GS := fun F ρ w => i < ρ.length ∧ body { F with ex := tryX i j P F ρ } ρ w
def exfK (i : Nat) (w : Wd) (f : Addr → List (Str × D) → Prop) : Prop := match w.M[i]? with
  | some (.exf C fs) => f C fs
  | _ => False
def gXFld (P : Addr → Prop) (n : Str) (go : GE) : GE := fun ρ w kx k => go ρ w kx fun x w1 => rfK x fun i => exfK i w1 fun C fs => P C ∧ someK (fs.lookup n) fun d => k d w1
end DL

namespace DL
open PySem PySem.Spec PyProof.Rows L2 RZ
structure EndF (K : PySem.W.Frag) (X : XF) : Prop where
  exc : ExcC K X.endless
  ve : PySem.W.subIn K (.ref X.endless) (.type "ValueError") = some true
  sub : ∀ C ∈ X.addrs, PySem.W.subIn K (.ref X.endless) (.ref C) = some (decide (X.endless = C ∨ C = X.royal))
  xf : XfC K X.endless
  no : PySem.W.findIn K (.ref X.endless) "names" = some none
def excK2 (X : XF) (i : Nat) (w : Wd) (f : Addr → Prop) : Prop := match w.M[i]? with
  | some (.exc A) => A ∈ X.raised ∧ f A
  | some (.exf A _) => A = X.endless ∧ f A
  | _ => False
def fIsE2 (X : XF) : FB := fun ds w k => match ds with
  | [.rf i, .ob v] => excK2 X i w fun A => optK (isEV X A v) fun b => k (.bl b) w
  | _ => False
def fIsET2 (X : XF) : FB := fun ds w k => match ds with
  | [.rf i, .tup cs] => excK2 X i w fun A => optK (isEVs X A cs) fun b => k (.bl b) w
  | _ => False
section
variable {K : PySem.W.Frag} {mg : Str → Option Value} {X : XF}
theorem EndF.one (g : EndF K X) (h : XFK K mg X) {v : V} {b : Bool} (e : isEV X X.endless v = some b) : ∃ u, ClsV v u ∧ PySem.W.kitOne K (.ref X.endless) u = some b := by
  unfold isEV at e
  split at e
  · rename_i C
    split at e
    · rename_i hC
      refine ⟨.ref C, .own C, ?_⟩
      obtain ⟨_, _, _, hd, ht, _⟩ := h.addr hC
      obtain ⟨cd, hc, _⟩ := PySem.W.any_some hd
      have hs := g.sub C hC
      unfold PySem.W.kitOne PySem.W.kitCls
      by_cases hAC : X.endless = C
      · have e1 : ((Value.ref X.endless == Value.ref C) = true) := by rw [hAC]; exact beq_self_eq_true _
        rw [if_pos e1, ← e, decide_eq_true (.inl hAC)]
      · rw [if_neg (by simpa using hAC)]
        have e2 : ((PySem.W.clsIn K C).isSome && PySem.W.typeIn K (.ref C) == some (.type "type")) = true := by rw [hc, ht] <;> rfl
        simp only [e2, if_true]
        rw [hs, e]
    · cases e
  · rename_i n
    split at e
    · rename_i hn
      subst hn
      cases e
      refine ⟨.type "ValueError", .ty _, ?_⟩
      unfold PySem.W.kitOne PySem.W.kitCls
      rw [if_neg (by simp)]
      have e2 : PySem.W.kitMeta "ValueError" = true := by decide +kernel
      simp only [e2, if_true]
      exact g.ve
    · cases e
  · cases e
theorem EndF.any (g : EndF K X) (h : XFK K mg X) {G : Gh} {S : Hp} : ∀ {ds : List D} {vs : List V} {b : Bool}, RepAll K G S vs ds → isEVs X X.endless ds = some b → ∃ us, Paired ClsV vs us ∧ PySem.W.kitAny K (.ref X.endless) us = some b
  | [], _, _, .nil, e => by
    cases e
    exact ⟨[], .nil, rfl⟩
  | .ob v :: ds, _, _, .cons h1 r, e => by
    simp only [isEVs] at e
    cases e1 : isEV X X.endless v with
    | none => rw [e1] at e; cases e
    | some a1 =>
      cases e2 : isEVs X X.endless ds with
      | none => rw [e1, e2] at e; cases e
      | some b1 =>
        rw [e1, e2] at e
        cases e
        cases h1
        obtain ⟨u, c, hu⟩ := g.one h e1
        obtain ⟨us, p, hus⟩ := g.any h r e2
        refine ⟨u :: us, .cons c p, ?_⟩
        unfold PySem.W.kitAny
        rw [hu]
        cases a1
        · exact hus
        · rfl
  | .non :: _, _, _, _, e => by simp [isEVs] at e
  | .bl _ :: _, _, _, _, e => by simp [isEVs] at e
  | .int _ :: _, _, _, _, e => by simp [isEVs] at e
  | .str _ :: _, _, _, _, e => by simp [isEVs] at e
  | .lst _ :: _, _, _, _, e => by simp [isEVs] at e
  | .tup _ :: _, _, _, _, e => by simp [isEVs] at e
  | .rf _ :: _, _, _, _, e => by simp [isEVs] at e
  | .st :: _, _, _, _, e => by simp [isEVs] at e
  | .scr _ :: _, _, _, _, e => by simp [isEVs] at e
end
section
variable {X : Cx} {E : XK} {e : Expr} {es : List Expr} {ga : GA} {p pos : Pos} {F : XF}
end
end DL

namespace L2
open PySem PySem.Spec PyProof.Rows
def tVal (t : St → Hp → XK → Prop) : TE := fun σ H Q => t σ H fun cls d H' => ∀ a, H' a = none → Q (.ref a) (upd H' a (ExcAt a cls d))
end L2
namespace DL
open PySem PySem.Spec PyProof.Rows L2 RZ
def gExc (C : Addr) (ge : GE) : GE := fun ρ w kx k => ge ρ w kx fun _ w1 => k (.rf w1.M.length) ⟨w1.M ++ [.exc C], w1.n⟩
def gExcF (C : Addr) (n : Str) (ok : D → Prop) (ge : GE) : GE := fun ρ w kx k => ge ρ w kx fun d w1 => ok d ∧ k (.rf w1.M.length) ⟨w1.M ++ [.exf C [(n, d)]], w1.n⟩
def namesOk (d : D) : Prop := ∃ ss : List Str, d = .tup (ss.map D.str) ∧ (ss.map (·.length)).sum + ss.length * 1 ≤ 10000
def rowOk (d : D) : Prop := ∃ z : Int, d = .int z ∧ z.natAbs.log2 < 1920 ∧ (Str.ofString (toString z)).length ≤ 1000
def spB (K : PySem.W.Frag) : Sp := fun vs H Q _ => ∃ (a C : Addr) (z : Int), vs = [.ref a, .int z] ∧ OexC K C ∧ PySem.W.findIn K (.ref C) "row" = some none ∧ H a = some (exo a C none) ∧ z.natAbs.log2 < 1920 ∧ (Str.ofString (toString z)).length ≤ 1000 ∧
  ∀ dx, H dx = none → dx ≠ a → Q .non (upd (upd H dx (exd dx [("row", .int z)])) a (exo a C (some dx)))
structure BadK (P : Program) (w : World) (K : PySem.W.Frag) (mg : Str → Option Value) (base : Heap) (C : Addr) : Prop where
  oex : OexC K C
  no : PySem.W.findIn K (.ref C) "row" = some none
  at_ : mg "BadRow" = some (.ref C)
  ex : ∃ fI fd, PySem.W.findIn K (.ref C) "__init__" = some (some (.ref fI)) ∧ PySem.W.typeIn K (.ref fI) = some (.type "function") ∧ FnOk P w K mg base CX0 1 fI fd ["self", "row"] (spB K) ∧ Binds K fd ["self", "row"] []
structure ExV (K : PySem.W.Frag) (X : XF) (C : Addr) : Prop where
  exc : ExcC K C
  ve : PySem.W.subIn K (.ref C) (.type "ValueError") = some true
  sub : ∀ D ∈ X.addrs, PySem.W.subIn K (.ref C) (.ref D) = some (decide (C = D ∨ D = X.royal))
def excK3 (X : XF) (i : Nat) (w : Wd) (f : Addr → Prop) : Prop := match w.M[i]? with
  | some (.exc A) => (A ∈ X.raised ∨ A = X.royal) ∧ f A
  | some (.exf A _) => (A = X.endless ∨ A = X.badrow) ∧ f A
  | _ => False
def fIsE3 (X : XF) : FB := fun ds w k => match ds with
  | [.rf i, .ob v] => excK3 X i w fun A => optK (isEV X A v) fun b => k (.bl b) w
  | _ => False
structure ExVs (K : PySem.W.Frag) (X : XF) : Prop where
  roy : ExV K X X.royal
  endl : ExV K X X.endless
  bad : ExV K X X.badrow
section
variable {K : PySem.W.Frag} {mg : Str → Option Value} {X : XF}
theorem ExV.one {C : Addr} (g : ExV K X C) (h : XFK K mg X) {v : V} {b : Bool} (e : isEV X C v = some b) : ∃ u, ClsV v u ∧ PySem.W.kitOne K (.ref C) u = some b := by
  unfold isEV at e
  split at e
  · rename_i D
    split at e
    · rename_i hD
      refine ⟨.ref D, .own D, ?_⟩
      obtain ⟨_, _, _, hd, ht, _⟩ := h.addr hD
      obtain ⟨cd, hc, _⟩ := PySem.W.any_some hd
      have hs := g.sub D hD
      unfold PySem.W.kitOne PySem.W.kitCls
      by_cases hAC : C = D
      · have e1 : ((Value.ref C == Value.ref D) = true) := by rw [hAC]; exact beq_self_eq_true _
        rw [if_pos e1, ← e, decide_eq_true (.inl hAC)]
      · rw [if_neg (by simpa using hAC)]
        have e2 : ((PySem.W.clsIn K D).isSome && PySem.W.typeIn K (.ref D) == some (.type "type")) = true := by rw [hc, ht] <;> rfl
        simp only [e2, if_true]
        rw [hs, e]
    · cases e
  · rename_i n
    split at e
    · rename_i hn
      subst hn
      cases e
      refine ⟨.type "ValueError", .ty _, ?_⟩
      unfold PySem.W.kitOne PySem.W.kitCls
      rw [if_neg (by simp)]
      have e2 : PySem.W.kitMeta "ValueError" = true := by decide +kernel
      simp only [e2, if_true]
      exact g.ve
    · cases e
  · cases e
theorem XFK.exv (h : XFK K mg X) {A : Addr} (hA : A ∈ X.raised) : ExV K X A := ⟨(h.exc A hA).2.1, (h.exc A hA).2.2, h.sub A hA⟩
theorem ExVs.exc (g : ExVs K X) (h : XFK K mg X) {A : Addr} (hA : A ∈ X.raised ∨ A = X.royal) : ExV K X A := by
  rcases hA with hA | rfl
  · exact h.exv hA
  · exact g.roy
theorem ExVs.exf (g : ExVs K X) {A : Addr} (hA : A = X.endless ∨ A = X.badrow) : ExV K X A := by
  rcases hA with rfl | rfl
  · exact g.endl
  · exact g.bad
end
end DL

namespace DL
open PySem PySem.Spec PyProof.Rows L2 RZ
structure ExE (P : Program) (w : World) (K : PySem.W.Frag) (mg : Str → Option Value) (base : Heap) (X : XF) : Prop where
  ee : EndK P w K mg base X.endless
  ef : EndF K X
structure ExA (P : Program) (w : World) (K : PySem.W.Frag) (mg : Str → Option Value) (base : Heap) (X : XF) : Prop where
  ev : ExVs K X
  ee : EndK P w K mg base X.endless
  be : BadK P w K mg base X.badrow
  rx : XCls K mg "RoyalError" X.royal
  fe : XfC K X.endless
  fb : XfC K X.badrow
theorem ExE.royal {P : Program} {w : World} {K : PySem.W.Frag} {mg : Str → Option Value} {base : Heap} {X : XF} (g : ExE P w K mg base X) (h : XFK K mg X) : ∀ B, B ∈ X.raised ∨ B = X.endless → PySem.W.exmOne K (.ref B) (.ref X.royal) = some true := by
  intro B hB
  rcases hB with hB | rfl
  · exact h.royal B hB
  · obtain ⟨_, _, hd, ht, hb⟩ := h.at_ ("RoyalError", X.royal) (by simp [XF.all])
    refine PySem.W.exm_ref hb hd ht ?_
    rw [g.ef.sub X.royal (by simp [XF.addrs])]
    simp
end DL

namespace L2
open PySem PySem.Spec PyProof.Rows
def rIsiTS (K : PySem.W.Frag) : List V → Hp → VK → Prop := fun xs H Q => ∃ (x : V) (tp : Addr) (cs : List V) (t : Value) (us : List Value) (b : Bool), xs = [x, .ref tp] ∧ SqT K H tp cs ∧ Paired ClsV cs us ∧ TyX K H x t ∧ PySem.W.kitAny K t us = some b ∧ Q (.bl b) H
end L2
namespace DL
open PySem PySem.Spec PyProof.Rows L2 RZ
def isLT : String → Bool := fun t => t == "list" || t == "tuple"
def fIsLT : FB := fun ds w k => match ds with
  | [x, .tup [.ob (.ty "list"), .ob (.ty "tuple")]] => match tyD x w with
    | some t => if t = "list" ∨ t = "tuple" then k (.bl true) w else if t = "NoneType" ∨ t = "bool" ∨ t = "int" ∨ t = "str" ∨ t = "dict" then k (.bl false) w else False
    | none => False
  | _ => False
section
variable {X : Cx} {E : XK} {e : Expr} {es : List Expr} {ga : GA} {p pos : Pos}
end
end DL

namespace DL
open PySem PySem.Spec PyProof.Rows L2 RZ
def fListD : FB := fun ds w k => match ds with
  | [.rf i] => dkK i w fun kvs => k (.lst (kvs.map fun p => keyOfD p.1)) w
  | _ => False
def fDictQ : FB := fun ds w k => match ds with
  | [d] => ∃ ps : List (Key × D), (d = .lst (ps.map fun p => .tup [kD p.1, p.2]) ∨ ∃ i, d = .rf i ∧ w.M[i]? = some (.lst (ps.map fun p => .tup [kD p.1, p.2]))) ∧ k (.rf w.M.length) ⟨w.M ++ [.dk (mergeD [] ps)], w.n⟩
  | _ => False
section
variable {X : Cx} {E : XK} {e : Expr} {es : List Expr} {ga : GA} {p pos : Pos}
def mClear : FM := fun x ds w k => match x, ds with
  | .rf i, [] => cellK i w fun _ => k .non ⟨w.M.set i (.lst []), w.n⟩
  | _, _ => False
end
end DL

namespace DL
open PySem PySem.Spec PyProof.Rows L2 RZ
structure FnOkG (P : Program) (w : World) (K : PySem.W.Frag) (mg : Str → Option Value) (base : Heap) (CX : CXT) (k : Nat) (f : Addr) (fd : FuncData) (ps : List Str) (sp : Sp) : Prop where
  size : ∀ vs H Q E, sp vs H Q E → vs.length = ps.length
  go : ∀ (A : Around) (outer : List Env) (s : Shared) (H : Hp) (args : Args) (us : List Value) (vs : List V) (Q : VK) (E : XK), A.guards = some [] → Room k A → Env0 P w K mg base A outer s H →
    BindsTo s fd args (ps.zip us) → Vals vs us → sp vs H Q E → codeAny (model P w) A (.call (.ref f) args) (CR CX outer P w H s Q E) s
section
variable {P : Program} {w : World} {K : PySem.W.Frag} {mg : Str → Option Value} {base : Heap} {CX : CXT} {j k : Nat} {f : Addr} {fd : FuncData} {ps : List Str} {sp sp' : Sp}
theorem FnOkG.up (h : FnOkG P w K mg base CX j f fd ps sp) (hjk : j ≤ k) : FnOkG P w K mg base CX k f fd ps sp :=
  ⟨h.size, fun A outer s H args us vs Q E q room => h.go A outer s H args us vs Q E q (room.mono hjk)⟩
theorem FnOkG.weak (h : FnOkG P w K mg base CX k f fd ps sp) (i : ∀ vs H Q E, sp' vs H Q E → sp vs H Q E) : FnOkG P w K mg base CX k f fd ps sp' :=
  ⟨fun vs H Q E q => h.size vs H Q E (i _ _ _ _ q), fun A outer s H args us vs Q E q room env b r z => h.go A outer s H args us vs Q E q room env b r (i _ _ _ _ z)⟩
end
section
variable {CX : CXT} {P : Program} {w : World} {K : PySem.W.Frag} {mg : Str → Option Value} {base : Heap} {k : Nat}
theorem defG {f : Addr} {nm qn : Str} {pars : Arguments} {body : List Stmt} {sc : Scope} {v1 v2 v3 v4 v5 v6 v7 : Value} {a1 a2 : Option Addr} {slots : Array (Option Value)} {N ps : List Str} {sp : Sp}
    (at_ : K.lookup f = some ⟨v7, a2, .func (PySem.W.fnOf nm qn pars body sc v1 v2 v3 v4 a1 v5 v6), slots⟩) (code : PySem.W.codeIn K v5 qn = true) (S : FnScope N ps sc) (size : ∀ vs H Q E, sp vs H Q E → vs.length = ps.length)
    (inner : ∀ (A : Around) (outer : List Env) (s : Shared) (H : Hp) (vs : List V) (Q : VK) (E : XK), A.guards = some [] → Room k (A.deeper (envOfC qn sc s.heap.objs.size f v5)) → sp vs H Q E →
      ∃ t, PSs (cxOf CX P w K mg base N qn sc f v5 A outer s H E) body t ∧ t { nx := fun _ H' => Q .non H', rt := Q } (start N vs) H) : FnOkG P w K mg base CX (k + 1) f (PySem.W.fnOf nm qn pars body sc v1 v2 v3 v4 a1 v5 v6) ps sp := by
  constructor
  · exact size
  intro A outer s H args us vs Q E quiet room env bound vals pre
  have long := size _ _ _ _ pre
  have inK : K.In s.heap := env.mod.kin.keeps fun b o z => (env.bs b o z).1
  have free : s.heap.NoLimit := env.mod.nolimit.keeps fun b o z => (env.bs b o z).1
  have kinds : ∀ q ∈ ps.zip us, sc.names.lookup q.1 = some .local ∨ (sc.names.lookup q.1 = some .cell ∧ ((cellsFrom (s.heap.objs.size + 1) sc.names []).lookup q.1).isSome = true) := by
    rintro ⟨m, u⟩ hq
    refine (S.par m (List.of_mem_zip hq).1).imp id fun c => ⟨c, ?_⟩
    exact PySem.W.cellsFrom_some _ _ _ (.inl c)
  refine codeAny_call_function room.depth (inK _ _ at_) rfl S.co S.gen rfl (PySem.W.codeRec_of inK code) (bound _ _ _ _ (wpAny_newFunctionEnv_cells S.kind kinds ?_))
  rintro env2 rfl s2 entered
  refine ⟨free.keeps entered.toInCall.keep, codeAny_func ?_⟩
  obtain ⟨t, walked, holds⟩ := inner A outer s H vs Q E quiet (room.deeper _) pre
  have I : Inv (cxOf CX P w K mg base N qn sc f v5 A outer s H E) [] (start N vs) H s2 := inv_start S room.hd env long vals entered
  have done : ∀ {σ' : L2.St} {H' : Hp} {v : V} {u : Value} {s' : Shared}, Inv (cxOf CX P w K mg base N qn sc f v5 A outer s H E) [] σ' H' s' → RelV v u → Q v H' → CE outer P w H s Q u s' :=
    fun {_ H' v _ _} J e q => ⟨v, H', J.os, J.bare, J.base, J.hok, e, q⟩
  refine wpAny_mono (walked.run [] s2 (start N vs) H _ I holds) ?_ fun _ _ z => z
  intro fl s' z
  cases fl with
  | next =>
    obtain ⟨_, _, J, q⟩ := z
    exact done (v := .non) (u := .none) J rfl q
  | ret u =>
    obtain ⟨_, _, _, J, e, q⟩ := z
    exact done J e q
  | brk => exact z.choose_spec.choose_spec.2.elim
  | cont => exact z.choose_spec.choose_spec.2.elim
structure FnAtG (P : Program) (w : World) (K : PySem.W.Frag) (mg : Str → Option Value) (base : Heap) (CX : CXT) (k : Nat) (x : Str) (n : Nat) (g : GF) : Prop where
  ex : ∃ f fd ps, FnOkG P w K mg base CX k f fd ps (upF n K g) ∧ mg x = some (.ref f) ∧ PySem.W.keepIn K (.ref f) = true ∧ Binds K fd ps []
theorem FnAtG.imp {x : Str} {n : Nat} {g g' : GF} (h : FnAtG P w K mg base CX k x n g) (i : ∀ ds w kx k, g' ds w kx k → g ds w kx k) : FnAtG P w K mg base CX k x n g' := by
  obtain ⟨f, fd, ps, h1, h2⟩ := h.ex
  exact ⟨f, fd, ps, h1.weak (up_imp i), h2⟩
theorem FnAtG.trunc {x : Str} {n : Nat} {g : GF} (h : FnAtG P w K mg base CX k x n g) : FnAtG P w K mg base CX k x n (gTr g) := by
  obtain ⟨f, fd, ps, h1, h2⟩ := h.ex
  exact ⟨f, fd, ps, h1.weak tr_up, h2⟩
theorem fun_fn0G {x : Str} {st : Stmt} {f : Addr} {fd : FuncData} {N ps : List Str} {g : GS} (F : Fun K x x st f fd) (S : FnScope N ps (defScope st))
    (walk : ∀ (f : Addr) (cdv : Value) (A : Around) (outer : List Env) (s : Shared) (H : Hp) (E : XK), A.guards = some [] → Room k (A.deeper (envOfC x (defScope st) s.heap.objs.size f cdv)) →
      DSs (cxOf CX0 P w K mg base N x (defScope st) f cdv A outer s H E).nox E0 (defBody st) g) : FnOkG P w K mg base CX0 (k + 1) f fd ps (upF ps.length K (sem0 N.length g)) := by
  obtain ⟨v7, a2, v2, v3, v4, a1, v5, v6, slots, rfl, at_, code⟩ := F.ex
  refine defG at_ code S (fun vs H Q E h => ?_) fun A outer s H vs Q E quiet room pre => ?_
  · obtain ⟨G, S, ds, w, kx, k, h1, h2, h3, _⟩ := h
    rw [h3.length, h1]
  · obtain ⟨G, S1, ds, w1, kx, k1, h1, h2, h3, h4, h5, h6⟩ := pre
    refine ⟨_, (walk f v5 A outer s H E quiet room).nox, G, S1, rho N.length ds, w1, { nx := fun _ w' => k1 .non w', rt := k1, ex := noX }, h2, sr_start h3, ⟨fun G' S' H' w' ρ' σ' x1 hr1 _ hk => h5 _ _ _ _ _ _ x1 hr1 .non hk, h5, ?_, ?_, xl_no⟩, h6⟩
    all_goals
      intro _ _ _ _ _ _ _ _ _ z
      exact z.elim
end
section
variable {X : Cx} {E : XK} {k n j : Nat} {g : GF} {x : Str} {e : Expr} {es : List Expr} {ga : GA} {p pos : Pos}
end
end DL

namespace DL
open PySem PySem.Spec PyProof.Rows L2 RZ
abbrev scriptO (vs : List Value) : Obj := { cls := .type "list", data := .seq vs.toArray }
section
variable {P : Program} {w : World} {K : PySem.W.Frag} {mg mb : Str → Option Value} {k : Nat} {fa a : Addr} {fd : FuncData} {x : Str} {sp : Sp} {s : Shared} {vs : List Value} {ns : List Int} {H : Hp}
theorem hid_old {b : Addr} {o : Obj} (only : ∀ b, H b ≠ none → b = a) (h : s.heap.get? b = some o) (n : b = a → H a = none) : (hidT s.heap H).get? b = some o := by
  refine hidT_get h ?_
  by_cases e : H b = none
  · exact e
  · exact absurd (by rw [only b e]; exact n (only b e)) e
theorem hid_ns {b : Addr} {m : Str → Option Value} (only : ∀ b, H b ≠ none → b = a) (at_ : s.heap.get? a = some (scriptO vs)) (h : s.heap.Ns b m) : (hidT s.heap H).Ns b m := by
  obtain ⟨o, es, ep, h1, h2, h3⟩ := h
  refine ⟨o, es, ep, hid_old only h1 fun e => ?_, h2, h3⟩
  rw [e, at_] at h1
  have h4 : (scriptO vs).data = Data.dict es ep := by
    rw [Option.some.inj h1]
    exact h2
  cases h4
theorem head_run (inK : K.In s.heap) (main : s.heap.Ns mainGlobals mg) (blt : s.heap.Ns builtinsNs mb) (boot : ∀ x : Str, x ≠ "__name__" → mb x = bootBuiltins x) (nolim : s.heap.NoLimit) (nogen : s.gens = #[])
    (at_ : s.heap.get? a = some (scriptO vs)) (room : Room k callerA) (F : ∀ base : Heap, K.In base → base.Ns mainGlobals mg → FnOkG P w K mg base CX0 k fa fd [x] sp) (bind : ∀ (s : Shared) (u : Value), BindsTo s fd ⟨[u], []⟩ [(x, u)])
    (pre : ∀ H : Hp, Only H → SqL K H a (ns.map V.int) → sp [.ref a] H (fun v _ => v = .bl true) fun _ _ _ => False)
    (frz : Only H) (sq : SqL K H a (ns.map V.int)) (ok : HOk P w H s.heap) (only : ∀ b, H b ≠ none → b = a) (own : H a ≠ none → K.lookup a = none) :
    codeAny (model P w) callerA (.call (.ref fa) ⟨[.ref a], []⟩) (fun r s' => r = .ok (.ret (.bool true)) ∧ OldK s.heap s'.heap ∧ s'.os = s.os ∧ AllBare s'.gens) s := by
  have inK2 : K.In (hidT s.heap H) := fun b o h => hid_old only (inK b o h) fun e => by
    by_cases z : H a = none
    · exact z
    · have := own z
      rw [← e, h] at this
      cases this
  have main2 := hid_ns only at_ main
  have env : Env0 P w K mg (hidT s.heap H) callerA [] s H := by
    obtain ⟨mc, n1, n2⟩ := nolim
    refine ⟨rfl, ⟨inK2, main2, ⟨mb, hid_ns only at_ blt, boot⟩, ⟨mc, hid_ns only at_ n1, n2⟩⟩, fun b o h => of_hidT h, Nat.le_of_eq (hidT_size _ _), trivial, fun b hb => ?_, ok, .of_eq nogen⟩
    exact absurd (show b ∈ ([] : List Addr) from hb) List.not_mem_nil
  have run := (F _ inK2 main2).go callerA [] s H ⟨[.ref a], []⟩ [.ref a] [.ref a] _ _ rfl room env (bind s (.ref a)) (.cons rfl .nil) (pre H frz sq)
  refine codeAny_mono run ?_
  intro r s' z
  cases r with
  | error e => exact z.elim
  | ok fl =>
    cases fl with
    | ret u =>
      obtain ⟨v, H2, os, bare, un, ok2, rel, e⟩ := z
      have e : v = .bl true := e
      rw [e] at rel
      have e2 : u = Value.bool true := rel
      rw [e2]
      refine ⟨rfl, OldK.of_keep fun b o h => ?_, os, bare⟩
      rcases frz b with hb | ⟨o2, xs, hb⟩
      · exact un.keep b o h hb (fun z => absurd (show b ∈ ([] : List Addr) from z) List.not_mem_nil) (by simp)
      · have h1 := (ok b _ hb).1
        have h2 := (ok2 b _ (un.frzs b o2 _ hb)).1
        rw [h] at h1
        rw [Option.some.inj h1]
        exact h2
    | next => exact z.elim
    | brk => exact z.elim
    | cont => exact z.elim
def scriptH (a : Addr) (vs : List Value) (ns : List Int) : Hp := fun b => if b = a then some (.frz (scriptO vs) (.lst (ns.map V.int))) else none
theorem script_here : scriptH a vs ns a = some (.frz (scriptO vs) (.lst (ns.map V.int))) := if_pos rfl
theorem script_else {b : Addr} (h : b ≠ a) : scriptH a vs ns b = none := if_neg h
theorem headG (inK : K.In s.heap) (main : s.heap.Ns mainGlobals mg) (blt : s.heap.Ns builtinsNs mb) (boot : ∀ x : Str, x ≠ "__name__" → mb x = bootBuiltins x) (nolim : s.heap.NoLimit) (nogen : s.gens = #[])
    (at_ : s.heap.get? a = some (scriptO vs)) (whole : IntsAre vs ns) (short : ns.length ≤ sizeLine) (room : Room k callerA) (F : ∀ base : Heap, K.In base → base.Ns mainGlobals mg → FnOkG P w K mg base CX0 k fa fd [x] sp)
    (bind : ∀ (s : Shared) (u : Value), BindsTo s fd ⟨[u], []⟩ [(x, u)]) (pre : ∀ H : Hp, Only H → SqL K H a (ns.map V.int) → sp [.ref a] H (fun v _ => v = .bl true) fun _ _ _ => False) :
    codeAny (model P w) callerA (.call (.ref fa) ⟨[.ref a], []⟩) (fun r s' => r = .ok (.ret (.bool true)) ∧ OldK s.heap s'.heap ∧ s'.os = s.os ∧ AllBare s'.gens) s := by
  have rel := vals_ints whole
  have long := whole.length
  cases own : K.lookup a with
  | none =>
    refine head_run (H := scriptH a vs ns) inK main blt boot nolim nogen at_ room F bind pre (fun b => ?_) (.inl (.inr ⟨scriptO vs, script_here⟩)) (fun b u h => ?_) (fun b h => ?_) fun _ => own
    · by_cases e : b = a
      · rw [e]
        exact .inr ⟨_, _, script_here⟩
      · exact .inl (script_else e)
    · by_cases e : b = a
      · rw [e, script_here] at h
        rw [e, ← Option.some.inj h]
        exact ⟨at_, by rw [List.length_map]; exact short, vs, _, rel, at_⟩
      · rw [script_else e] at h
        cases h
    · by_cases e : b = a
      · exact e
      · exact absurd (script_else e) h
  | some o =>
    have same := inK a o own
    rw [at_] at same
    rw [← Option.some.inj same] at own
    refine head_run (H := fun _ => none) inK main blt boot nolim nogen at_ room F bind pre (fun _ => .inl rfl) ?_ (fun b u h => ?_) (fun b h => absurd rfl h) fun h => absurd rfl h
    · exact .inr ⟨_, vs.toArray, _, own, rfl, rfl, rfl, by rw [List.size_toArray, long]; exact short, by simpa using rel⟩
    · have h : (none : Option HO) = some u := h
      cases h
end
theorem walkG {l : PySem.W.OpenLaw} {n k : Nat} {q : Program} {loose : List Str} {XP : (Str → Option Value) → Heap → Prop} {YP : World → Heap → Prop} {d : DefRec} {K : Params → PySem.W.Frag} {x : Str}
    (most : l.most = some n) (none_ : d.params.defaults = []) (room : Room k callerA) (hY : ∀ (w : World) (h : Heap), YP w h → (K w.params).In h) (F : ∀ (w : World) (mg : Str → Option Value) (fa : Addr) (h : Heap), (K w.params).In h → h.Ns mainGlobals mg → mg d.name = some (.ref fa) →
      ∃ fd : FuncData, (∀ (s : Shared) (u : Value), BindsTo s fd ⟨[u], []⟩ [(x, u)]) ∧ ∀ base : Heap, (K w.params).In base → base.Ns mainGlobals mg → FnOkG l.prog w (K w.params) mg base CX0 k fa fd [x] (upF 1 (K w.params) gLaw))
    (small : n ≤ 63) : PySem.W.WalkO q loose XP YP l.row.toRowW d [] (fun f vs => PySem.call f vs) := by
  refine Att.attach_call most none_ fun w s₀ s₁ mg mb fa o pm cd doc a vs ns G Y ho hd hcd hmg hobj hints hlen hgn => ?_
  have inK := hY w _ Y
  obtain ⟨fd, hb, hF⟩ := F w mg fa _ inK G.T.g hmg
  have hl : ns.length ≤ 63 := Nat.le_trans hlen small
  exact headG inK G.T.g G.T.b G.T.builtins G.T.nolimit hgn hobj hints (Nat.le_trans hl (by decide)) room hF hb fun H _ hS => law_start hl hS
end DL

namespace DL
open PySem PySem.Spec PyProof.Rows L2 RZ
def cntPD (l : List (Str × Int)) : PyData := .dict (l.map fun q => (.str q.1, .int q.2))
def cntT (l : List (Str × Int)) : Str := (cntPD l).shown
def cntKV (l : List (Str × Int)) : List (Key × V) := l.map fun q => (.inr q.1, .int q.2)
def cntKD (l : List (Str × Int)) : List (Key × D) := l.map fun q => (.inr q.1, .int q.2)
structure CntFit (l : List (Str × Int)) : Prop where
  len : l.length ≤ 100
  txt : ∀ q ∈ l, PyData.strOk q.1 = true ∧ q.1.length ≤ 100
  int : ∀ q ∈ l, q.2.natAbs < 10 ^ 12
theorem CntFit.tail {q : Str × Int} {l : List (Str × Int)} (h : CntFit (q :: l)) : CntFit l :=
  ⟨Nat.le_of_succ_le h.len, fun p hp => h.txt p (List.mem_cons_of_mem _ hp), fun p hp => h.int p (List.mem_cons_of_mem _ hp)⟩
theorem log_12 {i : Int} (h : i.natAbs < 10 ^ 12) : i.natAbs.log2 < 40 := by
  by_cases z : i.natAbs = 0
  · rw [z]
    decide
  · exact (Nat.log2_lt z).mpr (Nat.lt_trans h (by decide))
theorem cnt_show : ∀ {l : List (Str × Int)}, CntFit l → PyData.showableKv (l.map fun q => (PyData.str q.1, PyData.int q.2)) = true
  | [], _ => rfl
  | q :: l, h => by
    rw [List.map_cons, PyData.showableKv, cnt_show h.tail, PyData.showable, PyData.showable]
    have := log_12 (h.int q List.mem_cons_self)
    rw [decide_eq_true (by omega)]
    rfl
theorem cnt_weight : ∀ {l : List (Str × Int)}, CntFit l → PyData.weightKv (l.map fun q => (PyData.str q.1, PyData.int q.2)) ≤ 200 * l.length
  | [], _ => Nat.le_refl _
  | q :: l, h => by
    rw [List.map_cons, PyData.weightKv, PyData.weight, PyData.weight, List.length_cons]
    have h1 := cnt_weight h.tail
    have h2 : q.1.cps.size ≤ 100 := (h.txt q List.mem_cons_self).2
    have h3 := log_12 (h.int q List.mem_cons_self)
    have h4 : (if q.2 == 0 then 0 else q.2.natAbs.log2 + 1) ≤ 41 := by
      split <;> omega
    omega
theorem cnt_depth : ∀ l : List (Str × Int), PyData.depthKv (l.map fun q => (PyData.str q.1, PyData.int q.2)) = 0
  | [] => rfl
  | q :: l => by
    rw [List.map_cons, PyData.depthKv, cnt_depth l]
    rfl
theorem cnt_reads {P : Program} {w : World} {h : Heap} {l : List (Str × Int)} : ∀ {L : List DictEntry} {vs : List (Key × Value)}, KV (cntKV l) vs → PySem.Pairs (mixKind P w) L vs →
    ReadsAll h (L.map (·.key)) (l.map fun q => PyData.str q.1) [] ∧ ReadsAll h (L.map (·.val)) (l.map fun q => PyData.int q.2) [] := by
  induction l with
  | nil =>
    intro L vs a b
    cases a
    cases b
    exact ⟨.nil, .nil⟩
  | cons q l ih =>
    intro L vs a b
    cases a with
    | cons r t =>
      cases b with
      | cons k1 k2 k3 =>
        rename_i v _ e _
        obtain ⟨h1, h2⟩ := ih t k3
        obtain ⟨r1, r2⟩ := r
        have r3 : v.1 = Sum.inr q.1 := r1.symm
        have k4 : keyIs v.1 e.key = true := k1
        rw [r3] at k4
        obtain ⟨i, u, z, _⟩ | ⟨x, u, z, ez⟩ := keyIs_shape k4
        · cases z
        · injection z with z
          subst z
          obtain ⟨u2, r4⟩ : ∃ t, v.2 = Value.int q.2 t := r2
          constructor
          · rw [List.map_cons, List.map_cons, ez]
            exact .cons (as := []) (bs := []) (.str _ _) h1
          · rw [List.map_cons, List.map_cons, k2, r4]
            exact .cons (as := []) (bs := []) (.int _ _) h2
def rStrI2 : List V → Hp → VK → Prop := fun xs H Q => ∃ a l, xs = [.ref a] ∧ H a = some (.dK (cntKV l)) ∧ CntFit l ∧ Q (.str (cntT l)) H
def fStrD : FB := fun ds w k => match ds with
  | [.rf i] => ∃ l, w.M[i]? = some (.dk (cntKD l)) ∧ CntFit l ∧ k (.str (cntT l)) w
  | _ => False
theorem fs_cnt {K : PySem.W.Frag} {G : Gh} {S : Hp} : ∀ {xs : List (Key × V)} {l : List (Str × Int)}, FsRep K G S xs (cntKD l) → xs = cntKV l
  | [], [], .nil => rfl
  | x :: xs, q :: l, .cons h r => by
    obtain ⟨h1, h2⟩ := h
    have e := fs_cnt r
    obtain ⟨k1, v1⟩ := x
    have hk1 : k1 = Sum.inr q.1 := h1
    have hv1 : Rep K G S v1 (.int q.2) := h2
    clear h1 h2
    cases hv1
    rw [hk1, e]
    rfl
section
variable {X : Cx} {E : XK} {e : Expr} {es : List Expr} {ga : GA} {p pos : Pos} {kk : Nat}
end
end DL

namespace PySem
open PySem.W PySem.Calls PySem.NumText PyProof.Rows
namespace LongInt
structure Box (p : Prop) : Prop where
  out : p
end LongInt
end PySem
namespace L2
open PySem PySem.Spec PyProof.Rows
structure NoDg (K : PySem.W.Frag) : Prop where
  ok : PySem.W.nsOkIn K cStatics = true
  non : PySem.W.nsIn K cStatics "sys.int_max_str_digits" = some none
theorem NoDg.heap {K : PySem.W.Frag} {h : Heap} (d : NoDg K) (X : K.In h) : h.NoDigits := ⟨h.nsMap cStatics, .of_isNs (PySem.W.isNs_of_in X d.ok), PySem.W.nsMap_none_of_in X d.ok d.non⟩
section
variable {X : Cx}
def rMulS : R2 := fun x y H Q => ∃ z i, x = .str z ∧ y = .int i ∧ -(2 ^ 62) ≤ i ∧ i ≤ 1 ∧ Q (.str (if i < 1 then Str.empty else z)) H
end
end L2

namespace DL
open PySem PySem.Spec PyProof.Rows L2 RZ
def fStrI : FB := fun ds w k => match ds with
  | [.int i] => i.natAbs < 10 ^ 4300 ∧ k (.str (toString i)) w
  | _ => False
def fIntS : FB := fun ds w k => match ds with
  | [.str a] => ∃ n, PySem.intText? a = some n ∧ a.length ≤ sizeLine ∧ k (.int n) w
  | _ => False
def inSD : F2 := fun x y w k => match x, y with
  | .str s, .str z => ∃ c, s = ⟨#[c]⟩ ∧ k (.bl (decide (c ∈ z.cps.toList))) w
  | _, _ => False
theorem ok_inSD {K : PySem.W.Frag} : BinOk K (fun x y H Q => ∃ (c : Nat) (z : Str), x = .str ⟨#[c]⟩ ∧ y = .str z ∧ Q (.bl (decide (c ∈ z.cps.toList))) H) inSD := by
  intro G S H w x y d e k Q hr rx ry kl h
  cases rx with
  | str s =>
    cases ry with
    | str z =>
      obtain ⟨c, rfl, h⟩ := h
      exact ⟨c, z, rfl, rfl, kl.here hr (.bl _) h⟩
    | _ => exact h.elim
  | _ => cases ry <;> exact h.elim
def mulSD : F2 := fun x y w k => match x, y with
  | .str z, .int i => (-(2 ^ 62) ≤ i ∧ i ≤ 1) ∧ k (.str (if i < 1 then Str.empty else z)) w
  | _, _ => False
def slS : D → Option Int → Option Int → Wd → KD → Prop := fun x lo hi w k => match x with
  | .str z => z.length ≤ sizeLine ∧ k (.str (L2.cutS z lo hi)) w
  | _ => False
theorem ok_slS {K : PySem.W.Frag} : SlOk K L2.rSlS slS := by
  intro G S H w x d lo hi k Q hr rx kl h
  cases rx with
  | str z => exact ⟨z, rfl, h.1, kl.here hr (.str _) h.2⟩
  | _ => exact h.elim
section
variable {X : Cx} {E : XK} {a b e : Expr} {es : List Expr} {ga gb : GE} {gA : GA} {p p2 pos : Pos} {lo hi : Option Expr} {gl gh : GO} {tg : Expr}
theorem de_inS (ha : DE X E a ga) (hb : DE X E b gb) (hm : behindInMarks .In b = false := by rfl) : DE X E (.Compare a [.In] [b] pos) (gBin inSD ga gb) := de_cmp L2.op_in_sign ok_inSD ha hb hm
theorem de_slS (he : DE X E a ga) (hl : DO X E lo gl) (hu : DO X E hi gh) : DE X E (.Subscript a (.Slice lo hi none p2) pos) (gSl slS ga gl gh) := de_slice L2.sl_str ok_slS he hl hu
def giStr (ge : GE) : GI := fun ρ w kx k => ge ρ w kx fun d w1 => match d with
  | .str x => k (x.cps.toList.map fun c => D.str ⟨#[c]⟩) (fun _ => True) w1
  | _ => False
theorem iter_str {K : PySem.W.Frag} {G : Gh} {S : Hp} {x : Str} : IterOk K (Its x) (x.cps.toList.map fun c => D.str ⟨#[c]⟩) (fun _ => True) G S := by
  intro i G1 S1 w1 H1 x1 hr1 _
  refine ⟨fun d hd => ?_, fun hl => ?_⟩
  · rw [List.getElem?_map, Array.getElem?_toList] at hd
    cases q : x.cps[i]? with
    | none => rw [q] at hd; cases hd
    | some c =>
      rw [q] at hd
      have hd : D.str ⟨#[c]⟩ = d := by simpa using hd
      subst hd
      refine ⟨(Array.getElem?_eq_some_iff.mp q).1, fun y H2 hy => ?_⟩
      obtain ⟨rfl, c2, hc, rfl⟩ := hy
      rw [q] at hc
      cases hc
      exact ⟨G1, S1, Ext.refl _ _, hr1, .str _⟩
  · rw [List.length_map, Array.length_toList] at hl
    exact Nat.le_of_eq hl
theorem di_str {l : Expr} {ge : GE} (hl : DE X E l ge) : DI X E tg l (giStr ge) := pi_imp (pi_str hl) (by
  rintro σ H R ⟨G, S, ρ, w, kx, k, hr, sr, xl, kl, h⟩
  refine ⟨G, S, ρ, w, kx, _, hr, sr, xl, fun G1 S1 H1 w1 d v x1 hr1 rp h1 => ?_, h⟩
  cases rp with
  | str x => exact ⟨x, rfl, kl _ _ _ _ _ _ _ x1 hr1 iter_str h1⟩
  | _ => exact h1.elim)
end
end DL


namespace L2
open PySem PySem.Spec PyProof.Rows
def keyTx (e : Int × Value) : Str := match e.2 with | .str k _ => k | _ => Str.empty
structure TxSet (P : Program) (w : World) (h : Heap) (a : Addr) (l : List Str) (D : Froz.SD) : Prop where
  there : h.get? a = some (Froz.sObj "set" D)
  tx : Froz.TxOk P w D l
  pm : (D.1.toList.map keyTx).Perm l
  nd : l.Nodup
  few : l.length < scanBound
  ris : Ris D.2.2.place.toList
  led : w.params.followText "set-order" = true ∨ D.2.2.led = true
def SetTx (P : Program) (w : World) (h : Heap) (a : Addr) (l : List Str) : Prop := ∃ D, TxSet P w h a l D
section
variable {P : Program} {w : World} {A : Around} {E : Value → Shared → Prop} {s : Shared} {h h' : Heap} {a : Addr} {l : List Str}
theorem SetTx.at (R : SetTx P w h a l) (k : ∀ o, h.get? a = some o → h'.get? a = some o) : SetTx P w h' a l := by
  obtain ⟨D, R⟩ := R
  exact ⟨D, ⟨k _ R.there, R.tx, R.pm, R.nd, R.few, R.ris, R.led⟩⟩
end
def SetTxO (P : Program) (w : World) (a : Addr) (l : List Str) : HO := .ext fun h => SetTx P w h a l
def rSetLT (P : Program) (w : World) (K : PySem.W.Frag) : List V → Hp → VK → Prop := fun xs H Q => ∃ (p : Addr) (ks : List Str), xs = [.ref p] ∧ SqL K H p (ks.map V.str) ∧ ks.length ≤ 1000 ∧ ∀ (q : Addr) (l : List Str), H q = none → l.length ≤ ks.length → (∀ k, k ∈ l ↔ k ∈ ks) → Q (.ref q) (upd H q (SetTxO P w q l))
def rSortedTx (P : Program) (w : World) : List V → Hp → VK → Prop := fun vs H Q => ∃ (a : Addr) (l : List Str), vs = [V.ref a] ∧ H a = some (SetTxO P w a l) ∧ l.length < 64 ∧
  ∀ (ys : List Str) (p : Addr), ys.Perm l → l.Nodup → sortedS ys = true → H p = none → Q (.ref p) (upd H p (.lst (ys.map V.str)))
end L2
namespace DL
open PySem PySem.Spec PyProof.Rows L2 RZ
theorem repT {K : PySem.W.Frag} {G : Gh} {S : Hp} : ∀ ns : List Str, RepAll K G S (ns.map V.str) (ns.map D.str)
  | [] => .nil
  | n :: ns => .cons (.str n) (repT ns)
def gSortSetT (ga : GA) : GE := fun ρ w kx k => ga ρ w kx fun ds w1 => ∃ ns : List Str, ds = [.lst (ns.map D.str)] ∧ ns.length < 64 ∧ ∀ ms : List Str, ms.Nodup → sortedS ms = true → (∀ j, j ∈ ms ↔ j ∈ ns) → k (.lst (ms.map D.str)) w1
end DL

namespace L2
open PySem PySem.Spec PyProof.Rows
mutual
inductive EqV (K : PySem.W.Frag) (H : Hp) : Nat → V → V → Prop
  | ref {n : Nat} {a : Addr} : EqV K H n (.ref a) (.ref a)
  | dp {n : Nat} {x y : V} {p : PyData} : Dp K H x p → Dp K H y p → p.canLay0 = true → p.depth + 1 ≤ n → EqV K H n x y
  | tup {n : Nat} {a b : Addr} {xs ys : List V} : SqT K H a xs → SqT K H b ys → EqVs K H n xs ys → EqV K H (n + 1) (.ref a) (.ref b)
  | lst {n : Nat} {a b : Addr} {xs ys : List V} : SqL K H a xs → SqL K H b ys → EqVs K H n xs ys → EqV K H (n + 1) (.ref a) (.ref b)
inductive EqVs (K : PySem.W.Frag) (H : Hp) : Nat → List V → List V → Prop
  | nil {n : Nat} : EqVs K H n [] []
  | cons {n : Nat} {x y : V} {xs ys : List V} : EqV K H n x y → EqVs K H n xs ys → EqVs K H n (x :: xs) (y :: ys)
end
section
variable {X : Cx} {pins : List (Addr × Obj)} {σ : St} {H : Hp} {s : Shared}
theorem EqTree.cast {prog : Program} {w : World} {s : Shared} {n : Nat} {v y : Value} {b c : Bool} (t : PySem.W.EqTree prog w s n v y b) (e : b = c) : PySem.W.EqTree prog w s n v y c := e ▸ t
mutual
theorem eqV_tree (I : Inv X pins σ H s) : ∀ {n : Nat} {x y : V} {v u : Value}, EqV X.K H n x y → RelV x v → RelV y u → PySem.W.EqTree X.prog X.w s n v u true
  | _, _, _, v, u, .ref, r1, r2 => by
    cases r1
    cases r2
    exact .same
  | _, _, _, v, u, .dp (p := p) d1 d2 hc hd, r1, r2 => by
    obtain ⟨as, q1⟩ := Dp.reads I p _ v d1 r1
    obtain ⟨bs, q2⟩ := Dp.reads I p _ u d2 r2
    refine .leaf fun A hu => ?_
    have q := SeqAt.eqAt_reads p p A s v u as bs q1 q2 hc hc (by
      rw [Nat.min_self]
      omega)
    rw [SeqAt.eqv_refl p hc] at q
    exact q
  | _, _, _, v, u, .tup (a := a) (b := b) h1 h2 t, r1, r2 => by
    cases r1
    cases r2
    obtain ⟨i1, v1, p1, _⟩ := I.tuple h1
    obtain ⟨i2, v2, p2, _⟩ := I.tuple h2
    by_cases hab : a = b
    · subst hab
      exact .same
    · obtain ⟨e1, e2⟩ := eqVs_tree I t v1 v2
      have z : i1.toArray.size = i2.toArray.size := by simpa using e1
      exact EqTree.cast (.tuples (e := fun _ => true) hab p1 p2 fun j a1 a2 => by
        have := e2 j (by simpa using a1) (by simpa using a2)
        simpa using this) (by simp [z])
  | _, _, _, v, u, .lst (a := a) (b := b) h1 h2 t, r1, r2 => by
    cases r1
    cases r2
    obtain ⟨i1, v1, p1, _⟩ := I.list h1
    obtain ⟨i2, v2, p2, _⟩ := I.list h2
    by_cases hab : a = b
    · subst hab
      exact .same
    · obtain ⟨e1, e2⟩ := eqVs_tree I t v1 v2
      have z : i1.toArray.size = i2.toArray.size := by simpa using e1
      exact EqTree.cast (.lists (e := fun _ => true) hab p1.isList p2.isList z fun j a1 a2 => by
        have := e2 j (by simpa using a1) (by simpa using a2)
        simpa using this) (by simp)
theorem eqVs_tree (I : Inv X pins σ H s) : ∀ {n : Nat} {xs ys : List V} {vs us : List Value}, EqVs X.K H n xs ys → Vals xs vs → Vals ys us → vs.length = us.length ∧ ∀ j (h1 : j < vs.length) (h2 : j < us.length), PySem.W.EqTree X.prog X.w s n vs[j] us[j] true
  | _, _, _, vs, us, .nil, r1, r2 => by
    cases r1
    cases r2
    exact ⟨rfl, fun j h => absurd h (Nat.not_lt_zero _)⟩
  | _, _, _, vs, us, .cons h t, r1, r2 => by
    cases r1 with
    | cons a1 b1 =>
      cases r2 with
      | cons a2 b2 =>
        obtain ⟨e1, e2⟩ := eqVs_tree I t b1 b2
        refine ⟨congrArg (· + 1) e1, fun j h1 h2 => ?_⟩
        cases j with
        | zero => exact eqV_tree I h a1 a2
        | succ j => exact e2 j (Nat.lt_of_succ_lt_succ h1) (Nat.lt_of_succ_lt_succ h2)
end
def rEqV (K : PySem.W.Frag) : V → V → Hp → VK → Prop := fun x y H Q => ∃ (n : Nat) (a b : Addr) (xs ys : List V), x = .ref a ∧ y = .ref b ∧ SqT K H a xs ∧ SqT K H b ys ∧ EqVs K H n xs ys ∧ n ≤ 60 ∧ Q (.bl true) H
end
end L2
namespace DL
open PySem PySem.Spec PyProof.Rows L2 RZ
mutual
inductive SameD : Nat → D → D → Prop
  | rf {n : Nat} {i : Nat} : SameD n (.rf i) (.rf i)
  | pd {n : Nat} {d : D} {p : PyData} : toPD d = some p → p.canLay0 = true → p.depth + 1 ≤ n → SameD n d d
  | tup {n : Nat} {xs ys : List D} : SameDs n xs ys → SameD (n + 1) (.tup xs) (.tup ys)
  | lst {n : Nat} {xs ys : List D} : SameDs n xs ys → SameD (n + 1) (.lst xs) (.lst ys)
inductive SameDs : Nat → List D → List D → Prop
  | nil {n : Nat} : SameDs n [] []
  | cons {n : Nat} {x y : D} {xs ys : List D} : SameD n x y → SameDs n xs ys → SameDs n (x :: xs) (y :: ys)
end
section
variable {K : PySem.W.Frag} {G : Gh} {S H : Hp}
mutual
theorem same_eqV (h : Same S H) : ∀ {n : Nat} {d e : D} {x y : V}, SameD n d e → Rep K G S x d → Rep K G S y e → EqV K H n x y
  | _, _, _, x, y, .rf, r1, r2 => by
    cases r1 with
    | rf e1 =>
      cases r2 with
      | rf e2 =>
        rw [e1] at e2
        cases e2
        exact .ref
  | _, _, _, x, y, .pd hp hc hd, r1, r2 => .dp (rep_dp h r1 hp) (rep_dp h r2 hp) hc hd
  | _, _, _, x, y, .tup t, r1, r2 => by
    cases r1 with
    | tup e1 q1 =>
      cases r2 with
      | tup e2 q2 => exact .tup (sqT_up h e1) (sqT_up h e2) (sames_eqV h t q1 q2)
  | _, _, _, x, y, .lst t, r1, r2 => by
    cases r1 with
    | lst e1 q1 =>
      cases r2 with
      | lst e2 q2 => exact .lst (.inl (.inl (h _ _ e1))) (.inl (.inl (h _ _ e2))) (sames_eqV h t q1 q2)
theorem sames_eqV (h : Same S H) : ∀ {n : Nat} {ds es : List D} {xs ys : List V}, SameDs n ds es → RepAll K G S xs ds → RepAll K G S ys es → EqVs K H n xs ys
  | _, _, _, xs, ys, .nil, r1, r2 => by
    cases r1
    cases r2
    exact .nil
  | _, _, _, xs, ys, .cons a t, r1, r2 => by
    cases r1 with
    | cons a1 b1 =>
      cases r2 with
      | cons a2 b2 => exact .cons (same_eqV h a a1 a2) (sames_eqV h t b1 b2)
end
end
def eqSD : F2 := fun x y w k => match x, y with
  | .tup xs, .tup ys => (∃ n, n ≤ 60 ∧ SameDs n xs ys) ∧ k (.bl true) w
  | _, _ => False
section
variable {X : Cx} {E : XK} {a b : Expr} {ga gb : GE} {pos : Pos} {kk : Nat} (hr : Room kk X.A)
include hr
end
end DL

namespace DL
open PySem PySem.Spec PyProof.Rows L2 RZ
def SqB (b : Bool) (K : PySem.W.Frag) (H : Hp) (a : Addr) (xs : List V) : Prop := match b with | true => SqT K H a xs | false => SqL K H a xs
def IterB (b : Bool) (h : Heap) (i a : Addr) (k : Nat) : Prop := match b with | true => h.IsTupleIter i a k | false => h.IsListIter i a k
def IsB (b : Bool) (h : Heap) (a : Addr) (vs : Array Value) : Prop := match b with | true => h.IsTuple a vs | false => h.IsList a vs
theorem IterB.at {b : Bool} {h h' : Heap} {i a : Addr} {k : Nat} (t : IterB b h i a k) (g : ∀ o, h.get? i = some o → h'.get? i = some o) : IterB b h' i a k := by
  cases b
  · exact Heap.IsListIter.at t g
  · exact Heap.IsTupleIter.at t g
theorem IterB.obj {b : Bool} {h : Heap} {i a : Addr} {k : Nat} (t : IterB b h i a k) : ∃ o, h.get? i = some o ∧ ∀ v, o.data ≠ .cell v := by
  cases b
  · obtain ⟨o, e, _, d⟩ := t
    exact ⟨o, e, fun v q => by rw [d] at q; cases q⟩
  · obtain ⟨o, e, _, d⟩ := t
    exact ⟨o, e, fun v q => by rw [d] at q; cases q⟩
theorem IsB.lt {b : Bool} {h : Heap} {a : Addr} {vs : Array Value} (t : IsB b h a vs) : a < h.objs.size := by
  cases b
  · obtain ⟨o, e, _⟩ := t
    exact Heap.lt_size e
  · obtain ⟨o, e, _⟩ := t
    exact Heap.lt_size e
theorem IsB.push {b : Bool} {h : Heap} {a : Addr} {vs : Array Value} (t : IsB b h a vs) (o : Obj) : IsB b (h.push o) a vs := by
  cases b
  · exact Heap.IsList.push t o
  · exact Heap.IsTuple.push t o
section
variable {X : Cx} {pins : List (Addr × Obj)} {σ : L2.St} {H : Hp} {s : Shared} {a : Addr} {xs ys : List V}
theorem SqB.vals {b : Bool} (I : Inv X pins σ H s) (h : SqB b X.K H a xs) : ∃ its, Vals xs its ∧ IsB b s.heap a its.toArray := by
  cases b
  · obtain ⟨its, rv, p, _⟩ := I.list h
    exact ⟨its, rv, p.isList⟩
  · obtain ⟨its, rv, p, _⟩ := I.tuple h
    exact ⟨its, rv, p⟩
theorem SqB.inj {b : Bool} (I : Inv X pins σ H s) (h : SqB b X.K H a xs) (h' : SqB b X.K H a ys) : xs = ys := by
  cases b
  · exact I.list_inj h h'
  · exact I.tuple_inj h h'
end
def ItzM (b c : Bool) (K : PySem.W.Frag) (a d : Addr) : It :=
  ⟨fun i H => ∃ (xs ys : List V) (x y : V), SqB b K H a xs ∧ SqB c K H d ys ∧ xs[i]? = some x ∧ ys[i]? = some y,
    fun i H v H' => ∃ T x y, v = .ref T ∧ H T = none ∧ H' = upd H T (.tup [x, y]) ∧ (∀ xs, SqB b K H a xs → xs[i]? = some x) ∧ ∀ ys, SqB c K H d ys → ys[i]? = some y,
    fun i H => ∃ xs ys : List V, SqB b K H a xs ∧ SqB c K H d ys ∧ i ≤ xs.length ∧ i ≤ ys.length ∧ (i = xs.length ∨ i = ys.length)⟩
def iterO (b : Bool) (a : Addr) : Obj := { cls := .type (match b with | true => "tuple_iterator" | false => "list_iterator"), data := .fields #[.ref a, .int 0 0] }
section
variable {prog : Program} {w : World} {A : Around} {E : Value → Shared → Prop} {s : Shared}
abbrev zmH1 (b : Bool) (h : Heap) (a : Addr) : Heap := h.push (iterO b a)
abbrev zmH2 (b c : Bool) (h : Heap) (a d : Addr) : Heap := (zmH1 b h a).push (iterO c d)
abbrev zmH3 (b c : Bool) (h : Heap) (a d : Addr) : Heap := (zmH2 b c h a d).push { cls := .type "tuple", data := .seq #[.ref h.objs.size, .ref (zmH1 b h a).objs.size] }
abbrev zmH4 (b c : Bool) (h : Heap) (a d : Addr) : Heap := (zmH3 b c h a d).push { cls := .type "tuple", data := .seq #[.none, .none] }
abbrev zmH5 (b c : Bool) (h : Heap) (a d : Addr) : Heap := (zmH4 b c h a d).push { cls := .type "zip", data := .fields #[.none, .bool false, .bool false, .ref (zmH2 b c h a d).objs.size, .ref (zmH3 b c h a d).objs.size] }
end
def iZipM (b c : Bool) (K : PySem.W.Frag) (ta : TA) : TI := fun σ H R => ta σ H fun vs H1 => ∃ a d xs ys, vs = [.ref a, .ref d] ∧ SqB b K H1 a xs ∧ SqB c K H1 d ys ∧ R (ItzM b c K a d) H1
def seqB : Bool → List D → D
  | true, xs => .tup xs
  | false, xs => .lst xs
def giZipM (b c : Bool) (ga : GA) : GI := fun ρ w kx k => ga ρ w kx fun ds w1 => ∃ xs ys, ds = [seqB b xs, seqB c ys] ∧ k (zipD xs ys) (fun _ => True) w1
section
variable {X : Cx} {E : XK}
def giZipA (ga : GA) : GI := fun ρ w kx k => ∃ b c, giZipM b c ga ρ w kx k
end
end DL

namespace DL
open PySem PySem.Spec PyProof.Rows L2 RZ
def notinSD : F2 := fun x y w k => match x, y with
  | .str s, .str z => ∃ c, s = ⟨#[c]⟩ ∧ k (.bl (!decide (c ∈ z.cps.toList))) w
  | _, _ => False
section
variable {X : Cx} {E : XK} {a b : Expr} {ga gb : GE} {pos : Pos}
end
end DL

namespace DL
open PySem PySem.Spec PyProof.Rows L2 RZ
mutual
def fitD : D → Bool
  | .non => true
  | .bl _ => true
  | .int i => decide (i.natAbs < 2 ^ 150)
  | .str s => decide (s.length ≤ 150)
  | .lst xs => fitDs xs
  | .tup xs => fitDs xs
  | _ => false
def fitDs : List D → Bool
  | [] => true
  | x :: xs => fitD x && fitDs xs
end
mutual
def szD : D → Nat
  | .lst xs => 1 + szDs xs
  | .tup xs => 1 + szDs xs
  | _ => 1
def szDs : List D → Nat
  | [] => 0
  | x :: xs => szD x + szDs xs
end
def shownD (d : D) : Str := match toPD d with
  | some p => p.shown
  | none => Str.empty
theorem log_150 {i : Int} (h : i.natAbs < 2 ^ 150) : i.natAbs.log2 < 150 := by
  by_cases z : i.natAbs = 0
  · rw [z]
    decide
  · exact (Nat.log2_lt z).mpr h
theorem shown_150 {i : Int} (h : i.natAbs < 2 ^ 150) : (PyData.shown (.int i)).length ≤ 52 := by
  have e := int_text_length_le10 (k := 51) (by decide) (Nat.lt_trans h (by decide))
  show (Str.ofString (toString i)).length ≤ 52
  rw [PySem.ofString_length]
  exact e
mutual
theorem fit_facts : ∀ {d : D} {p : PyData}, fitD d = true → lay d = true → toPD d = some p → p.showable = true ∧ p.leavesShort 52 = true ∧ p.weight + 1 ≤ 151 * szD d
  | .non, _, _, _, e => by cases e; exact ⟨rfl, rfl, by simp [PyData.weight, szD]⟩
  | .bl b, _, _, _, e => by cases e; exact ⟨rfl, rfl, by simp [PyData.weight, szD]⟩
  | .int i, _, h, _, e => by
    cases e
    rw [fitD, decide_eq_true_eq] at h
    have q := log_150 h
    refine ⟨?_, ?_, ?_⟩
    · rw [PyData.showable]
      exact decide_eq_true (by omega)
    · rw [PyData.leavesShort]
      exact decide_eq_true (shown_150 h)
    · rw [PyData.weight, show szD (.int i) = 1 from rfl]
      split <;> omega
  | .str s, _, h, l, e => by
    cases e
    rw [fitD, decide_eq_true_eq] at h
    refine ⟨rfl, PyData.leavesShort_of_canLay0 52 (.str s) l rfl, ?_⟩
    rw [PyData.weight, show szD (.str s) = 1 from rfl]
    have : s.cps.size ≤ 150 := h
    omega
  | .lst xs, _, h, l, e => by
    rw [toPD] at e
    obtain ⟨ps, e1, rfl⟩ := Option.map_eq_some_iff.mp e
    rw [fitD] at h
    rw [lay] at l
    obtain ⟨h1, h2, h3⟩ := fits_facts h l e1
    refine ⟨by rw [PyData.showable]; exact h1, by rw [PyData.leavesShort]; exact h2, ?_⟩
    rw [PyData.weight, szD]
    omega
  | .tup xs, _, h, l, e => by
    rw [toPD] at e
    obtain ⟨ps, e1, rfl⟩ := Option.map_eq_some_iff.mp e
    rw [fitD] at h
    rw [lay] at l
    obtain ⟨h1, h2, h3⟩ := fits_facts h l e1
    refine ⟨by rw [PyData.showable]; exact h1, by rw [PyData.leavesShort]; exact h2, ?_⟩
    rw [PyData.weight, szD]
    omega
  | .rf _, _, h, _, _ => by cases h
  | .st, _, h, _, _ => by cases h
  | .ob _, _, h, _, _ => by cases h
  | .scr _, _, h, _, _ => by cases h
theorem fits_facts : ∀ {ds : List D} {ps : List PyData}, fitDs ds = true → lays ds = true → toPDs ds = some ps → PyData.showableAll ps = true ∧ PyData.leavesShortAll 52 ps = true ∧ PyData.weightAll ps ≤ 151 * szDs ds
  | [], _, _, _, e => by cases e; exact ⟨rfl, rfl, by simp [PyData.weightAll, szDs]⟩
  | x :: xs, _, h, l, e => by
    rw [toPDs] at e
    split at e
    · rename_i p ps e1 e2
      cases e
      rw [fitDs, Bool.and_eq_true] at h
      rw [lays, Bool.and_eq_true] at l
      obtain ⟨a1, a2, a3⟩ := fit_facts h.1 l.1 e1
      obtain ⟨b1, b2, b3⟩ := fits_facts h.2 l.2 e2
      refine ⟨by rw [PyData.showableAll, a1, b1]; rfl, by rw [PyData.leavesShortAll, a2, b2]; rfl, ?_⟩
      rw [PyData.weightAll, szDs]
      omega
    · cases e
end
def rStrP (K : PySem.W.Frag) : List V → Hp → VK → Prop := fun xs H Q => ∃ a p, xs = [.ref a] ∧ Dp K H (.ref a) p ∧ p.canLay0 = true ∧ p.showable = true ∧ p.depth ≤ 20 ∧ p.shown.length ≤ sizeLine ∧ Q (.str p.shown) H
def isSeqD : D → Bool
  | .lst _ => true
  | .tup _ => true
  | _ => false
def fStrP : FB := fun ds w k => match ds with
  | [d] => (isSeqD d = true ∧ lay d = true ∧ fitD d = true ∧ dep d ≤ 20 ∧ szD d ≤ 1000) ∧ k (.str (shownD d)) w
  | _ => False
section
variable {X : Cx} {E : XK} {e : Expr} {es : List Expr} {ga : GA} {p pos : Pos} {kk : Nat}
end
end DL

namespace DL
open PySem PySem.Calls PySem.Spec PyProof.Rows PyProof.V L2 RZ
def keysV (p d : Addr) : HO := .ext fun h => PySem.W.KdlKeysView h p d
section
variable {X : Cx}
def rKeysK : V → List V → Hp → VK → Prop := fun x xs H Q => ∃ (a : Addr) (kvs : List (Key × V)), x = .ref a ∧ xs = [] ∧ H a = some (.dK kvs) ∧ ∀ p, H p = none → Q (.ref p) (upd H p (keysV p a))
def rSortKsK : List V → Hp → VK → Prop := fun xs H Q => ∃ (p a : Addr) (kvs : List (Key × V)) (ks : List Str), xs = [.ref p] ∧ H p = some (keysV p a) ∧ H a = some (.dK kvs) ∧ kvs.map (·.1) = ks.map Sum.inr ∧ ks.length < 64 ∧
  ∀ (ys : List Str) (l : Addr), ys.Perm ks → sortedS ys = true → H l = none → Q (.ref l) (upd H l (.lst (ys.map V.str)))
end
def gSortKeys (go : GE) : GE := fun ρ w kx k => go ρ w kx fun x w1 => rfK x fun i => dkK i w1 fun kvs => ∃ ks : List Str, kvs.map (·.1) = ks.map Sum.inr ∧ ks.length < 64 ∧ ∀ ys : List Str, ys.Perm ks → sortedS ys = true → k (.lst (ys.map D.str)) w1
section
variable {X : Cx} {E : XK} {e : Expr} {ge : GE} {p apos cpos pos : Pos}
end
end DL


namespace L2
open PySem PySem.Spec PyProof.Rows
theorem op_notIn_rng {X : Cx} : OpR X (compareOp .NotIn) (fun x y H Q => ∃ i a lo hi, x = V.int i ∧ y = V.ref a ∧ H a = some (.rng lo hi) ∧ Q (.bl (!decide (lo ≤ i ∧ i < hi))) H) := by
  intro pins s σ H x y v u Q I rx ry h
  obtain ⟨i, a, lo, hi, rfl, rfl, ha, q⟩ := h
  obtain ⟨k, rfl⟩ := rx
  obtain rfl : u = Value.ref a := ry
  obtain ⟨t1, t2, t3, ho⟩ := I.hok a _ ha
  refine PySem.SeqRoads2.notIn_meets ⟨_, ho, rfl⟩ F.slot_range_contains F.entry_range_contains (F.args_range_contains_2 _ _) (q_contains a lo hi i t1 t2 t3 k) ⟨ho, _, rfl, .bl _, H, I, rfl, ?_⟩
  rw [place1]
  exact q
end L2
namespace DL
open PySem PySem.Spec PyProof.Rows L2 RZ
def notInRK (x : D) (ds : List D) (w : Wd) (k : Bool → Wd → Prop) : Prop := match x, ds with
  | .int i, [.int lo, .int hi] => k (!decide (lo ≤ i ∧ i < hi)) w
  | _, _ => False
def gNotInR (ge : GE) (ga : GA) : GE := fun ρ w kx k => ge ρ w kx fun x w1 => ga ρ w1 kx fun ds w2 => notInRK x ds w2 fun b w3 => k (.bl b) w3
section
variable {X : Cx} {E : XK} {e a : Expr} {es : List Expr} {ge : GE} {ga : GA} {p pos pos2 : Pos}
theorem notInR_up {K : PySem.W.Frag} : ∀ σ H Q, upE K E (gNotInR ge ga) σ H Q → tOp (fun x y H Q => ∃ i a lo hi, x = V.int i ∧ y = V.ref a ∧ H a = some (.rng lo hi) ∧ Q (.bl (!decide (lo ≤ i ∧ i < hi))) H) (upE K E ge) (tCB (fun vs H Q => ∃ i j, vs = [V.int i, V.int j] ∧ ∀ p, H p = none → Q (.ref p) (upd H p (.rng i j))) (upA K E ga)) σ H Q := by
  rintro σ H Q ⟨G, S, ρ, w, kx, k, hr, sr, xl, kl, h⟩
  refine ⟨G, S, ρ, w, kx, _, hr, sr, xl, fun G1 S1 H1 w1 d x x1 hr1 rp h1 => ⟨G1, S1, ρ, w1, kx, _, hr1, sr.mono x1, xl.mono x1, fun G2 S2 H2 w2 ds vs x2 hr2 rp2 h2 => ?_, h1⟩, h⟩
  unfold notInRK at h2
  split at h2
  · obtain ⟨v, u, rfl, r1, r2⟩ := two_rep rp2
    cases r1
    cases r2
    cases rp
    refine ⟨_, _, rfl, fun q hq => ?_⟩
    obtain ⟨hr3, x3⟩ := hr2.newS hq (.rng _ _)
    exact ⟨_, _, _, _, rfl, rfl, upd_same, kl _ _ _ _ _ _ ((x1.trans x2).trans x3) hr3 (.bl _) h2⟩
  · exact h2.elim
theorem dt_notInR (B : Blt X.mg) (hg : Gl X "range") (h1 : DE X E e ge) (ha : DA X E (a :: es) ga)
    (he : starEach (a :: es) X.env = (false, eval a X.env) :: starEach es X.env := by rfl) (hpl : (backTo pos2 (starEach es X.env)).any (·.1) = false := by rfl) : DT X E (.Compare e [.NotIn] [.Call (.Name "range" p) (a :: es) [] pos2] pos) (gB (gNotInR ge ga)) := by
  refine pt_imp (pt_cmpR op_notIn_rng h1 (pe_rangeV B hg ha he hpl) (by rfl)) ?_
  rintro σ H Q ⟨G, S, ρ, w, kx, k, hr, sr, xl, kl, h⟩
  refine notInR_up σ H _ ⟨G, S, ρ, w, kx, _, hr, sr, xl, ?_, h⟩
  intro G3 S3 H3 w3 z v x3 hr3 rp3 h3
  cases z with
  | bl q =>
    cases rp3
    exact ⟨q, rfl, kl _ _ _ _ _ x3 hr3 h3⟩
  | _ => exact h3.elim
end
def noLst : PyData → Bool
  | .list _ => false
  | .tuple ds => noLsts ds
  | _ => true
where noLsts : List PyData → Bool
  | [] => true
  | d :: ds => noLst d && noLsts ds
mutual
inductive DpC (K : PySem.W.Frag) (H : Hp) : V → PyData → Prop
  | non : DpC K H .non .none
  | bl (b : Bool) : DpC K H (.bl b) (.bool b)
  | int (i : Int) : DpC K H (.int i) (.int i)
  | str (x : Str) : DpC K H (.str x) (.str x)
  | lst {a : Addr} {xs : List V} {ds : List PyData} : SqL K H a xs → DpCs K H xs ds → DpC K H (.ref a) (.list ds)
  | tup {a : Addr} {xs : List V} {ds : List PyData} : SqT K H a xs → DpCs K H xs ds → DpC K H (.ref a) (.tuple ds)
  | cnt {a : Addr} {l : List (Str × Int)} : H a = some (.dK (cntKV l)) → DpC K H (.ref a) (cntPD l)
inductive DpCs (K : PySem.W.Frag) (H : Hp) : List V → List PyData → Prop
  | nil : DpCs K H [] []
  | cons {v : V} {vs : List V} {d : PyData} {ds : List PyData} : DpC K H v d → DpCs K H vs ds → DpCs K H (v :: vs) (d :: ds)
end
section
variable {X : Cx} {pins : List (Addr × Obj)} {σ : L2.St} {H : Hp} {s : Shared}
mutual
theorem DpC.reads (I : Inv X pins σ H s) : ∀ {d : PyData} {v : V} {u : Value}, DpC X.K H v d → RelV v u → ∃ as, Reads s.heap u d as ∧ (noLst d = true → ∀ b ∈ as, (b == sysModules) = false)
  | _, _, _, .non, r => by
    cases r
    exact ⟨_, Reads.none, fun _ _ h => nomatch h⟩
  | _, _, _, .bl b, r => by
    cases r
    exact ⟨_, Reads.bool b, fun _ _ h => nomatch h⟩
  | _, _, _, .int i, r => by
    obtain ⟨t, rfl⟩ := r
    exact ⟨_, Reads.int i t, fun _ _ h => nomatch h⟩
  | _, _, _, .str x, r => by
    obtain ⟨t, rfl⟩ := r
    exact ⟨_, Reads.str x t, fun _ _ h => nomatch h⟩
  | _, _, _, .lst hs ha, r => by
    cases r
    obtain ⟨its, rv, ⟨o, n, ho, hc, _, hd⟩, _⟩ := I.list hs
    obtain ⟨as, hr, _⟩ := DpC.readsAll I ha rv
    exact ⟨_, Reads.list ho hc hd hr, fun h => nomatch h⟩
  | _, _, _, .tup hs ha, r => by
    cases r
    obtain ⟨its, rv, ⟨o, ho, hc, n, hd⟩, _⟩ := I.tuple hs
    obtain ⟨as, hr, hn⟩ := DpC.readsAll I ha rv
    exact ⟨_, Reads.tuple ho hc hd hr, hn⟩
  | _, _, _, .cnt (a := a) (l := l) hd, r => by
    cases r
    obtain ⟨hz, hsm, vs, kv, o, es, ep, ho, ex, hdat, keys, prs, nd⟩ := I.hok a _ hd
    obtain ⟨r1, r2⟩ := cnt_reads (h := s.heap) kv prs
    have R : Reads s.heap (.ref a) (cntPD l) (a :: [] ++ []) := by
      refine Reads.dict ho ex.1 hdat ?_ ?_
      · rw [List.map_map]
        exact r1
      · rw [List.map_map]
        exact r2
    refine ⟨_, R, fun _ b hb => ?_⟩
    rw [List.append_nil, List.mem_singleton] at hb
    rw [hb]
    exact hsm
theorem DpC.readsAll (I : Inv X pins σ H s) : ∀ {ds : List PyData} {vs : List V} {us : List Value}, DpCs X.K H vs ds → Vals vs us → ∃ as, ReadsAll s.heap us ds as ∧ (noLst.noLsts ds = true → ∀ b ∈ as, (b == sysModules) = false)
  | _, _, _, .nil, r => by
    cases r
    exact ⟨_, ReadsAll.nil, fun _ _ h => nomatch h⟩
  | _, _, _, .cons h1 h2, r => by
    cases r with
    | cons r1 r2 =>
      obtain ⟨as, q1, n1⟩ := DpC.reads I h1 r1
      obtain ⟨bs, q2, n2⟩ := DpC.readsAll I h2 r2
      refine ⟨_, ReadsAll.cons q1 q2, fun h b hb => ?_⟩
      rw [noLst.noLsts, Bool.and_eq_true] at h
      rcases List.mem_append.mp hb with hb | hb
      · exact n1 h.1 b hb
      · exact n2 h.2 b hb
end
end
def txtP : PyData → Str
  | .str s => s
  | p => p.shown
def rStrA (K : PySem.W.Frag) : List V → Hp → VK → Prop := fun xs H Q => ∃ v p, xs = [v] ∧ DpC K H v p ∧ (p.canLay0 = true ∨ noLst p = true) ∧ p.showable = true ∧ p.depth ≤ 20 ∧ p.shown.length ≤ sizeLine ∧ Q (.str (txtP p)) H
theorem call_strA {X : Cx} (quiet : X.A.guards = some []) (room : X.A.units + 64 < cLine) : CallR X (.type "str") (rStrA X.K) := by
  intro pins s σ H xs us Q I r h
  obtain ⟨v, p, rfl, hd, hc, hs, hp, hz, q⟩ := h
  obtain ⟨u, rfl, ru⟩ := vals1 r
  have far : ∀ {a : Addr}, p.hasDict = p.hasDict → DpC X.K H (.ref a) p → (∀ s, p ≠ .str s) → Q (.str p.shown) H → RelV (.ref a) u → wpAny (model X.prog X.w) X.A (call (.type "str") [u]) (fun v s' => ∃ x H', Inv X pins σ H' s' ∧ RelV x v ∧ Q x H') (fun _ _ => False) s := fun {a} _ hd _ q ru => by
    obtain ⟨as, R, hn⟩ := DpC.reads I hd ru
    have ru : u = Value.ref a := ru
    subst ru
    refine str_of_reads R hs (fun hdict => ?_) quiet (by omega) (fun _ _ h => h) (fun h' u tk k => ⟨.str _, H, I.kept k, ⟨_, rfl⟩, q⟩) hz
    rcases hc with hc | hc
    · exact PyData.noDict_hsm (PyData.hasDict_of_canLay p hc) hdict
    · intro hm
      have := hn hc _ hm
      simp at this
  cases hd with
  | non =>
    cases ru
    exact PySem.P.str_of_none ⟨.str _, H, I.tok _, ⟨_, rfl⟩, q⟩
  | bl b =>
    cases ru
    refine PySem.P.str_of_bool ⟨.str _, H, I.tok _, ⟨_, rfl⟩, ?_⟩
    cases b <;> exact q
  | int i =>
    obtain ⟨t, rfl⟩ := ru
    refine PySem.P.str_of_int (by rw [PyData.showable, decide_eq_true_eq] at hs; exact hs) ⟨.str _, H, I.tok _, ⟨_, rfl⟩, q⟩
  | str x =>
    obtain ⟨t, rfl⟩ := ru
    exact PySem.P.str_of_str ⟨.str x, H, I, ⟨t, rfl⟩, q⟩
  | lst h1 h2 => exact wpAny_mono (far rfl (.lst h1 h2) (fun _ => nofun) q ru) (fun _ _ h => h) fun _ _ h => h.elim
  | tup h1 h2 => exact wpAny_mono (far rfl (.tup h1 h2) (fun _ => nofun) q ru) (fun _ _ h => h) fun _ _ h => h.elim
  | cnt h1 => exact wpAny_mono (far rfl (.cnt h1) (fun _ => nofun) q ru) (fun _ _ h => h) fun _ _ h => h.elim
def cntOf : List (Key × D) → Option (List (Str × Int))
  | [] => some []
  | (.inr s, .int i) :: r => (cntOf r).map ((s, i) :: ·)
  | _ => none
theorem cntOf_eq : ∀ {kvs : List (Key × D)} {l : List (Str × Int)}, cntOf kvs = some l → kvs = cntKD l
  | [], l, h => by
    cases h
    rfl
  | (k, d) :: r, l, h => by
    cases k with
    | inl i => cases h
    | inr s =>
      cases d with
      | int i =>
        rw [cntOf] at h
        obtain ⟨l2, e, rfl⟩ := Option.map_eq_some_iff.mp h
        rw [cntOf_eq e]
        rfl
      | _ => cases h
def cntFitB (l : List (Str × Int)) : Bool := decide (l.length ≤ 100) && l.all fun q => PyData.strOk q.1 && decide (q.1.length ≤ 100) && decide (q.2.natAbs < 10 ^ 12)
theorem cntFit_of {l : List (Str × Int)} (h : cntFitB l = true) : CntFit l := by
  unfold cntFitB at h
  rw [Bool.and_eq_true, decide_eq_true_eq, List.all_eq_true] at h
  refine ⟨h.1, fun q hq => ?_, fun q hq => ?_⟩
  · have := h.2 q hq
    rw [Bool.and_eq_true, Bool.and_eq_true, decide_eq_true_eq] at this
    exact this.1
  · have := h.2 q hq
    rw [Bool.and_eq_true, decide_eq_true_eq] at this
    exact this.2
mutual
def toPDM (M : List Cell) : D → Option PyData
  | .non => some .none
  | .bl b => some (.bool b)
  | .int i => some (.int i)
  | .str s => some (.str s)
  | .lst xs => (toPDMs M xs).map .list
  | .tup xs => (toPDMs M xs).map .tuple
  | .rf i => match M[i]? with
    | some (.dk kvs) => (cntOf kvs).map cntPD
    | _ => none
  | _ => none
def toPDMs (M : List Cell) : List D → Option (List PyData)
  | [] => some []
  | x :: xs => match toPDM M x, toPDMs M xs with
    | some p, some ps => some (p :: ps)
    | _, _ => none
end
mutual
def fitM (M : List Cell) : D → Bool
  | .non => true
  | .bl _ => true
  | .int i => decide (i.natAbs < 2 ^ 150)
  | .str s => PyData.strOk s && decide (s.length ≤ 150)
  | .lst xs => fitMs M xs
  | .tup xs => fitMs M xs
  | .rf i => match M[i]? with
    | some (.dk kvs) => (match cntOf kvs with | some l => cntFitB l | none => false)
    | _ => false
  | _ => false
def fitMs (M : List Cell) : List D → Bool
  | [] => true
  | x :: xs => fitM M x && fitMs M xs
end
mutual
def szM : D → Nat
  | .lst xs => 1 + szMs xs
  | .tup xs => 1 + szMs xs
  | .rf _ => 200
  | _ => 1
def szMs : List D → Nat
  | [] => 0
  | x :: xs => szM x + szMs xs
end
mutual
def depM : D → Nat
  | .lst xs => depMs xs + 1
  | .tup xs => depMs xs + 1
  | .rf _ => 1
  | _ => 0
def depMs : List D → Nat
  | [] => 0
  | x :: xs => max (depM x) (depMs xs)
end
mutual
def nrf : D → Bool
  | .lst xs => nrfs xs
  | .tup xs => nrfs xs
  | .rf _ => false
  | _ => true
def nrfs : List D → Bool
  | [] => true
  | x :: xs => nrf x && nrfs xs
end
mutual
def nls : D → Bool
  | .lst _ => false
  | .tup xs => nlss xs
  | _ => true
def nlss : List D → Bool
  | [] => true
  | x :: xs => nls x && nlss xs
end
structure PdM (d : D) (p : PyData) : Prop where
  show_ : p.showable = true
  short : p.leavesShort 52 = true
  weight : p.weight + 1 ≤ 151 * szM d
  dep : p.depth = depM d
  lay : nrf d = true → p.canLay0 = true
  nls : DL.nls d = true → noLst p = true
structure PdMs (ds : List D) (ps : List PyData) : Prop where
  show_ : PyData.showableAll ps = true
  short : PyData.leavesShortAll 52 ps = true
  weight : PyData.weightAll ps ≤ 151 * szMs ds
  dep : PyData.depthAll ps = depMs ds
  lay : nrfs ds = true → PyData.canLayAll0 ps = true
  nls : nlss ds = true → noLst.noLsts ps = true
mutual
theorem fitM_facts {M : List Cell} : ∀ {d : D}, fitM M d = true → ∃ p, toPDM M d = some p ∧ PdM d p
  | .non, _ => ⟨_, rfl, rfl, rfl, by simp [PyData.weight, szM], rfl, fun _ => rfl, fun _ => rfl⟩
  | .bl b, _ => ⟨_, rfl, rfl, rfl, by simp [PyData.weight, szM], rfl, fun _ => rfl, fun _ => rfl⟩
  | .int i, h => by
    rw [fitM, decide_eq_true_eq] at h
    have q := log_150 h
    refine ⟨_, rfl, ?_, ?_, ?_, rfl, fun _ => rfl, fun _ => rfl⟩
    · rw [PyData.showable]
      exact decide_eq_true (by omega)
    · rw [PyData.leavesShort]
      exact decide_eq_true (shown_150 h)
    · rw [PyData.weight, show szM (.int i) = 1 from rfl]
      split <;> omega
  | .str s, h => by
    rw [fitM, Bool.and_eq_true, decide_eq_true_eq] at h
    refine ⟨_, rfl, rfl, PyData.leavesShort_of_canLay0 52 (.str s) h.1 rfl, ?_, rfl, fun _ => h.1, fun _ => rfl⟩
    rw [PyData.weight, show szM (.str s) = 1 from rfl]
    have : s.cps.size ≤ 150 := h.2
    omega
  | .lst xs, h => by
    rw [fitM] at h
    obtain ⟨ps, e, F⟩ := fitMs_facts h
    refine ⟨.list ps, by rw [toPDM, e]; rfl, by rw [PyData.showable]; exact F.show_, by rw [PyData.leavesShort]; exact F.short, ?_, ?_, fun h => ?_, fun h => nomatch h⟩
    · rw [PyData.weight, szM]
      have := F.weight
      omega
    · rw [PyData.depth, depM, F.dep]
    · rw [nrf] at h
      rw [PyData.canLay0]
      exact F.lay h
  | .tup xs, h => by
    rw [fitM] at h
    obtain ⟨ps, e, F⟩ := fitMs_facts h
    refine ⟨.tuple ps, by rw [toPDM, e]; rfl, by rw [PyData.showable]; exact F.show_, by rw [PyData.leavesShort]; exact F.short, ?_, ?_, fun h => ?_, fun h => ?_⟩
    · rw [PyData.weight, szM]
      have := F.weight
      omega
    · rw [PyData.depth, depM, F.dep]
    · rw [nrf] at h
      rw [PyData.canLay0]
      exact F.lay h
    · rw [DL.nls] at h
      exact F.nls h
  | .rf i, h => by
    rw [fitM] at h
    split at h
    · rename_i kvs e
      split at h
      · rename_i l e2
        have C := cntFit_of h
        refine ⟨cntPD l, by rw [toPDM, e]; simp only [e2]; rfl, cnt_show C, ?_, ?_, ?_, (fun h => nomatch h), fun _ => rfl⟩
        · show PyData.leavesShortKv 52 (l.map fun q => (PyData.str q.1, PyData.int q.2)) = true
          have T : ∀ {l : List (Str × Int)}, CntFit l → PyData.leavesShortKv 52 (l.map fun q => (PyData.str q.1, PyData.int q.2)) = true := by
            intro l
            induction l with
            | nil => intro _; rfl
            | cons q l ih =>
              intro C
              rw [List.map_cons, PyData.leavesShortKv, ih C.tail]
              have h1 : PyData.leavesShort 52 (.int q.2) = true := by
                rw [PyData.leavesShort]
                exact decide_eq_true (Nat.le_trans (PyData.shown_int_le (C.int q List.mem_cons_self)) (by decide))
              have h2 : PyData.leavesShort 52 (.str q.1) = true := PyData.leavesShort_of_canLay0 52 (.str q.1) (C.txt q List.mem_cons_self).1 rfl
              rw [h1, h2]
              rfl
          exact T C
        · have h1 := cnt_weight C
          have h2 := C.len
          show PyData.weightKv (l.map fun q => (PyData.str q.1, PyData.int q.2)) + 1 ≤ 151 * 200
          omega
        · show PyData.depthKv (l.map fun q => (PyData.str q.1, PyData.int q.2)) + 1 = 1
          rw [cnt_depth]
      · cases h
    · cases h
  | .st, h => by cases h
  | .ob _, h => by cases h
  | .scr _, h => by cases h
theorem fitMs_facts {M : List Cell} : ∀ {ds : List D}, fitMs M ds = true → ∃ ps, toPDMs M ds = some ps ∧ PdMs ds ps
  | [], _ => ⟨[], rfl, rfl, rfl, by simp [PyData.weightAll, szMs], rfl, fun _ => rfl, fun _ => rfl⟩
  | x :: xs, h => by
    rw [fitMs, Bool.and_eq_true] at h
    obtain ⟨p, e1, F⟩ := fitM_facts h.1
    obtain ⟨ps, e2, G⟩ := fitMs_facts h.2
    refine ⟨p :: ps, by rw [toPDMs, e1, e2], by rw [PyData.showableAll, F.show_, G.show_]; rfl, by rw [PyData.leavesShortAll, F.short, G.short]; rfl, ?_, by rw [PyData.depthAll, depMs, F.dep, G.dep], fun h => ?_, fun h => ?_⟩
    · rw [PyData.weightAll, szMs]
      have := F.weight
      have := G.weight
      omega
    · rw [nrfs, Bool.and_eq_true] at h
      rw [PyData.canLayAll0, F.lay h.1, G.lay h.2]
      rfl
    · rw [nlss, Bool.and_eq_true] at h
      rw [noLst.noLsts, F.nls h.1, G.nls h.2]
      rfl
end
def textD (M : List Cell) (d : D) : Str := match toPDM M d with
  | some p => txtP p
  | none => Str.empty
def fStrA : FB := fun ds w k => match ds with
  | [d] => (fitM w.M d = true ∧ (nrf d = true ∨ nls d = true) ∧ depM d ≤ 20 ∧ szM d ≤ 1000) ∧ k (.str (textD w.M d)) w
  | _ => False
section
variable {K : PySem.W.Frag} {G : Gh} {S H : Hp} {w : Wd}
mutual
theorem rep_dpc (hr : HR K G S w H) : ∀ {v : V} {d : D} {p : PyData}, Rep K G S v d → toPDM w.M d = some p → DpC K H v p
  | _, _, _, .non, e => by cases e; exact .non
  | _, _, _, .bl b, e => by cases e; exact .bl b
  | _, _, _, .int i, e => by cases e; exact .int i
  | _, _, _, .str i, e => by cases e; exact .str i
  | _, _, _, .lst h1 r, e => by
    rw [toPDM] at e
    obtain ⟨ps, e1, rfl⟩ := Option.map_eq_some_iff.mp e
    exact .lst (.inl (.inl (hr.same _ _ h1))) (reps_dpc hr r e1)
  | _, _, _, .tup h1 r, e => by
    rw [toPDM] at e
    obtain ⟨ps, e1, rfl⟩ := Option.map_eq_some_iff.mp e
    exact .tup (sqT_up hr.same h1) (reps_dpc hr r e1)
  | _, _, _, .rf (i := i) h1, e => by
    rw [toPDM] at e
    split at e
    · rename_i kvs e1
      obtain ⟨l, e2, rfl⟩ := Option.map_eq_some_iff.mp e
      have e3 := cntOf_eq e2
      subst e3
      obtain ⟨_, xs, g1, g2⟩ := hr.cell i _ _ h1 e1
      have e4 := fs_cnt g2
      subst e4
      exact .cnt g1
    · cases e
  | _, _, _, .st _, e => by cases e
  | _, _, _, .ob _, e => by cases e
  | _, _, _, .scr _, e => by cases e
theorem reps_dpc (hr : HR K G S w H) : ∀ {vs : List V} {ds : List D} {ps : List PyData}, RepAll K G S vs ds → toPDMs w.M ds = some ps → DpCs K H vs ps
  | _, _, _, .nil, e => by cases e; exact .nil
  | _, _, _, .cons h1 r, e => by
    rw [toPDMs] at e
    split at e
    · rename_i p ps e1 e2
      cases e
      exact .cons (rep_dpc hr h1 e1) (reps_dpc hr r e2)
    · cases e
end
end
theorem ok_strA {K : PySem.W.Frag} : CallOk K (rStrA K) fStrA := by
  intro G S H w xs ds k Q hr rx kl h
  unfold fStrA at h
  split at h
  · rename_i d
    obtain ⟨v, rfl, r⟩ := one_rep rx
    obtain ⟨⟨h1, h2, h3, h4⟩, hk⟩ := h
    obtain ⟨p, e, F⟩ := fitM_facts h1
    have es : textD w.M d = txtP p := by
      unfold textD
      rw [e]
    have hz : p.shown.length ≤ sizeLine := by
      have := PyData.shown_le 52 (by decide) p F.short
      have := F.weight
      have : sizeLine = 2 ^ 24 := rfl
      omega
    rw [es] at hk
    exact ⟨v, p, rfl, rep_dpc hr r e, h2.imp F.lay F.nls, F.show_, by rw [F.dep]; exact h3, hz, kl.here hr (.str _) hk⟩
  · exact h.elim
section
variable {X : Cx} {E : XK} {e : Expr} {es : List Expr} {ga : GA} {p pos : Pos} {kk : Nat}
theorem de_strA (quiet : X.A.guards = some []) (hr : Room kk X.A) (hm : X.mg "str" = none) (hg : Gl X "str") (ha : DA X E (e :: es) ga) (he : starEach (e :: es) X.env = (false, eval e X.env) :: starEach es X.env := by rfl) (hpl : (backTo pos (starEach es X.env)).any (·.1) = false := by rfl) :
    DE X E (.Call (.Name "str" p) (e :: es) [] pos) (gCB fStrA ga) := de_ct (call_strA quiet hr.units) ok_strA hg hm (by decide +kernel) ha (he := he) (hpl := hpl)
end
end DL

namespace DL
open PySem PySem.Spec PyProof.Rows L2 RZ
def giRange2 (ga : GA) : GI := fun ρ w kx k => ga ρ w kx fun ds w1 => match ds with
  | [.int i, .int j] => (-(2 ^ 62) ≤ i ∧ i < 2 ^ 62 ∧ -(2 ^ 62) ≤ j ∧ j < 2 ^ 62) ∧ k ((List.range (j - i).toNat).map fun (n : Nat) => .int (i + (n : Int))) (fun _ => True) w1
  | _ => False
section
variable {X : Cx} {E : XK} {tg : Expr}
end
def rNeDX (K : PySem.W.Frag) : R2 := fun x y H Q => ∃ (a b : Addr) (ks ls : List (Key × V)), x = .ref a ∧ y = .ref b ∧ H a = some (.dK ks) ∧ H b = some (.dK ls) ∧ ks.length = ls.length ∧ (∀ p ∈ ks, ∃ y d, valV ls p.1 = some y ∧ Dp K H p.2 d ∧ Dp K H y d ∧ (d.canLay0 = true ∧ d.depth ≤ 20)) ∧ Q (.bl false) H
def neDE : F2 := fun x y w k => match x, y with
  | .rf i, .rf j => ∃ kvs : List (Key × D), w.M[i]? = some (.dk kvs) ∧ w.M[j]? = some (.dk kvs) ∧ (kvs.map (·.1)).Nodup ∧ (∀ p ∈ kvs, ∃ q, toPD p.2 = some q ∧ (q.canLay0 = true ∧ q.depth ≤ 20)) ∧ k (.bl false) w
  | _, _ => False
section
variable {X : Cx} {E : XK} {a b : Expr} {ga gb : GE} {pos : Pos} {kk : Nat} (hr : Room kk X.A)
include hr
end
def tListVals (td : TE) : TE := fun σ H Q => td σ H fun x H1 => ∃ (a : Addr) (kvs : List (Key × V)), x = .ref a ∧ H1 a = some (.dK kvs) ∧ ∀ p, H1 p = none → Q (.ref p) (upd H1 p (.lst (kvs.map (·.2))))
section
variable {X : Cx} {o : Expr} {td : TE} {p pos apos mpos : Pos}
end
def gListVals (go : GE) : GE := fun ρ w kx k => go ρ w kx fun x w1 => rfK x fun i => dkK i w1 fun kvs => k (.lst (kvs.map (·.2))) w1
section
variable {X : Cx} {E : XK} {e : Expr} {ge : GE} {p apos cpos pos : Pos}
end
end DL

namespace DL
open PySem PySem.Spec PyProof.Rows L2 RZ
open PySem.AutoSeq1 (wpAny_loadPart')
set_option maxHeartbeats 1000000 in
theorem enum_newT (tp : Addr) (its : Array Value) (n : Nat) (dct : Option Addr) (sl : Array (Option Value)) :
    Meets (Builtin.«enumerate.__new__» ⟨[.type "enumerate", .ref tp], []⟩) (fun _ R s => s.heap.get? tp = some { cls := .type "tuple", dict := dct, data := .seq its n, slots := sl } ∧
      R (.ok (.ret (.ref (s.heap.push { cls := .type "tuple_iterator", data := .fields #[.ref tp, .int 0 0] }).objs.size)))
        { s with heap := (s.heap.push { cls := .type "tuple_iterator", data := .fields #[.ref tp, .int 0 0] }).push { cls := .type "enumerate", data := .fields #[.none, .bool false, .ref s.heap.objs.size, rawInt 0, .none, .none] } }) :=
  .of_wp fun prog w A R s q => by
    obtain ⟨hp, gs, dd, tk, os⟩ := s
    obtain ⟨ht, q⟩ := q
    have sub := sub_enumerate
    have hT : Heap.IsTuple (Shared.heap ⟨hp, gs, dd, tk, os⟩) tp its := ⟨_, ht, rfl, n, rfl⟩
    wp_walk using wpAny_loadPart' ht
    refine wpAny_stack_any fun st => wpAny_pure ?_
    split
    · rename_i cl _ _ _ _ _
      cases (cl == Value.type "enumerate") <;>
      · wp_walk using wpAny_loadPart' ht, wpAny_pyIter_tuple hT
        exact ⟨_, rfl, q⟩
    · wp_walk using wpAny_loadPart' ht, wpAny_pyIter_tuple hT
      exact ⟨_, rfl, q⟩
theorem call_enumT {prog : Program} {w : World} {A : Around} {E : Value → Shared → Prop} {s : Shared} {tp : Addr} {its : Array Value} {Q : Value → Shared → Prop} (ht : s.heap.IsTuple tp its)
    (k : ∀ h1, IsEnum h1 (s.heap.objs.size + 1) s.heap.objs.size 0 .none → h1.IsTupleIter s.heap.objs.size tp 0 → (∀ b o, s.heap.get? b = some o → h1.get? b = some o) → Q (.ref (s.heap.objs.size + 1)) { s with heap := h1 }) :
    wpAny (model prog w) A (call (.type "enumerate") [.ref tp]) Q E s := by
  obtain ⟨⟨cl, dct, dt, sl⟩, hg, hc, n, hd⟩ := ht
  have hc : cl = .type "tuple" := hc
  have hd : dt = .seq its n := hd
  subst hc
  subst hd
  refine callType_new F.called_enumerate (by decide) (F.typeCall_enumerate_1 _) (F.newCall_enumerate_1 _) (fun ob => F.args_object_init_2 ob _) F.entry_enumerate_new (enum_newT tp its n dct sl) ⟨hg, ?_⟩
  obtain ⟨ho, hho⟩ : ∃ ho : Heap, ho = s.heap.push { cls := .type "tuple_iterator", data := .fields #[.ref tp, .int 0 0] } := ⟨_, rfl⟩
  have hz : ho.objs.size = s.heap.objs.size + 1 := by
    rw [hho]
    exact Heap.size_push ..
  rw [← hho]
  have it0 : ho.get? s.heap.objs.size = some { cls := .type "tuple_iterator", data := .fields #[.ref tp, .int 0 0] } := by
    rw [hho]
    exact Heap.get?_push_size _ rfl
  have keep : ∀ b o, s.heap.get? b = some o → ho.get? b = some o := fun b o e => by
    rw [hho]
    exact Heap.get?_push_of_some _ e
  have en : IsEnum (ho.push { cls := .type "enumerate", data := .fields #[.none, .bool false, .ref s.heap.objs.size, rawInt 0, .none, .none] }) (s.heap.objs.size + 1) s.heap.objs.size 0 .none := by
    rw [← hz]
    exact Heap.get?_push_size _ rfl
  show _ ∧ _
  rw [hz]
  exact ⟨⟨_, en, rfl⟩, k _ en ⟨_, Heap.get?_push_of_some _ it0, rfl, rfl⟩ fun b o e => Heap.get?_push_of_some _ (keep b o e)⟩
def IteT (K : PySem.W.Frag) (a : Addr) : It :=
  ⟨fun i H => ∃ (xs : List V) (x : V), SqT K H a xs ∧ xs[i]? = some x, fun i H v H' => ∃ T x, v = .ref T ∧ H T = none ∧ H' = upd H T (.tup [.int (i : Nat), x]) ∧ ∀ xs, SqT K H a xs → xs[i]? = some x, fun i H => ∃ xs : List V, SqT K H a xs ∧ xs.length = i⟩
theorem turn_enumT {P : Program} {w : World} {K : PySem.W.Frag} {elts : List Expr} {kk : Nat} {tpos : Pos} (a e it : Addr) :
    Turn P w K (.Tuple elts kk tpos) (IteT K a) [e, it] e (fun i h => (∃ old, IsEnum h e it ((i : Nat) : Int) old) ∧ h.IsTupleIter it a i ∧ e ≠ it ∧ a ≠ it ∧ a ≠ e) where
  mem := by simp
  obj := fun i h st b hb => by
    obtain ⟨⟨old, he⟩, ⟨o, ho, hc, hd⟩, _⟩ := st
    rcases (show b = e ∨ b = it by simpa using hb) with z | z
    · rw [z]
      exact ⟨_, he, fun v q => nomatch q⟩
    · rw [z]
      exact ⟨o, ho, fun v q => by rw [hd] at q; cases q⟩
  keep := fun i h h1 st k => by
    obtain ⟨⟨old, he⟩, hi, r⟩ := st
    exact ⟨⟨old, k e (by simp) _ he⟩, hi.at fun o q => k it (by simp) o q, r⟩
  item := by
    intro X hP hw hK hc i pins s σ H E I hf st hg
    subst hP hw hK
    obtain ⟨⟨old, he⟩, hit, hne, hai, hae⟩ := st
    obtain ⟨xs, x, hq, hx⟩ := hg
    obtain ⟨ts, rv, p, hz⟩ := I.tuple hq
    obtain ⟨u, hu, ru⟩ := rv.get hx
    have hel : e < s.heap.objs.size := Heap.lt_size he
    have hil : it < s.heap.objs.size := by
      obtain ⟨_, q, _⟩ := id hit
      exact Heap.lt_size q
    have hlt : i < ts.toArray.size := by
      have := (List.getElem?_eq_some_iff.mp hu).1
      simpa using this
    refine wpAny_pyNext_enum_itemD (n := ts.toArray.size) (Draws.tuple (A := X.A.in1) (I.ok.hd hc) it a hai ts.toArray) he ⟨hit, p⟩ hlt hne (by simp [hne, hae.symm]) fun y h1 tk hy ho hst hT hsz hk => ?_
    have hy : ts.toArray[i]? = some y := hy
    have ey : y = u := by
      rw [List.getElem?_toArray, hu] at hy
      exact (Option.some.inj hy).symm
    subst ey
    refine ⟨_, rfl, wpAny_letOwnedTupleGo_enum (s := { s with heap := h1, toks := tk + 1 }) ho fun h2 he2 sb => ?_⟩
    have hT2 : h2.get? s.heap.objs.size = some { cls := .type "tuple", data := .seq #[.int i tk, y] } := (sb.2 _ (Nat.ne_of_gt hel)).trans hT
    have new : ObjOk X.prog X.w (upd H s.heap.objs.size (.tup [.int (i : Nat), x])) h2 s.heap.objs.size (.tup [.int (i : Nat), x]) :=
      ⟨by show 2 ≤ sizeLine; decide, [.int i tk, y], .cons ⟨_, rfl⟩ (.cons ru .nil), ⟨_, hT2, rfl, _, rfl⟩⟩
    have J : Inv X pins σ (upd H s.heap.objs.size (.tup [.int (i : Nat), x])) { s with heap := h2, toks := tk + 1 } :=
      I.turnedNew (ch := [e, it]) (fun b ob hb q => (sb.2 b (fun z => hb (by simp [z]))).trans (hk b ob (fun z => hb (by simp [z])) (fun z => hb (by simp [z])) q)) hf (Nat.le_refl _) new
    refine ⟨.ref s.heap.objs.size, _, J, rfl, ⟨_, x, rfl, I.hok.fresh (Nat.le_refl _), rfl, fun ys hy2 => by rw [I.tuple_inj hy2 hq]; exact hx⟩, ⟨⟨y, ?_⟩, hst.1.at fun o q => (sb.2 it (Ne.symm hne)).trans q, hne, hai, hae⟩, fun b hb => ?_⟩
    · have e1 : ((i + 1 : Nat) : Int) = (i : Int) + 1 := by omega
      rw [e1]
      exact he2
    · have hb2 : b < s.heap.objs.size := by
        rcases (show b = e ∨ b = it by simpa using hb) with z | z
        · exact z ▸ hel
        · exact z ▸ hil
      rw [upd_ne (Nat.ne_of_lt hb2)]
      exact (hf b hb).1
  done := by
    intro X hP hw hK hc i pins s σ H E I hf st hg
    subst hP hw hK
    obtain ⟨⟨old, he⟩, hit, hne, hai, hae⟩ := st
    obtain ⟨xs, hq, hx⟩ := hg
    obtain ⟨ts, rv, p, hz⟩ := I.tuple hq
    obtain ⟨f0, f1, f2, f3, f4, f5⟩ := hf it (by simp)
    have hl := rv.length
    have hn : i = ts.toArray.size := by simp; omega
    rw [hn] at he hit
    exact wpAny_pyNext_enum_endD (n := ts.toArray.size) (Draws.tuple (A := X.A.in1) (I.ok.hd hc) it a hai ts.toArray) he ⟨hit, p⟩ fun h1 eb => ⟨rfl, I.turned (t' := s.toks) (fun b o hb q => eb b o hb q) f0 f1 f3 f4 f5⟩
  self := fun A i s Q E st h => by
    obtain ⟨⟨_, he⟩, _⟩ := st
    exact wpAny_pyIter_enum he h
def iEnumT (K : PySem.W.Frag) (ta : TA) : TI := fun σ H R => ta σ H fun vs H1 => ∃ a xs, vs = [.ref a] ∧ SqT K H1 a xs ∧ R (IteT K a) H1
theorem pi_enumT {X : Cx} {e : Expr} {ta : TA} {p pos tpos : Pos} {elts : List Expr} {kk : Nat} (hg : Gl X "enumerate") (hm : X.mg "enumerate" = none) (ha : PA X [e] ta) (hs : starEach [e] X.env = [(false, eval e X.env)] := by rfl) :
    PI X (.Tuple elts kk tpos) (.Call (.Name "enumerate" p) [e] [] pos) (iEnumT X.K ta) := by
  refine ⟨fun pins s σ H R I h => ?_⟩
  refine Call_ (ld_blt I hg hm boot_enumerate (PyProof.Rows.callWith_type1 (thn (ha.run pos pins s σ H _ I h) fun us s1 ⟨vs, H1, J, r1, q1⟩ => ?_) hs rfl))
  obtain ⟨a, xs, ex, hq, q⟩ := q1
  subst ex
  cases r1 with
  | cons r rr =>
    cases rr
    cases r
    obtain ⟨ts, rv, pt, hz⟩ := J.tuple hq
    have hal : a < s1.heap.objs.size := by
      obtain ⟨o, ho, _⟩ := pt
      exact Heap.lt_size ho
    refine call_enumT pt fun h1 he hit keep => wpAny_pyIter_enum he ?_
    have J2 : Inv X pins σ H1 { s1 with heap := h1 } := J.kept (t' := s1.toks) keep
    refine ⟨s1.heap.objs.size + 1, [s1.heap.objs.size + 1, s1.heap.objs.size], _, _, H1, rfl, J2, turn_enumT a (s1.heap.objs.size + 1) s1.heap.objs.size, ⟨⟨.none, he⟩, hit, Nat.succ_ne_self _, Nat.ne_of_lt hal, Nat.ne_of_lt (Nat.lt_succ_of_lt hal)⟩, fun b hb => ?_, q⟩
    have hle : s1.heap.objs.size ≤ b := by
      rcases (show b = s1.heap.objs.size + 1 ∨ b = s1.heap.objs.size by simpa using hb) with z | z
      · rw [z]
        exact Nat.le_add_right _ _
      · rw [z]
        exact Nat.le_refl _
    exact J.fpOk hle (J.hok.fresh hle)
def giEnumT (ga : GA) : GI := fun ρ w kx k => ga ρ w kx fun ds w1 => match ds with
  | [.tup xs] => k (enumD 0 xs) (fun _ => True) w1
  | _ => False
theorem iter_enumT {K : PySem.W.Frag} {G : Gh} {S : Hp} {a : Addr} {xs : List V} {ds : List D} (e1 : SqT K S a xs) (r1 : RepAll K G S xs ds) : IterOk K (IteT K a) (enumD 0 ds) (fun _ => True) G S := by
  intro i G1 S1 w1 H1 x1 hr1 _
  have q1 : SqT K H1 a xs := sqT_up hr1.same (sqT_up x1.same e1)
  refine ⟨fun d hd => ?_, fun hl => ⟨xs, q1, by rw [r1.length, ← enum_len ds 0, hl]⟩⟩
  obtain ⟨d1, g1, rfl⟩ := enum_get hd
  obtain ⟨v1, h1, h2⟩ := r1.get g1
  refine ⟨⟨xs, v1, q1, h1⟩, fun x H2 y => ?_⟩
  obtain ⟨T, u1, rfl, hT, rfl, y1⟩ := y
  have z1 := y1 xs q1
  rw [h1] at z1
  cases z1
  rw [Nat.zero_add]
  exact zip_new hr1 hT (.int _) (h2.mono x1)
theorem di_enumT {X : Cx} {E : XK} {e : Expr} {ga : GA} {p pos tpos : Pos} {elts : List Expr} {kk : Nat} (B : Blt X.mg) (hg : Gl X "enumerate") (ha : DA X E [e] ga) (hs : starEach [e] X.env = [(false, eval e X.env)] := by rfl) :
    DI X E (.Tuple elts kk tpos) (.Call (.Name "enumerate" p) [e] [] pos) (giEnumT ga) := pi_imp (pi_enumT hg B.enum_ ha hs) (by
  rintro σ H R ⟨G, S, ρ, w, kx, k, hr, sr, xl, kl, h⟩
  refine ⟨G, S, ρ, w, kx, _, hr, sr, xl, fun G1 S1 H1 w1 ds vs x1 hr1 rp h1 => ?_, h⟩
  split at h1
  · obtain ⟨v, rfl, r1⟩ := one_rep rp
    cases r1 with
    | tup e1 q1 => exact ⟨_, _, rfl, sqT_up hr1.same e1, kl _ _ _ _ _ _ _ x1 hr1 (iter_enumT e1 q1) h1⟩
  · exact h1.elim)
end DL

namespace L2
open PySem PySem.Spec PyProof.Rows HT
section
variable {prog : Program} {w : World} {A : Around} {E : Value → Shared → Prop} {s : Shared}
theorem pick_rev (xs : Array Value) : ((List.range xs.size).filterMap fun (m : Nat) => xs[(((xs.size : Int) - 1) + (m : Int) * (-1)).toNat]?).toArray = xs.toList.reverse.toArray := by
  congr 1
  have e : (List.range xs.size).map (fun m : Nat => xs[(((xs.size : Int) - 1) + (m : Int) * (-1)).toNat]?) = xs.toList.reverse.map some := by
    refine List.ext_getElem (by simp) fun i h1 h2 => ?_
    rw [List.getElem_map, List.getElem_range, List.getElem_map, List.getElem_reverse]
    have hi : i < xs.size := by simpa using h1
    have : (((xs.size : Int) - 1) + (i : Int) * (-1)).toNat = xs.size - 1 - i := by omega
    rw [this, Array.getElem?_eq_getElem (by omega)]
    simp
  have f : ∀ (g : Nat → Option Value) (l : List Nat), l.filterMap g = (l.map g).filterMap id := fun g l => by
    rw [List.filterMap_map]
    rfl
  rw [f, e]
  rw [List.filterMap_map]
  show List.filterMap (fun x => some x) _ = _
  simp
theorem sliceApplied_rev {sl : Addr} {n : Nat} {v : Value} {Q : Int × Int × Nat → Shared → Prop} (hs : s.heap.IsSliceOf sl .none .none v) (ps : IsPart v (some (-1)))
    (h : Q ((n : Int) - 1, -1, n) s) : wpAny (model prog w) A (Builtin.Slice.sliceApplied (.ref sl) (pure (n : Int))) Q E s := by
  obtain ⟨os, hos, hcs, hds⟩ := id hs
  unfold Builtin.Slice.sliceApplied Builtin.Slice.sliceFields
  refine wpAny_bind (wpAny_bind (wpAny_field hos hds (x := .none) rfl (wpAny_bind (wpAny_field hos hds (x := .none) rfl (wpAny_bind (wpAny_field hos hds (x := v) rfl (wpAny_pure ?_)))))))
  refine wpAny_bind (slicePart_ ps ?_)
  show wpAny _ _ (if ((-1 : Int) == 0) = true then _ else _) _ _ s
  rw [if_neg (by decide)]
  refine wpAny_bind (slicePart_none (wpAny_bind (slicePart_none (wpAny_bind (wpAny_pure ?_)))))
  show wpAny _ _ (pure ((n : Int) - 1, (-1 : Int), Builtin.Slice.slicePlaces ((n : Int) - 1) (-1) (-1))) _ _ s
  have : Builtin.Slice.slicePlaces ((n : Int) - 1) (-1) (-1) = n := by
    unfold Builtin.Slice.slicePlaces
    have h1 : ¬ ((-1 : Int) > 0) := by omega
    have h2 : ((n : Int) - 1 - -1 - -1 - 1) = (n : Int) := by omega
    have h3 : (- -1 : Int) = 1 := by decide
    simp only [h1, if_false, h3, Int.ediv_one]
    split <;> omega
  rw [this]
  exact wpAny_pure h
theorem getItem_tuple_rev {t sl : Addr} {items : Array Value} {v : Value} {Q : Value → Shared → Prop} (ht : IsTup s.heap t items) (hs : s.heap.IsSliceOf sl .none .none v) (ps : IsPart v (some (-1)))
    (h : Q (.ref s.heap.objs.size) { s with heap := s.heap.push { cls := .type "tuple", data := .seq items.toList.reverse.toArray } })
    (hsz : items.size ≤ sizeLine) : wpAny (model prog w) A (getItem (.ref t) (.ref sl)) Q E s := by
  have htake : sizeOk (.seq items.toList.reverse.toArray) := by
    show items.toList.reverse.toArray.size ≤ sizeLine
    rw [List.size_toArray, List.length_reverse, Array.length_toList]
    exact hsz
  obtain ⟨os, hos, hcs, hds⟩ := id hs
  have hTs : s.TypeIs (.ref sl) "slice" := ⟨os, hos, hcs⟩
  unfold getItem
  try with_reducible refine wpAny_holding ?_
  first | refine wpAny_bind (wpAny_pure ?_) | skip
  refine wpAny_bind (wpAny_sequenceKey ht.typeIs (by decide) ?_)
  refine wpAny_bind (wpAny_callSpecial?_slot (name := Str.ofString "__getitem__") ht.typeIs PyProof.Rows.slot_tuple_getitem
    (wpAny_call_entry PyProof.Rows.slot_tuple_getitem ht.typeIs entry_tuple_getitem ?_ (args_tuple_getitem _ _)))
  show wpAny _ _ (Builtin.Tuple.tupleItemsOf (.ref t) >>= _) _ _ s
  refine wpAny_bind (tupleItemsOf_ ht ?_)
  refine wpAny_bind (wpAny_typeOf hTs ?_)
  rw [if_pos (by decide)]
  refine wpAny_bind (sliceApplied_rev hs ps ?_)
  have hno : ¬ ((((items.size : Int) - 1) == 0 && (-1 : Int) == 1 && items.size == items.size) = true) := by
    intro q
    rw [Bool.and_eq_true, Bool.and_eq_true] at q
    have q1 : (-1 : Int) = 1 := eq_of_beq q.1.2
    omega
  show wpAny _ _ (if (((items.size : Int) - 1) == 0 && (-1 : Int) == 1 && items.size == items.size) = true then _ else _) _ _ s
  rw [if_neg hno, pick_rev]
  first
    | exact wpAny_bind (m := Builtin.Tuple.tupleExact _) (wpAny_newObj_type (wpAny_pure ⟨_, rfl, wpAny_pure h⟩) htake)
    | exact wpAny_bind (m := Builtin.Tuple.tupleExact _) (wpAny_newObj_type (wpAny_bind (wpAny_pure (wpAny_pure ⟨_, rfl, wpAny_pure h⟩))) htake)
    | exact wpAny_bind (wpAny_bind (m := Builtin.Tuple.tupleExact _) (wpAny_newObj_type (wpAny_pure (wpAny_pure ⟨_, rfl, wpAny_pure h⟩)) htake))
    | exact wpAny_bind (wpAny_bind (m := Builtin.Tuple.tupleExact _) (wpAny_newObj_type (wpAny_pure ⟨_, rfl, wpAny_pure h⟩) htake))
end
section
variable {X : Cx}
def tRevT (K : PySem.W.Frag) (te : TE) : TE := fun σ H Q => te σ H fun x H1 => ∃ a xs, x = .ref a ∧ SqT K H1 a xs ∧ ∀ p, H1 p = none → Q (.ref p) (upd H1 p (.tup xs.reverse))
theorem pe_revT {e : Expr} {te : TE} {k : Nat} {p1 p2 p3 pos : Pos} (he : PE X e te) : PE X (.Subscript e (.Slice none none (some (.UnaryOp .USub (.Constant (.int 1) k p1) p2)) p3) pos) (tRevT X.K te) := by
  refine ⟨fun pins s σ H Q I h => ?_⟩
  refine Subscript_ (thn (he.run pins s σ H _ I h) fun v s1 ⟨x, H1, I1, r1, q1⟩ => ?_)
  obtain ⟨a, xs, ex, hx, q⟩ := q1
  subst ex
  cases r1
  have hst : PO X (some (.UnaryOp .USub (.Constant (.int 1) k p1) p2)) (tPart (tUn (rU fun i => .int (-i)) (tC (.int 1)))) := po_some (pe_un un_neg pe_int)
  refine wpAny_Slice (thn (po_none.run pins s1 σ H1 (fun o H2 => o = none ∧ H2 = H1) I1 ⟨rfl, rfl⟩) fun vl s2 ⟨l, H2, I2, pl, el, e2⟩ => ?_)
  subst el e2
  refine thn (po_none.run pins s2 σ H2 (fun o H3 => o = none ∧ H3 = H2) I2 ⟨rfl, rfl⟩) fun vu s3 ⟨u, H3, I3, pu, eu, e3⟩ => ?_
  subst eu e3
  refine thn (hst.run pins s3 σ H3 (fun o H4 => o = some (-1) ∧ H4 = H3) I3 ⟨1, rfl, -1, rfl, rfl, rfl⟩) fun vs s4 ⟨o, H4, I4, ps, eo, e4⟩ => ?_
  subst eo e4
  cases pl
  cases pu
  have I5 : Inv X pins σ H4 { s4 with heap := s4.heap.push { cls := .type "slice", data := .fields #[.none, .none, vs] } } := I4.kept (t' := s4.toks) fun b ob q => Heap.get?_push_of_some _ q
  obtain ⟨its, r, ht, hz⟩ := I5.tuple hx
  have hlen := r.length
  show wpAny (model X.prog X.w) X.A (subscriptTail e (.Slice none none (some (.UnaryOp .USub (.Constant (.int 1) k p1) p2)) p3) (.ref a) (.ref s4.heap.objs.size)) (EP X pins σ Q) X.xe { s4 with heap := s4.heap.push { cls := .type "slice", data := .fields #[.none, .none, vs] } }
  refine tail_any (ops := [.ref a, .ref s4.heap.objs.size]) ht.typeIs (PyProof.Rows.slot_tuple_getitem.lookup) ?_ (by with_unfolding_all rfl)
  refine getItem_tuple_rev ht (Heap.IsSliceOf.new _ .none .none vs) ps ?_ (by rw [List.size_toArray]; omega)
  refine ⟨.ref _, _, I5.laid (t' := s4.toks) (o := .tup xs.reverse) (fun b ob q => Heap.get?_push_of_some _ q) (Nat.le_refl _) ?_, rfl, q _ (I5.hok.fresh (Nat.le_refl _))⟩
  exact ⟨by rw [List.length_reverse]; exact hz, its.reverse, r.reverse, IsTup.new _ _⟩
end
end L2
namespace DL
open PySem PySem.Spec PyProof.Rows L2 RZ
def gRevT (g : GE) : GE := fun ρ w kx k => g ρ w kx fun x w1 => match x with
  | .tup xs => k (.tup xs.reverse) w1
  | _ => False
theorem de_revT {X : Cx} {E : XK} {e : Expr} {g : GE} {k : Nat} {p1 p2 p3 pos : Pos} (he : DE X E e g) : DE X E (.Subscript e (.Slice none none (some (.UnaryOp .USub (.Constant (.int 1) k p1) p2)) p3) pos) (gRevT g) := by
  refine pe_imp (pe_revT he) ?_
  rintro σ H Q ⟨G, S, ρ, w, kx, k, hr, sr, xl, kl, h⟩
  refine ⟨G, S, ρ, w, kx, _, hr, sr, xl, fun G1 S1 H1 w1 d x x1 hr1 rp h1 => ?_, h⟩
  cases rp with
  | tup e r => exact ⟨_, _, rfl, sqT_up hr1.same e, (kl.mono x1).newT hr1 (RepAll.rev r) h1⟩
  | _ => exact h1.elim
def mulTpD : F2 := fun x y w k => match x, y with
  | .tup xs, .int j => (xs ≠ [] ∧ 2 ≤ j ∧ j ≤ 1000 ∧ xs.length ≤ 1000) ∧ k (.tup (List.replicate j.toNat xs).flatten) w
  | _, _ => False
theorem RepAll.repT {K : PySem.W.Frag} {G : Gh} {S : Hp} {vs : List V} {ds : List D} (h : RepAll K G S vs ds) : ∀ n : Nat, RepAll K G S (List.replicate n vs).flatten (List.replicate n ds).flatten
  | 0 => .nil
  | n + 1 => by
    rw [List.replicate_succ, List.replicate_succ, List.flatten_cons, List.flatten_cons]
    exact h.append (RepAll.repT h n)
theorem ok_mulTp {K : PySem.W.Frag} : BinOk K (rRepT K) mulTpD := by
  intro G S H w x y d e k Q hr rx ry kl h
  unfold mulTpD at h
  split at h
  · obtain ⟨⟨h1, h2, h3, h4⟩, hk⟩ := h
    cases rx with
    | tup e r =>
      cases ry
      have l := r.length
      exact ⟨_, _, _, rfl, rfl, sqT_up hr.same e, (fun z => h1 (by subst z; cases r; rfl)), h2, h3, by omega, kl.newT hr (RepAll.repT r _) hk⟩
  · exact h.elim
section
variable {X : Cx} {E : XK} {a b : Expr} {ga gb : GE} {pos : Pos}
theorem de_mulTp (ha : DE X E a ga) (hb : DE X E b gb) : DE X E (.BinOp a .Mult b pos) (gBin mulTpD ga gb) := de_bin L2.op_repT ok_mulTp ha hb
end
end DL

namespace LW
open PySem PySem.Spec PyProof.Rows L2 RZ DL
local macro_rules | `(tactic| simp! only [$xs,*] $[$loc]?) => `(tactic| simp only [$xs,*, sem0,List.map_cons,List.map_nil,List.length_cons,List.length_nil,gSeq,gNext,gRet,gRetN,gIfS,gSet,gPar,gAsg,gDrop,gVar,gC,gBin,gUn,gB,gTru,gAnd,gOr,gNot,gAndV,gOrV,gNotV,gIf,gChain,gaNil,gaCons,DL.gTup,DL.gLst,gCB,gCall0,gAug,addD_i,addD_s,addD_l,addD_t,subD_i,mulD_i,mulD_l,fdivD_i,modD_i,powD_i,ltD_i,ltD_s,leD_i,gtD_i,geD_i,isD_n,isnotD_n,isNonD_non,isNonD_bl,isNonD_int,isNonD_str,isNonD_lst,isNonD_tup,negD_i,iaddD_i,truD_non,truD_bl,truD_int,truD_str,truD_lst,truD_tup,someK_some,ixD_l,ixD_t,fAbs_i,fInt_i,fInt_b,fMin2_i,fLen_l,fLen_t,fLen_s,fList_l,fList_t,fTuple_l,fTuple_t,optBK_some,fIsi_non,fIsi_bl,fIsi_int,fIsi_str,fIsi_lst,fIsi_tup,List.getElem?_cons_zero,List.getElem?_cons_succ,List.set_cons_zero,List.set_cons_succ,DL.ggName,ggNil0,ggCons1,ggTup2,ggTup3,gFor,giSeq,gLc,gYes,wipeR,true_and,and_true,at_0,at_1,at_2,kit_int_int,kit_bool_int,kit_str_int,kit_non_int,kit_list_int,kit_tuple_int,kit_int_bool,kit_bool_bool,kit_str_bool,kit_non_bool,kit_list_bool,kit_tuple_bool,kit_int_str,kit_bool_str,kit_str_str,kit_non_str,kit_list_str,kit_tuple_str,kit_int_list,kit_bool_list,kit_str_list,kit_non_list,kit_list_list,kit_tuple_list,kit_int_tuple,kit_bool_tuple,kit_str_tuple,kit_non_tuple,kit_list_tuple,kit_tuple_tuple,eqD_i,neD_i,eqD_s,neD_s,eqD_f,neD_f,Nat.zero_add,Nat.reduceAdd,nc0,nc1,nc2,nc3,nc4,nc5,nc6,nc7,nc8,nc9,eq_self,decide_true,decide_false,Int.reduceEq,Int.reduceLT,Int.reduceLE,Int.reduceNeg,Bool.not_true,Bool.not_false,Bool.false_eq_true,if_true,if_false,↓reduceIte,false_and,and_false,List.all_cons,List.all_nil,List.any_cons,List.any_nil,id_eq,Bool.and_true,Bool.true_and,Bool.or_false,Bool.false_or,Bool.and_false,Bool.false_and,gCut,eqD_b,neD_b,giZip,reduceCtorEq,Bool.true_eq_false,Bool.false_eq_true,gRevL,gSl,goNone,goSome,slD_l,ne_eq,not_false_eq_true,not_true_eq_false,gBM,isTy_l,isTy_s,new_at,new_set,isTy_new,cellK_new,append_new,popAt_new,gFrz_eq,frzK_new,fLen_new,fTuple_new,ixD_new,slA_l,slA_t,slA_new,addTD_t,addCD_l,mulCD_l,isbD_b,isnotbD_b,mSplitC_s,gLstC,gTr,ggSub,lstK_l,lstK_r,addLD_eq] $[$loc]?)
def topS (i : Nat) : Stmt := PySem.Challenge.pw_royaltree_k06_what_rows_are.main.body.getD i (.Pass ⟨0, 0, 0, 0⟩)


theorem fmod_nat (x m : Nat) : (x : Int).fmod (m : Int) = ((x % m : Nat) : Int) := by
  rw [Int.fmod_eq_emod_of_nonneg _ (by omega)]
  rfl
def sg (t b : Int) : Int := if b < 0 then -(Int.gcd t b : Int) else (Int.gcd t b : Int)
def frT (t b : Int) : Int := t / sg t b
def frB (t b : Int) : Int := b / sg t b
structure IsFr (t b p q : Int) : Prop where
  pos : 0 < q
  cop : Int.gcd p q = 1
  eq : p * b = t * q
theorem gcd_pos {t b : Int} (h : b ≠ 0) : 0 < Int.gcd t b := Int.gcd_pos_of_ne_zero_right t h
theorem sg_dvd (t b : Int) : sg t b ∣ t ∧ sg t b ∣ b := by
  unfold sg
  split
  · exact ⟨Int.neg_dvd.mpr (Int.gcd_dvd_left t b), Int.neg_dvd.mpr (Int.gcd_dvd_right t b)⟩
  · exact ⟨Int.gcd_dvd_left t b, Int.gcd_dvd_right t b⟩
theorem sg_ne {t b : Int} (h : b ≠ 0) : sg t b ≠ 0 := by
  have := gcd_pos (t := t) h
  unfold sg
  split <;> omega
theorem fr_mul (t b : Int) : frT t b * sg t b = t ∧ frB t b * sg t b = b := ⟨Int.ediv_mul_cancel (sg_dvd t b).1, Int.ediv_mul_cancel (sg_dvd t b).2⟩
theorem fr_is {t b : Int} (h : b ≠ 0) : IsFr t b (frT t b) (frB t b) := by
  obtain ⟨e1, e2⟩ := fr_mul t b
  have g0 := gcd_pos (t := t) h
  have ns := sg_ne (t := t) h
  refine ⟨?_, ?_, ?_⟩
  · by_cases hb : b < 0
    · have hs : sg t b < 0 := by
        unfold sg
        rw [if_pos hb]
        omega
      refine Int.pos_of_mul_neg_right ?_ hs |> fun z => z
      rw [Int.mul_comm, e2]
      exact hb
    · have hs : 0 < sg t b := by
        unfold sg
        rw [if_neg hb]
        omega
      refine Int.pos_of_mul_pos_right ?_ hs |> fun z => z
      rw [Int.mul_comm, e2]
      omega
  · have e : Int.gcd t b = Int.gcd (frT t b) (frB t b) * (sg t b).natAbs := by
      have q : Int.gcd (frT t b * sg t b) (frB t b * sg t b) = Int.gcd (frT t b) (frB t b) * (sg t b).natAbs := Int.gcd_mul_right _ _ _
      rw [e1, e2] at q
      exact q
    have e3 : (sg t b).natAbs = Int.gcd t b := by
      unfold sg
      split <;> omega
    rw [e3] at e
    have : Int.gcd (frT t b) (frB t b) * Int.gcd t b = 1 * Int.gcd t b := by omega
    exact Nat.eq_of_mul_eq_mul_right g0 this
  · have : frT t b * b * sg t b = t * frB t b * sg t b := by
      calc frT t b * b * sg t b = (frT t b * sg t b) * b := by ac_rfl
        _ = t * b := by rw [e1]
        _ = t * (frB t b * sg t b) := by rw [e2]
        _ = t * frB t b * sg t b := by ac_rfl
    exact Int.eq_of_mul_eq_mul_right ns this
theorem dvd_cop {q p r : Int} (h : q ∣ p * r) (c : Int.gcd q p = 1) : q ∣ r := by
  have h1 : q.natAbs ∣ p.natAbs * r.natAbs := by
    rw [← Int.natAbs_mul]
    exact Int.natAbs_dvd_natAbs.mpr h
  have c1 : Nat.Coprime q.natAbs p.natAbs := c
  exact Int.natAbs_dvd_natAbs.mp (c1.dvd_of_dvd_mul_left h1)
theorem fr_unique {t b p q p' q' : Int} (hb : b ≠ 0) (h : IsFr t b p q) (h' : IsFr t b p' q') : p = p' ∧ q = q' := by
  have c : p * q' = p' * q := by
    have : p * q' * b = p' * q * b := by
      calc p * q' * b = (p * b) * q' := by ac_rfl
        _ = t * q * q' := by rw [h.eq]
        _ = (t * q') * q := by ac_rfl
        _ = (p' * b) * q := by rw [h'.eq]
        _ = p' * q * b := by ac_rfl
    exact Int.eq_of_mul_eq_mul_right hb this
  have d1 : q ∣ q' := by
    have : q ∣ p * q' := ⟨p', by rw [c, Int.mul_comm]⟩
    exact dvd_cop this (by rw [Int.gcd_comm]; exact h.cop)
  have d2 : q' ∣ q := by
    have : q' ∣ p' * q := ⟨p, by rw [← c, Int.mul_comm]⟩
    exact dvd_cop this (by rw [Int.gcd_comm]; exact h'.cop)
  have e : q = q' := Int.dvd_antisymm (Int.le_of_lt h.pos) (Int.le_of_lt h'.pos) d1 d2
  refine ⟨?_, e⟩
  subst e
  have := h.pos
  exact Int.eq_of_mul_eq_mul_right (by omega) c
theorem fr_eq {t b p q : Int} (hb : b ≠ 0) (h : IsFr t b p q) : frT t b = p ∧ frB t b = q := fr_unique hb (fr_is hb) h
theorem IsFr.self {p q : Int} (h1 : 0 < q) (h2 : Int.gcd p q = 1) : IsFr p q p q := ⟨h1, h2, rfl⟩
theorem fr_le {t b : Int} (hb : b ≠ 0) : (frT t b).natAbs ≤ t.natAbs ∧ (frB t b).natAbs ≤ b.natAbs := by
  obtain ⟨e1, e2⟩ := fr_mul t b
  have ns := sg_ne (t := t) hb
  have h1 : 1 ≤ (sg t b).natAbs := by omega
  have f1 := congrArg Int.natAbs e1
  have f2 := congrArg Int.natAbs e2
  rw [Int.natAbs_mul] at f1 f2
  constructor
  · calc (frT t b).natAbs = (frT t b).natAbs * 1 := by omega
      _ ≤ (frT t b).natAbs * (sg t b).natAbs := Nat.mul_le_mul_left _ h1
      _ = t.natAbs := f1
  · calc (frB t b).natAbs = (frB t b).natAbs * 1 := by omega
      _ ≤ (frB t b).natAbs * (sg t b).natAbs := Nat.mul_le_mul_left _ h1
      _ = b.natAbs := f2
theorem sg_abs (t b : Int) : (sg t b).natAbs = Int.gcd t b := by
  unfold sg
  split <;> omega
theorem gcd_le {t b : Int} (hb : b ≠ 0) : Int.gcd t b ≤ b.natAbs := Nat.le_of_dvd (by omega) (Int.natAbs_dvd_natAbs.mpr (Int.gcd_dvd_right t b) |> fun z => by simpa using z)
theorem log_ok {n : Nat} (h : n < 2 ^ 4000) : n.log2 < 9000 := Nat.lt_trans (PySem.Flt.log2_lt_of (by decide) h) (by decide)
theorem fdiv_dvd {t s : Int} (h : s ∣ t) : t.fdiv s = t / s := Int.fdiv_eq_ediv_of_dvd h

def sp__law_take : GF := gTake
def sp__law_begin : GF := gBegin
abbrev s__law_begin : Stmt := topS 19
theorem sc__law_begin : FnScope ["_law_script", "_law_cells"] ["_law_script"] (defScope s__law_begin) := ⟨rfl, rfl, rfl, by decide +kernel, rfl, by decide +kernel, by decide +kernel⟩

theorem ok__law_begin {P : Program} {w : World} {K : PySem.W.Frag} {mg : Str → Option Value} {base : Heap} (T : DefAt K mg "_law_begin" s__law_begin ["_law_script"]) (B : Blt mg) : FnAt P w K mg base CX0 1 "_law_begin" 1 gBegin := by
  have nd := sc__law_begin.nd
  refine T.mk0 fun f fd F => F.ok sc__law_begin (fun vs H Q E h => ?_) (fun cdv A outer s H vs Q E hr h => ?_)
  · obtain ⟨G, S, ds, w, kx, k, h1, h2, h3, _⟩ := h
    rw [h3.length, h1]
    rfl
  · obtain ⟨G, S, ds, w, kx, k, h1, h2, h3, h4, h5, ns, rfl, hn, hk⟩ := h
    obtain ⟨v, rfl, r⟩ := one_rep h3
    cases r with
    | scr hS =>
      rename_i a
      have hS1 := h2.same.seq hS
      refine ⟨_, pss_cons (ps_set (i := 1) nd rfl (by first | exact Or.inl rfl | exact Or.inr rfl) (pe_callTy call_list_of (by rfl) B.list_ (by decide +kernel) (pa_cons (pe_slice sl_list (pv 0) po_none (po_some pe_int)) pa_nil)))
        (pss_cons (ps_if (pt_cmpR (op_eqD hr.units) (pv 1) (pe_lst pa_nil) (nomark _)) (pss_one (ps_set (i := 1) nd rfl (by first | exact Or.inl rfl | exact Or.inr rfl) (pe_lst (pa_cons pe_int pa_nil)))) pss_nil)
        (pss_one (ps_ret (pe_disp (pps_cons pe_str (pv 1) (pps_cons pe_str pe_int pps_nil)) (by rfl) (by rfl) (by intro z; cases z) (by decide))))), ?_⟩
      -- list(script[:63])
      refine ⟨.ref a, rfl, 63, rfl, a, ns.map V.int, rfl, hS1, fun c1 n1 => ?_⟩
      refine ⟨c1, _, rfl, .inl (.inl (.inl upd_same)), fun c n2 => ?_⟩
      have cv : cutV (ns.map V.int) none (some 63) = (ns.take 63).map V.int := by
        unfold cutV
        rw [HT.sIx_none, show (some (63 : Int)) = some ((63 : Nat) : Int) from rfl, HT.sIx_nat, List.drop_zero, List.map_take, List.length_map, Nat.sub_zero]
        rcases Nat.le_total 63 ns.length with hle | hle
        · rw [Nat.min_eq_left hle]
        · rw [Nat.min_eq_right hle, List.take_of_length_le (by rw [List.length_map]; exact Nat.le_refl _), List.take_of_length_le (by rw [List.length_map]; exact hle)]
      rw [cv] at n2 ⊢
      have hlen : (ns.take 63).length ≤ 63 := by
        rw [List.length_take]
        exact Nat.min_le_left _ _
      clear cv
      generalize ns.take 63 = l at n2 hlen ⊢
      have nc1 : H c1 = none := n1
      have nc : (upd H c1 (.lst (l.map V.int))) c = none := n2
      have nc0 : H c = none := by
        rw [upd_ne] at nc
        · exact nc
        · intro z
          rw [z, upd_same] at nc
          cases nc
      -- the same heap but the copies
      have fin : ∀ (H3 : Hp) (c : Addr) (cells : List Int), Same H H3 → H c = none → H3 c = some (.lst (cells.map V.int)) → cells ≠ [] → cells.length ≤ 63 → HR K G S w H3 →
          (tRet (tDisp [(tC (.str "cells"), tVar 1), (tC (.str "turn"), tC (.int 0))])) { nx := fun _ H' => Q .non H', rt := Q } [some (.ref a), some (.ref c)] H3 := by
        intro H3 c cells sm hc0 hc3 hne hl63 hr3 p hp
        refine ⟨.ref c, rfl, upd_same, [(.inr "cells", .ref c), (.inr "turn", .int 0)], rfl, (by show 2 ≤ 15; decide), ?_⟩
        have em : mergeK [] [((Sum.inr ("cells" : Str) : Key), V.ref c), ((Sum.inr ("turn" : Str) : Key), V.int 0)] = stKv c 0 := by
          show putK (putK [] (Sum.inr ("cells" : Str) : Key) (V.ref c)) (Sum.inr ("turn" : Str) : Key) (V.int 0) = stKv c 0
          rw [putK_new (V.ref c) (valV_nil), List.nil_append, putK_new (V.int 0) (by rw [valV_neg key_ne, valV_nil])]
          rfl
        have ncp : c ≠ p := ne_of_none hc3 hp
        have e1 : upd (upd H3 p (.dK [])) p (.dK (mergeK [] [((Sum.inr ("cells" : Str) : Key), V.ref c), ((Sum.inr ("turn" : Str) : Key), V.int 0)])) = upd H3 p (.dK (stKv c 0)) := by
          rw [upd_upd, em]
        show Q (.ref p) (upd (upd H3 p (.dK [])) p (.dK (mergeK [] [((Sum.inr ("cells" : Str) : Key), V.ref c), ((Sum.inr ("turn" : Str) : Key), V.int 0)])))
        rw [e1]
        have hr4 := (hr3.push (o := .dK (stKv c 0)) hp).1
        -- out of the frame again
        have hr5 : HR K G S w (upd H3 p (.dK (stKv c 0))) := ⟨hr4.same, hr4.len, hr4.nod, fun i b cc e1 e2 => by
            have q := hr3.cell i b cc e1 e2
            exact q.mono (Ext.refl _ _) (upd_ne (fun z => hr3.freshAl hp (z ▸ List.mem_of_getElem? e1))) q.sNone, ⟨hr4.st.1, fun b cc e => by
            obtain ⟨y1, y2, y3, y4, y5, y6, y7⟩ := hr4.st.2 b cc e
            exact ⟨y1, y2, y3, y4, y5, fun q hq => y6 q (List.mem_cons_of_mem _ hq), y7⟩⟩, fun q hq => by
            obtain ⟨y1, y2, y3⟩ := hr3.fr q hq
            exact ⟨y1, y2, by rw [upd_ne (hr3.freshFr hp q hq)]; exact y3⟩⟩
        obtain ⟨hr6, x6⟩ := hr5.made hn (c := c) (a := p) (cells := cells) (by rw [upd_ne ncp]; exact hc3) ⟨h2.freshS hc0, h2.freshAl hc0, h2.freshFr hc0⟩ upd_same ⟨hr3.freshS hp, hr3.freshAl hp, hr3.freshFr hp⟩ ncp.symm hne hl63
        exact h5 _ _ _ _ _ _ x6 hr6 (.st rfl) hk
      have hrN : ∀ {H3 : Hp} {p : Addr} {o : HO}, HR K G S w H3 → H3 p = none → HR K G S w (upd H3 p o) := fun {H3 p o} hr3 hp => by
        have hr4 := (hr3.push (o := o) hp).1
        exact ⟨hr4.same, hr4.len, hr4.nod, fun i b cc e1 e2 => by
            have q := hr3.cell i b cc e1 e2
            exact q.mono (Ext.refl _ _) (upd_ne (fun z => hr3.freshAl hp (z ▸ List.mem_of_getElem? e1))) q.sNone, ⟨hr4.st.1, fun b cc e => by
            obtain ⟨y1, y2, y3, y4, y5, y6, y7⟩ := hr4.st.2 b cc e
            exact ⟨y1, y2, y3, y4, y5, fun q hq => y6 q (List.mem_cons_of_mem _ hq), y7⟩⟩, fun q hq => by
            obtain ⟨y1, y2, y3⟩ := hr3.fr q hq
            exact ⟨y1, y2, by rw [upd_ne (hr3.freshFr hp q hq)]; exact y3⟩⟩
      have hr1 := hrN (o := .lst (l.map V.int)) h2 nc1
      have hr2 := hrN (o := .lst (l.map V.int)) hr1 nc
      have sm1 : Same H (upd (upd H c1 (.lst (l.map V.int))) c (.lst (l.map V.int))) := fun b o e => by
        rw [upd_ne (ne_of_none e nc0), upd_ne (ne_of_none e nc1)]
        exact e
      have dp : ∀ (l : List Int) (H3 : Hp) (b : Addr), H3 b = some (.lst (l.map V.int)) → Dp K H3 (.ref b) (.list (l.map PyData.int)) := fun l H3 b e => by
        refine .lst (.inl (.inl e)) ?_
        clear e
        induction l with
        | nil => exact .nil
        | cons x r ih => exact .cons (.int x) ih
      -- cells == []
      refine ⟨.ref c, rfl, Nat.zero_le _, fun e n3 => ?_⟩
      have nce : c ≠ e := fun z => by
        have q := n3
        rw [← z, upd_same] at q
        cases q
      have hc3 : (upd (upd (upd H c1 (.lst (l.map V.int))) c (.lst (l.map V.int))) e (.lst [])) c = some (.lst (l.map V.int)) := by
        rw [upd_ne nce, upd_same]
      have hr3 := hrN (o := .lst []) hr2 n3
      have sm2 : Same H (upd (upd (upd H c1 (.lst (l.map V.int))) c (.lst (l.map V.int))) e (.lst [])) := fun b o eb => by
        rw [upd_ne (ne_of_none (sm1 b o eb) n3)]
        exact sm1 b o eb
      refine ⟨_, _, dp l _ c hc3, dp [] _ e upd_same, ?_, rfl, _, rfl, ?_⟩
      · exact shaped_ints _
      · cases l with
        | nil =>
          refine iteT ⟨by decide, fun d n4 => ?_⟩
          refine fin _ d [7] (fun b o eb => ?_) ?_ upd_same (by intro z; cases z) (by decide) (hrN hr3 n4)
          · rw [upd_ne (ne_of_none (sm2 b o eb) n4)]
            exact sm2 b o eb
          · cases q : H d with
            | none => rfl
            | some o =>
              have := sm2 d o q
              rw [n4] at this
              cases this
        | cons x r =>
          exact iteF (fin _ c (x :: r) sm2 nc0 hc3 (by intro z; cases z) hlen hr3)

abbrev s__law_take : Stmt := topS 20
theorem sc__law_take : FnScope ["_law_state", "_law_many", "_law_turn", "_law_place", "_law_cell", "_law_digit", "_law_mixed"] ["_law_state", "_law_many"] (defScope s__law_take) := ⟨rfl, rfl, rfl, by decide +kernel, rfl, by decide +kernel, by decide +kernel⟩

theorem ok__law_take {P : Program} {w : World} {K : PySem.W.Frag} {mg : Str → Option Value} {base : Heap} (T : DefAt K mg "_law_take" s__law_take ["_law_state", "_law_many"]) (B : Blt mg) : FnAt P w K mg base CX0 1 "_law_take" 2 gTake := by
  have nd := sc__law_take.nd
  refine T.mk0 fun f fd F => F.ok sc__law_take (fun vs H Q E h => ?_) (fun cdv A outer s H vs Q E hr h => ?_)
  · obtain ⟨G, S, ds, w, kx, k, h1, h2, h3, _⟩ := h
    rw [h3.length, h1]
    rfl
  · obtain ⟨G, S, ds, w, kx, k, h1, h2, h3, h4, h5, m, n, rfl, ⟨hm0, hm9⟩, hn, hk⟩ := h
    obtain ⟨v, u, rfl, r1, r2⟩ := two_rep h3
    cases r2
    cases r1 with
    | st hst =>
      rename_i a c
      obtain ⟨z1, z2, z3, z4, z5, z6, cells, turn, ha, hc, hne, hl63, ht0, htn⟩ := h2.st.2 a c hst
      rw [hn] at htn
      have htn' : turn + ((n + 1 : Nat) : Int) ≤ 1000000000 := htn
      have hu := hu_of hr
      have ha' : H a = some (.dK (stKv c turn)) := ha
      refine ⟨_, pss_cons (ps_set (i := 2) nd rfl (by first | exact Or.inl rfl | exact Or.inr rfl) (pe_op op_add (pe_dget hu (pv 0) pe_str (fun _ _ => rfl)) pe_int))
        (pss_cons (ps_dput hu (pv 0) pe_str (pv 2) (by rfl))
        (pss_cons (ps_set (i := 3) nd rfl (by first | exact Or.inl rfl | exact Or.inr rfl) (pe_op op_mod (pv 2) (pe_callB call_len_seq (by rfl) B.len_ PySem.boot_len (pa_cons (pe_dget hu (pv 0) pe_str (fun _ _ => rfl)) pa_nil))))
        (pss_cons (ps_set (i := 4) nd rfl (by first | exact Or.inl rfl | exact Or.inr rfl) (pe_ix ix_list (pe_dget hu (pv 0) pe_str (fun _ _ => rfl)) (pv 3) (fun _ _ => rfl)))
        (pss_cons (ps_if (pt_cmpR op_ge (pv 4) (pe_op op_pow pe_int pe_int) (nomark _))
          (pss_cons (ps_asg (pe_callB call_divmodW (by rfl) B.divmod_ (by decide +kernel) (pa_cons (pv 4) (pa_cons (pv 1) pa_nil))) (pg_tup rfl (pgs_cons (pg_sub (pe_dget hu (pv 0) pe_str (fun _ _ => rfl)) (pv 3) set_list) (pgs_cons (pg_name (i := 5) nd rfl (by first | exact Or.inl rfl | exact Or.inr rfl)) pgs_nil))))
            (pss_one (ps_ret (pv 5)))) pss_nil)
        (pss_cons (ps_set (i := 6) nd rfl (by first | exact Or.inl rfl | exact Or.inr rfl) (pe_op op_mod (pe_op op_mulX (pe_op op_add (pe_op op_add (pe_op op_mod (pv 4) pe_int) (pe_op op_mulX (pe_op op_mulX (pv 2) (pv 2)) pe_int)) pe_int) pe_int) pe_int))
        (pss_cons (ps_set (i := 6) nd rfl (by first | exact Or.inl rfl | exact Or.inr rfl) (pe_op op_mod (pe_op op_mulX (pv 6) (pv 6)) pe_int))
        (pss_one (ps_ret (pe_op op_mod (pe_op op_fdiv (pe_op op_mod (pe_op op_mulX (pe_op op_add (pv 6) (pe_op op_mulX (pv 2) pe_int)) pe_int) pe_int) pe_int) (pv 1)))))))))), ?_⟩
      have gT : DGet H a (.str "turn") (some (.int turn)) := by
        have q := DGet.k (k := .inr "turn") ha'
        rw [st_turn] at q
        exact q
      -- turn = state['turn'] + 1; state['turn'] = turn
      refine ⟨.ref a, rfl, a, .int turn, rfl, gT, turn, 1, rfl, rfl, ?_⟩
      refine ⟨.int (turn + 1), rfl, .ref a, rfl, a, _, rfl, DPut.k (k := .inr "turn") ha' (by show 2 < sizeLine; decide), ?_⟩
      rw [st_put]
      have hr1 : HR K G S ⟨w.M, some n⟩ (upd H a (.dK (stKv c (turn + 1)))) := h2.drawn hst (fun b b1 _ => upd_ne b1) upd_same (by rw [upd_ne (Ne.symm z3)]; exact hc) hne hl63 (by omega) (by omega)
      have ea1 : (upd H a (.dK (stKv c (turn + 1)))) a = some (.dK (stKv c (turn + 1))) := upd_same
      have ec1 : (upd H a (.dK (stKv c (turn + 1)))) c = some (.lst (cells.map V.int)) := by
        rw [upd_ne (Ne.symm z3)]
        exact hc
      generalize upd H a (.dK (stKv c (turn + 1))) = H1 at hr1 ea1 ec1
      have gC : ∀ {H2 : Hp}, H2 a = some (.dK (stKv c (turn + 1))) → DGet H2 a (.str "cells") (some (.ref c)) := fun {H2} e => by
        have q := DGet.k (k := .inr "cells") e
        rw [st_cells] at q
        exact q
      have hlc : 0 < cells.length := List.length_pos_iff.mpr hne
      -- place = turn % len(state['cells'])
      refine ⟨.int (turn + 1), rfl, .ref a, rfl, a, _, rfl, gC ea1, c, _, rfl, .inl (.inl (.inl ec1)), turn + 1, _, rfl, rfl, by rw [List.length_map]; omega, ?_⟩
      rw [List.length_map]
      obtain ⟨j, hj, hjl⟩ : ∃ j : Nat, (turn + 1) % (cells.length : Int) = (j : Int) ∧ j < cells.length := by
        have p1 := Int.emod_nonneg (turn + 1) (b := (cells.length : Int)) (by omega)
        have p2 := Int.emod_lt_of_pos (turn + 1) (b := (cells.length : Int)) (by omega)
        exact ⟨((turn + 1) % (cells.length : Int)).toNat, by omega, by omega⟩
      dsimp only
      rw [hj]
      have hcj : (cells.map V.int)[j]? = some (.int cells[j]) := by
        rw [List.getElem?_map, List.getElem?_eq_getElem hjl]
        rfl
      generalize hcell : cells[j] = cell at hcj
      -- cell = state['cells'][place]
      refine ⟨.ref a, rfl, a, _, rfl, gC ea1, .int (j : Int), rfl, c, _, (j : Int), _, rfl, rfl, .inl (.inl ec1), atI_nat hcj, ?_⟩
      refine ⟨.int cell, rfl, 10, 18, rfl, rfl, ⟨by decide, by decide, by decide⟩, cell, _, rfl, rfl, _, rfl, ite2 (fun _ => ?_) (fun _ => ?_)⟩
      · -- a digit
        refine ⟨.int cell, rfl, .int m, rfl, cell, m, rfl, ⟨hm0, PyProof.noPylong_of_log2 hm9⟩, fun p hp => ?_⟩
        obtain ⟨hr2, x2⟩ := hr1.newS hp (.tup [.int (cell / m), .int (cell % m)])
        have nap : a ≠ p := ne_of_none ea1 hp
        have ncp : c ≠ p := ne_of_none ec1 hp
        have ea2 : (upd H1 p (.tup [.int (cell / m), .int (cell % m)])) a = some (.dK (stKv c (turn + 1))) := by
          rw [upd_ne nap]
          exact ea1
        have ec2 : (upd H1 p (.tup [.int (cell / m), .int (cell % m)])) c = some (.lst (cells.map V.int)) := by
          rw [upd_ne ncp]
          exact ec1
        have ep2 : (upd H1 p (.tup [.int (cell / m), .int (cell % m)])) p = some (.tup [.int (cell / m), .int (cell % m)]) := upd_same
        refine ⟨p, [.int (cell / m), .int (cell % m)], rfl, .inl (.inl upd_same), rfl, ?_⟩
        generalize upd H1 p (.tup [.int (cell / m), .int (cell % m)]) = H2 at hr2 ea2 ec2 ep2
        refine ⟨_, _, rfl, .ref a, rfl, a, _, rfl, gC ea2, .int (j : Int), rfl, c, _, (j : Int), j, rfl, rfl, ec2, ?_, ?_⟩
        · show L2.ixN _ (j : Int) = some j
          unfold L2.ixN
          rw [if_pos (by omega), if_pos (by rw [List.length_map]; omega)]
          rfl
        refine ⟨_, _, rfl, rfl, .int (cell % m), rfl, ?_⟩
        have es : (cells.map V.int).set j (.int (cell / m)) = (cells.set j (cell / m)).map V.int := by rw [List.map_set]
        have hst2 : (⟨G.al, G.st, G.fr⟩ : Gh).st = some (a, c) := hst
        have hr3 : HR K G (upd S p (.tup [.int (cell / m), .int (cell % m)])) ⟨w.M, some n⟩ (upd H2 c (.lst ((cells.set j (cell / m)).map V.int))) :=
          hr2.drawn hst (fun b _ b2 => upd_ne b2) (by rw [upd_ne z3]; exact ea2) upd_same (by intro z; have := congrArg List.length z; rw [List.length_set] at this; simp at this; exact hne this) (by rw [List.length_set]; exact hl63) (by omega) (by omega)
        rw [es]
        exact h5 _ _ _ _ _ _ x2 hr3 (.int _) (hk _ (Int.emod_nonneg _ (by omega)) (Int.emod_lt_of_pos _ hm0))
      · have a0 := Int.emod_nonneg cell (b := 2147483629) (by decide)
        have a1 := Int.emod_lt_of_pos cell (b := 2147483629) (by decide)
        have t1 : (turn + 1).natAbs < 2 ^ 30 := by omega
        have t2 : ((turn + 1) * (turn + 1)).natAbs < 2 ^ 60 := wide_lt (a := 30) (b := 30) t1 t1
        have t3 : ((turn + 1) * (turn + 1) * 7919).natAbs < 2 ^ 73 := wide_lt (a := 60) (b := 13) t2 (by decide)
        refine ⟨.int cell, rfl, cell, 2147483629, rfl, rfl, (by show (0 : Int) < 2147483629; decide), .int (turn + 1), rfl, .int (turn + 1), rfl, turn + 1, turn + 1, rfl, rfl, mulx_ok t1 t1 (by decide), _, 7919, rfl, rfl, mulx_ok (a := 60) (b := 13) t2 (by decide) (by decide), _, _, rfl, rfl, _, 11, rfl, rfl, _, 48271, rfl, rfl, mulx_ok (a := 75) (b := 16) ?_ (by decide) (by decide), _, 2147483647, rfl, rfl, (by show (0 : Int) < 2147483647; decide), ?_⟩
        · generalize cell % 2147483629 = A at a0 a1 ⊢
          generalize (turn + 1) * (turn + 1) * 7919 = B at t3 ⊢
          omega
        dsimp only
        have b0 := Int.emod_nonneg ((cell % 2147483629 + (turn + 1) * (turn + 1) * 7919 + 11) * 48271) (b := 2147483647) (by decide)
        have b1 := Int.emod_lt_of_pos ((cell % 2147483629 + (turn + 1) * (turn + 1) * 7919 + 11) * 48271) (b := 2147483647) (by decide)
        generalize (cell % 2147483629 + (turn + 1) * (turn + 1) * 7919 + 11) * 48271 % 2147483647 = M1 at b0 b1 ⊢
        refine ⟨.int M1, rfl, .int M1, rfl, M1, M1, rfl, rfl, mulx_ok (a := 32) (b := 32) (by omega) (by omega) (by decide), _, 2147483587, rfl, rfl, (by show (0 : Int) < 2147483587; decide), ?_⟩
        dsimp only
        have c0 := Int.emod_nonneg (M1 * M1) (b := 2147483587) (by decide)
        have c1 := Int.emod_lt_of_pos (M1 * M1) (b := 2147483587) (by decide)
        generalize M1 * M1 % 2147483587 = M2 at c0 c1 ⊢
        refine ⟨.int M2, rfl, .int (turn + 1), rfl, turn + 1, 104729, rfl, rfl, mulx_ok (b := 17) t1 (by decide) (by decide), M2, _, rfl, rfl, _, 39373, rfl, rfl, mulx_ok (a := 64) (b := 16) (by omega) (by decide) (by decide), _, 2147483629, rfl, rfl, (by show (0 : Int) < 2147483629; decide), _, 64, rfl, rfl, ⟨by decide, by decide⟩, .int m, rfl, _, m, rfl, rfl, hm0, ?_⟩
        exact h5 _ _ _ _ _ _ (Ext.refl _ _) hr1 (.int _) (hk _ (Int.emod_nonneg _ (by omega)) (Int.emod_lt_of_pos _ hm0))

abbrev Qp := Int × Int
def fD (x : Qp) : D := .tup [.int x.1, .int x.2]
structure Fr (x : Qp) : Prop where
  pos : 0 < x.2
  cop : Int.gcd x.1 x.2 = 1
def norm (t b : Int) : Qp := (frT t b, frB t b)
def Lt2 (a : Nat) (x : Qp) : Prop := x.1.natAbs < 2 ^ a ∧ x.2.natAbs < 2 ^ a
theorem fr_norm {t b : Int} (h : b ≠ 0) : Fr (norm t b) := ⟨(fr_is h).pos, (fr_is h).cop⟩
theorem norm_eq {t b : Int} (h : b ≠ 0) : (norm t b).1 * b = t * (norm t b).2 := (fr_is h).eq
theorem norm_of {t b : Int} {x : Qp} (h : b ≠ 0) (hx : Fr x) (e : x.1 * b = t * x.2) : norm t b = x := by
  obtain ⟨h1, h2⟩ := fr_eq h ⟨hx.pos, hx.cop, e⟩
  exact Prod.ext h1 h2
theorem norm_self {x : Qp} (hx : Fr x) : norm x.1 x.2 = x := norm_of (by have := hx.pos; omega) hx rfl
theorem Lt2.mono {a c : Nat} {x : Qp} (h : Lt2 a x) (l : a ≤ c) : Lt2 c x := ⟨Nat.lt_of_lt_of_le h.1 (Nat.pow_le_pow_right (by decide) l), Nat.lt_of_lt_of_le h.2 (Nat.pow_le_pow_right (by decide) l)⟩
theorem nat_mono {n a c : Nat} (h : n < 2 ^ a) (l : a ≤ c) : n < 2 ^ c := Nat.lt_of_lt_of_le h (Nat.pow_le_pow_right (by decide) l)
section
variable {x y : Qp} {w : Wd} {k : KD} {t : GGs} {r : Rho} {kr : Rho → Wd → Prop} {n : String}
theorem eqD_ff : eqD (fD x) (fD y) w k = k (.bl (decide (x = y))) w := by
  unfold fD
  rw [eqD_f]
  congr 2
  rw [Bool.eq_iff_iff]
  simp [Prod.ext_iff]
end
def Pb : List Qp → Int
  | [] => 1
  | x :: xs => x.2 * Pb xs
def Nt : List Qp → Int
  | [] => 0
  | x :: xs => x.1 * Pb xs + x.2 * Nt xs
theorem Pb_pos : ∀ {xs : List Qp}, (∀ x ∈ xs, Fr x) → 0 < Pb xs
  | [], _ => by decide
  | x :: xs, h => Int.mul_pos (h x List.mem_cons_self).pos (Pb_pos fun y hy => h y (List.mem_cons_of_mem _ hy))
theorem Pb_app : ∀ (xs ys : List Qp), Pb (xs ++ ys) = Pb xs * Pb ys
  | [], ys => by simp [Pb]
  | x :: xs, ys => by
    show x.2 * Pb (xs ++ ys) = x.2 * Pb xs * Pb ys
    rw [Pb_app xs ys, Int.mul_assoc]
theorem Nt_app : ∀ (xs ys : List Qp), Nt (xs ++ ys) = Nt xs * Pb ys + Pb xs * Nt ys
  | [], ys => by simp [Nt, Pb]
  | x :: xs, ys => by
    show x.1 * Pb (xs ++ ys) + x.2 * Nt (xs ++ ys) = (x.1 * Pb xs + x.2 * Nt xs) * Pb ys + x.2 * Pb xs * Nt ys
    rw [Pb_app, Nt_app, Int.add_mul, Int.mul_add]
    have e1 : x.1 * (Pb xs * Pb ys) = x.1 * Pb xs * Pb ys := by ac_rfl
    have e2 : x.2 * (Nt xs * Pb ys) = x.2 * Nt xs * Pb ys := by ac_rfl
    have e3 : x.2 * (Pb xs * Nt ys) = x.2 * Pb xs * Nt ys := by ac_rfl
    rw [e1, e2, e3, Int.add_assoc]
def sumQ (xs : List Qp) : Qp := norm (Nt xs) (Pb xs)
def subQ (y x : Qp) : Qp := norm (y.1 * x.2 - x.1 * y.2) (x.2 * y.2)
def mulQ (x y : Qp) : Qp := norm (x.1 * y.1) (x.2 * y.2)
def divQ (x y : Qp) : Qp := norm (x.1 * y.2) (x.2 * y.1)
def FrB (a : Nat) (xs : List Qp) : Prop := ∀ x ∈ xs, Fr x ∧ Lt2 a x

def Big (x : Int) : Prop := x.natAbs < 2 ^ 4000
def sp_divisor_of : GF := fun ds w _ k => ∃ a b : Int, ds = [.int a, .int b] ∧ k (.int (Int.gcd a b)) w
abbrev s_divisor_of : Stmt := topS 1
theorem sc_divisor_of : FnScope ["one", "other"] ["one", "other"] (defScope s_divisor_of) := ⟨rfl, rfl, rfl, by decide +kernel, rfl, by decide +kernel, by decide +kernel⟩
def g_divisor_of : GS := (gSeq (gPar 0 1 (gaCons (gCB fAbs (gaCons (gVar 0) gaNil)) (gaCons (gCB fAbs (gaCons (gVar 1) gaNil)) gaNil)))
  (gSeq (gWhile (gB (gBin gtD (gVar 1) (gC (.int 0)))) (gPar 0 1 (gaCons (gVar 1) (gaCons (gBin modD (gVar 0) (gVar 1)) gaNil))))
  (gRet (gVar 0))))
theorem w_divisor_of {P : Program} {w : World} {K : PySem.W.Frag} {mg : Str → Option Value} {base : Heap} (T : DefAt K mg "divisor_of" s_divisor_of ["one", "other"]) (B : Blt mg) : FnAt P w K mg base CX0 1 "divisor_of" 2 (sem0 2 g_divisor_of) := by
  have nd := sc_divisor_of.nd
  exact T.fn0 sc_divisor_of (fun f cdv A outer s H E hr => (dss_cons (ds_par (i := 0) (j := 1) rfl nd rfl rfl (by decide) rfl rfl (da_cons (de_abs B (by rfl) (da_cons (de_var 0) da_nil)) (da_cons (de_abs B (by rfl) (da_cons (de_var 1) da_nil)) da_nil)) (by rfl))
  (dss_cons (ds_while PassesOwn.never (dt_gt (de_var 1) de_int) (dss_one (ds_par (i := 0) (j := 1) rfl nd rfl rfl (by decide) rfl rfl (da_cons (de_var 1) (da_cons (de_mod (de_var 0) (de_var 1)) da_nil)) (by rfl))))
  (dss_one (ds_ret (de_var 0))))))

theorem v_divisor_of : ∀ ds w kx k, sp_divisor_of ds w kx k → sem0 2 g_divisor_of ds w kx k := by
  rintro ds w kx k ⟨a, b, rfl, hk⟩
  have e : rho 2 [D.int a, D.int b] = [some (.int a), some (.int b)] := rfl
  simp! only [g_divisor_of, e]
  refine ⟨fun m ρ w' => ∃ x y : Nat, ρ = [some (.int x), some (.int y)] ∧ Nat.gcd x y = Int.gcd a b ∧ m = y ∧ w' = w, ⟨_, a.natAbs, b.natAbs, rfl, rfl, rfl, rfl⟩, ?_⟩
  rintro m ρ w' ⟨x, y, rfl, hg, rfl, rfl⟩
  simp! only [id_eq]
  refine ite2 (fun h => ?_) (fun h => ?_)
  · have h0 : 0 < m := by simpa using h
    refine ⟨by omega, x % m, Nat.mod_lt _ h0, m, x % m, by rw [fmod_nat], ?_, rfl⟩
    rw [← hg, Nat.gcd_comm x m, Nat.gcd_rec m x, Nat.gcd_comm]
  · have h0 : m = 0 := by
      have : ¬ 0 < m := by simpa using h
      omega
    subst h0
    rw [Nat.gcd_zero_right] at hg
    rw [hg]
    exact hk
theorem ok_divisor_of {P : Program} {w : World} {K : PySem.W.Frag} {mg : Str → Option Value} {base : Heap} (T : DefAt K mg "divisor_of" s_divisor_of ["one", "other"]) (B : Blt mg) : FnAt P w K mg base CX0 1 "divisor_of" 2 sp_divisor_of := (w_divisor_of T B ).imp v_divisor_of

def sp_fraction_of : GF := fun ds w _ k => ∃ t b : Int, ds = [.int t, .int b] ∧ (b ≠ 0 ∧ Big b) ∧ k (fD (norm t b)) w
abbrev s_fraction_of : Stmt := topS 2
theorem sc_fraction_of : FnScope ["top", "below", "divisor"] ["top", "below"] (defScope s_fraction_of) := ⟨rfl, rfl, rfl, by decide +kernel, rfl, by decide +kernel, by decide +kernel⟩
def g_fraction_of : GS := (gSeq (gSet 2 (gCall0 2 sp_divisor_of (gaCons (gVar 0) (gaCons (gVar 1) gaNil))))
  (gCut (gIfS (gB (gBin ltD (gVar 1) (gC (.int 0)))) (gSet 2 (gUn negD (gVar 2))) gNext)
  (gRet (gTup (gaCons (gBin fdivD (gVar 0) (gVar 2)) (gaCons (gBin fdivD (gVar 1) (gVar 2)) gaNil))))))
theorem w_fraction_of {P : Program} {w : World} {K : PySem.W.Frag} {mg : Str → Option Value} {base : Heap} (T : DefAt K mg "fraction_of" s_fraction_of ["top", "below"]) (B : Blt mg) (F_divisor_of : FnAt P w K mg base CX0 1 "divisor_of" 2 sp_divisor_of) : FnAt P w K mg base CX0 2 "fraction_of" 2 (sem0 3 g_fraction_of) := by
  have nd := sc_fraction_of.nd
  exact T.fn0 sc_fraction_of (fun f cdv A outer s H E hr => (dss_cons (ds_set (i := 2) nd rfl (by first | exact Or.inl rfl | exact Or.inr rfl) (de_call0 F_divisor_of hr (by rfl) (da_cons (de_var 0) (da_cons (de_var 1) da_nil))))
  (dss_cut (ds_if (dt_lt (de_var 1) de_int) (dss_one (ds_set (i := 2) nd rfl (by first | exact Or.inl rfl | exact Or.inr rfl) (de_neg (de_var 2)))) dss_nil)
  (dss_one (ds_ret (de_tup (da_cons (de_fdiv (de_var 0) (de_var 2)) (da_cons (de_fdiv (de_var 1) (de_var 2)) da_nil))))))))

theorem v_fraction_of : ∀ ds w kx k, sp_fraction_of ds w kx k → sem0 3 g_fraction_of ds w kx k := by
  rintro ds w kx k ⟨t, b, rfl, ⟨hb, hB⟩, hk⟩
  have e : rho 3 [D.int t, D.int b] = [some (.int t), some (.int b), none] := rfl
  have g0 := gcd_pos (t := t) hb
  have gl : (Int.gcd t b).log2 < 9000 := log_ok (Nat.lt_of_le_of_lt (gcd_le hb) hB)
  obtain ⟨d1, d2⟩ := sg_dvd t b
  obtain ⟨ns, nl⟩ : sg t b ≠ 0 ∧ (sg t b).natAbs.log2 < 9000 := ⟨sg_ne hb, by rw [sg_abs]; exact gl⟩
  simp! only [g_fraction_of, e, sp_divisor_of]
  refine ⟨t, b, rfl, fun ρ w' => ρ = [some (.int t), some (.int b), some (.int (sg t b))] ∧ w' = w, ?_, ?_⟩
  · refine ite2 (fun h => ⟨?_, rfl⟩) (fun h => ⟨?_, rfl⟩)
    · unfold sg
      rw [if_pos (by simpa using h)]
    · unfold sg
      rw [if_neg (by simpa using h)]
  · rintro ρ w' ⟨rfl, rfl⟩
    simp! only [id_eq]
    exact ⟨⟨ns, nl⟩, ⟨ns, nl⟩, by decide, by rw [fdiv_dvd d1, fdiv_dvd d2]; exact hk⟩
theorem ok_fraction_of {P : Program} {w : World} {K : PySem.W.Frag} {mg : Str → Option Value} {base : Heap} (T : DefAt K mg "fraction_of" s_fraction_of ["top", "below"]) (B : Blt mg) (F_divisor_of : FnAt P w K mg base CX0 1 "divisor_of" 2 sp_divisor_of) : FnAt P w K mg base CX0 2 "fraction_of" 2 sp_fraction_of := (w_fraction_of T B F_divisor_of).imp v_fraction_of


def sp__law_lowest : GF := fun ds w _ k => ∃ t b : Int, ds = [.int t, .int b] ∧ (b ≠ 0 ∧ Big b ∧ Big t) ∧ k (fD (norm t b)) w
abbrev s__law_lowest : Stmt := topS 21
theorem sc__law_lowest : FnScope ["_law_top", "_law_below", "_law_one", "_law_other", "_law_sign"] ["_law_top", "_law_below"] (defScope s__law_lowest) := ⟨rfl, rfl, rfl, by decide +kernel, rfl, by decide +kernel, by decide +kernel⟩
def g__law_lowest : GS := (gSeq (gPar 2 3 (gaCons (gCB fAbs (gaCons (gVar 0) gaNil)) (gaCons (gCB fAbs (gaCons (gVar 1) gaNil)) gaNil)))
  (gSeq (gWhile (gB (gBin gtD (gVar 3) (gC (.int 0)))) (gPar 2 3 (gaCons (gVar 3) (gaCons (gBin modD (gVar 2) (gVar 3)) gaNil))))
  (gCut (gSet 4 (gIf (gB (gBin ltD (gVar 1) (gC (.int 0)))) (gUn negD (gC (.int 1))) (gC (.int 1))))
  (gRet (gTup (gaCons (gBin fdivD (gBin mulD (gVar 4) (gVar 0)) (gVar 2)) (gaCons (gBin fdivD (gBin mulD (gVar 4) (gVar 1)) (gVar 2)) gaNil)))))))
theorem w__law_lowest {P : Program} {w : World} {K : PySem.W.Frag} {mg : Str → Option Value} {base : Heap} (T : DefAt K mg "_law_lowest" s__law_lowest ["_law_top", "_law_below"]) (B : Blt mg) : FnAt P w K mg base CX0 1 "_law_lowest" 2 (sem0 5 g__law_lowest) := by
  have nd := sc__law_lowest.nd
  exact T.fn0 sc__law_lowest (fun f cdv A outer s H E hr => (dss_cons (ds_par (i := 2) (j := 3) rfl nd rfl rfl (by decide) rfl rfl (da_cons (de_abs B (by rfl) (da_cons (de_var 0) da_nil)) (da_cons (de_abs B (by rfl) (da_cons (de_var 1) da_nil)) da_nil)) (by rfl))
  (dss_cons (ds_while PassesOwn.never (dt_gt (de_var 3) de_int) (dss_one (ds_par (i := 2) (j := 3) rfl nd rfl rfl (by decide) rfl rfl (da_cons (de_var 3) (da_cons (de_mod (de_var 2) (de_var 3)) da_nil)) (by rfl))))
  (dss_cut (ds_set (i := 4) nd rfl (by first | exact Or.inl rfl | exact Or.inr rfl) (de_ifExp (dt_lt (de_var 1) de_int) (de_neg de_int) de_int))
  (dss_one (ds_ret (de_tup (da_cons (de_fdiv (de_mul (de_var 4) (de_var 0)) (de_var 2)) (da_cons (de_fdiv (de_mul (de_var 4) (de_var 1)) (de_var 2)) da_nil)))))))))

theorem v__law_lowest : ∀ ds w kx k, sp__law_lowest ds w kx k → sem0 5 g__law_lowest ds w kx k := by
  rintro ds w kx k ⟨t, b, rfl, ⟨hb, hB, hT⟩, hk⟩
  have e : rho 5 [D.int t, D.int b] = [some (.int t), some (.int b), none, none, none] := rfl
  have g0 := gcd_pos (t := t) hb
  have gl : (Int.gcd t b).log2 < 9000 := log_ok (Nat.lt_of_le_of_lt (gcd_le hb) hB)
  simp! only [g__law_lowest, e]
  refine ⟨fun m ρ w' => ∃ x y : Nat, ρ = [some (.int t), some (.int b), some (.int x), some (.int y), none] ∧ Nat.gcd x y = Int.gcd t b ∧ m = y ∧ w' = w, ⟨_, t.natAbs, b.natAbs, rfl, rfl, rfl, rfl⟩, ?_⟩
  rintro m ρ w' ⟨x, y, rfl, hg, rfl, rfl⟩
  simp! only [id_eq]
  refine ite2 (fun h => ?_) (fun h => ?_)
  · have h0 : 0 < m := by simpa using h
    refine ⟨by omega, x % m, Nat.mod_lt _ h0, m, x % m, by rw [fmod_nat], ?_, rfl⟩
    rw [← hg, Nat.gcd_comm x m, Nat.gcd_rec m x, Nat.gcd_comm]
  · have h0 : m = 0 := by
      have : ¬ 0 < m := by simpa using h
      omega
    subst h0
    rw [Nat.gcd_zero_right] at hg
    rw [hg]
    obtain ⟨d1, d2⟩ := sg_dvd t b
    have gd1 : (Int.gcd t b : Int) ∣ t := Int.gcd_dvd_left t b
    have gd2 : (Int.gcd t b : Int) ∣ b := Int.gcd_dvd_right t b
    have gn : (Int.gcd t b : Int) ≠ 0 := by omega
    have gl2 : (Int.gcd t b : Int).natAbs.log2 < 9000 := by simpa using gl
    have key : ∀ s : Int, (s = -1 ∧ b < 0) ∨ (s = 1 ∧ ¬ b < 0) → (s * t).fdiv (Int.gcd t b : Int) = frT t b ∧ (s * b).fdiv (Int.gcd t b : Int) = frB t b ∧ s.natAbs < 2 ^ 1 := by
      rintro s (⟨rfl, h0⟩ | ⟨rfl, h0⟩)
      · refine ⟨?_, ?_, by decide⟩
        · rw [fdiv_dvd (by rw [Int.neg_one_mul]; exact Int.dvd_neg.mpr gd1)]
          unfold frT sg
          rw [if_pos h0, Int.neg_one_mul, Int.ediv_neg, Int.neg_ediv_of_dvd gd1]
        · rw [fdiv_dvd (by rw [Int.neg_one_mul]; exact Int.dvd_neg.mpr gd2)]
          unfold frB sg
          rw [if_pos h0, Int.neg_one_mul, Int.ediv_neg, Int.neg_ediv_of_dvd gd2]
      · refine ⟨?_, ?_, by decide⟩
        · rw [Int.one_mul, fdiv_dvd gd1]
          unfold frT sg
          rw [if_neg h0]
        · rw [Int.one_mul, fdiv_dvd gd2]
          unfold frB sg
          rw [if_neg h0]
    refine ⟨fun ρ w'' => w'' = w' ∧ ∃ s : Int, ((s = -1 ∧ b < 0) ∨ (s = 1 ∧ ¬ b < 0)) ∧ ρ = [some (.int t), some (.int b), some (.int (Int.gcd t b : Int)), some (.int ((0 : Nat) : Int)), some (.int s)], ite2 (fun h => ⟨rfl, -1, .inl ⟨rfl, by simpa using h⟩, rfl⟩) (fun h => ⟨rfl, 1, .inr ⟨rfl, by simpa using h⟩, rfl⟩), ?_⟩
    rintro ρ w'' ⟨rfl, s, hs, rfl⟩
    obtain ⟨s1, s2, s3⟩ := key s hs
    simp! only [id_eq]
    rw [s1, s2]
    exact ⟨mulx_ok (a := 1) (b := 4000) s3 hT (by decide), ⟨gn, gl2⟩, mulx_ok (a := 1) (b := 4000) s3 hB (by decide), ⟨gn, gl2⟩, by decide, hk⟩
theorem ok__law_lowest {P : Program} {w : World} {K : PySem.W.Frag} {mg : Str → Option Value} {base : Heap} (T : DefAt K mg "_law_lowest" s__law_lowest ["_law_top", "_law_below"]) (B : Blt mg) : FnAt P w K mg base CX0 1 "_law_lowest" 2 sp__law_lowest := (w__law_lowest T B ).imp v__law_lowest


theorem erase_map {α β : Type} (f : α → β) : ∀ (xs : List α) (i : Nat), (xs.map f).eraseIdx i = (xs.eraseIdx i).map f
  | [], i => by simp
  | x :: xs, 0 => rfl
  | x :: xs, i + 1 => by
    simp [erase_map f xs i]
theorem lt_sl {n : Nat} (h : n ≤ 100000) : n < sizeLine := Nat.lt_of_le_of_lt h (by decide)
theorem le_sl {n : Nat} (h : n ≤ 100000) : n ≤ sizeLine := Nat.le_of_lt (lt_sl h)

end LW

namespace LW
open PySem PySem.Spec PyProof.Rows L2 RZ DL
local macro_rules | `(tactic| simp! only [$xs,*] $[$loc]?) => `(tactic| simp only [$xs,*, sem0,List.map_cons,List.map_nil,List.length_cons,List.length_nil,gSeq,gNext,gRet,gRetN,gIfS,gSet,gPar,gAsg,gDrop,gVar,gC,gBin,gUn,gB,gTru,gAnd,gOr,gNot,gAndV,gOrV,gNotV,gIf,gChain,gaNil,gaCons,DL.gTup,DL.gLst,gCB,gCall0,gAug,addD_i,addD_s,addD_l,addD_t,subD_i,mulD_i,mulD_l,fdivD_i,modD_i,powD_i,ltD_i,ltD_s,leD_i,gtD_i,geD_i,isD_n,isnotD_n,isNonD_non,isNonD_bl,isNonD_int,isNonD_str,isNonD_lst,isNonD_tup,negD_i,iaddD_i,truD_non,truD_bl,truD_int,truD_str,truD_lst,truD_tup,someK_some,ixD_l,ixD_t,fAbs_i,fInt_i,fInt_b,fMin2_i,fLen_l,fLen_t,fLen_s,fList_l,fList_t,fTuple_l,fTuple_t,optBK_some,fIsi_non,fIsi_bl,fIsi_int,fIsi_str,fIsi_lst,fIsi_tup,List.getElem?_cons_zero,List.getElem?_cons_succ,List.set_cons_zero,List.set_cons_succ,DL.ggName,ggNil0,ggCons1,ggTup2,ggTup3,gFor,giSeq,gLc,gYes,wipeR,true_and,and_true,at_0,at_1,at_2,kit_int_int,kit_bool_int,kit_str_int,kit_non_int,kit_list_int,kit_tuple_int,kit_int_bool,kit_bool_bool,kit_str_bool,kit_non_bool,kit_list_bool,kit_tuple_bool,kit_int_str,kit_bool_str,kit_str_str,kit_non_str,kit_list_str,kit_tuple_str,kit_int_list,kit_bool_list,kit_str_list,kit_non_list,kit_list_list,kit_tuple_list,kit_int_tuple,kit_bool_tuple,kit_str_tuple,kit_non_tuple,kit_list_tuple,kit_tuple_tuple,eqD_i,neD_i,eqD_s,neD_s,eqD_f,neD_f,Nat.zero_add,Nat.reduceAdd,nc0,nc1,nc2,nc3,nc4,nc5,nc6,nc7,nc8,nc9,eq_self,decide_true,decide_false,Int.reduceEq,Int.reduceLT,Int.reduceLE,Int.reduceNeg,Bool.not_true,Bool.not_false,Bool.false_eq_true,if_true,if_false,↓reduceIte,false_and,and_false,List.all_cons,List.all_nil,List.any_cons,List.any_nil,id_eq,Bool.and_true,Bool.true_and,Bool.or_false,Bool.false_or,Bool.and_false,Bool.false_and,gCut,eqD_b,neD_b,giZip,reduceCtorEq,Bool.true_eq_false,Bool.false_eq_true,gRevL,gSl,goNone,goSome,slD_l,ne_eq,not_false_eq_true,not_true_eq_false,gBM,isTy_l,isTy_s,new_at,new_set,isTy_new,cellK_new,append_new,popAt_new,gFrz_eq,frzK_new,fLen_new,fTuple_new,ixD_new,slA_l,slA_t,slA_new,addTD_t,addCD_l,mulCD_l,isbD_b,isnotbD_b,mSplitC_s,gLstC,gTr,ggSub,lstK_l,lstK_r,addLD_eq] $[$loc]?)


mutual
def anyD (M : List Cell) : D → Bool
  | .non => true
  | .bl _ => true
  | .int i => decide (i.natAbs < 2 ^ 600)
  | .str s => PyData.strOk s && decide (s.length ≤ 100)
  | .lst xs => anyDs M xs && decide (xs.length ≤ 1000)
  | .tup xs => anyDs M xs && decide (xs.length ≤ 1000)
  | .rf i => (match M[i]? with | some (.dk _) => true | _ => false)
  | .st => false
  | .ob _ => false
  | .scr _ => false
def anyDs (M : List Cell) : List D → Bool
  | [] => true
  | x :: xs => anyD M x && anyDs M xs
end
theorem anyDs_iff {M : List Cell} : ∀ {xs : List D}, anyDs M xs = true ↔ ∀ x ∈ xs, anyD M x = true
  | [] => by simp [anyDs]
  | x :: xs => by rw [anyDs, Bool.and_eq_true, anyDs_iff, List.forall_mem_cons]
theorem any_tup {M : List Cell} {xs : List D} (h : anyD M (.tup xs) = true) : (∀ x ∈ xs, anyD M x = true) ∧ xs.length ≤ 1000 := by
  rw [anyD, Bool.and_eq_true, anyDs_iff, decide_eq_true_eq] at h
  exact h
theorem any_str {M : List Cell} {s : Str} (h : anyD M (.str s) = true) : PyData.strOk s = true ∧ s.length ≤ 100 := by
  rw [anyD, Bool.and_eq_true, decide_eq_true_eq] at h
  exact h
def isI : D → Bool
  | .int _ => true
  | .bl _ => true
  | _ => false
def isBl : D → Bool
  | .bl _ => true
  | _ => false
def isS : D → Bool
  | .str _ => true
  | _ => false
def isT : D → Bool
  | .tup _ => true
  | _ => false
def isL : D → Bool
  | .lst _ => true
  | .tup _ => true
  | _ => false
def isLs : D → Bool
  | .lst _ => true
  | _ => false
theorem any_rf {w : Wd} {i : Nat} (h : anyD w.M (.rf i) = true) : ∃ kvs, w.M[i]? = some (.dk kvs) := by
  unfold anyD at h
  split at h
  · rename_i kvs e
    exact ⟨kvs, e⟩
  · cases h
theorem tyD_rf {w : Wd} {i : Nat} (h : anyD w.M (.rf i) = true) : tyD (.rf i) w = some "dict" := by
  obtain ⟨kvs, e⟩ := any_rf h
  unfold tyD
  simp only [e]
section
variable {w : Wd} {k : KD} {x : D}
theorem isi_int (h : anyD w.M x = true) : fIsi [x, .ob (.ty "int")] w k = k (.bl (isI x)) w := by
  cases x with
  | rf i =>
    show (match tyD (.rf i) w with | some t => (match kitB t "int" with | some b => k (.bl b) w | none => False) | none => False) = _
    rw [tyD_rf h]
    simp only [kit_dict_int]
    rfl
  | st => cases h
  | ob v => cases h
  | scr ns => cases h
  | _ => simp! only [id_eq]; rfl
theorem isi_bool (h : anyD w.M x = true) : fIsi [x, .ob (.ty "bool")] w k = k (.bl (isBl x)) w := by
  cases x with
  | rf i =>
    show (match tyD (.rf i) w with | some t => (match kitB t "bool" with | some b => k (.bl b) w | none => False) | none => False) = _
    rw [tyD_rf h]
    simp only [kit_dict_bool]
    rfl
  | st => cases h
  | ob v => cases h
  | scr ns => cases h
  | _ => simp! only [id_eq]; rfl
theorem isi_str (h : anyD w.M x = true) : fIsi [x, .ob (.ty "str")] w k = k (.bl (isS x)) w := by
  cases x with
  | rf i =>
    show (match tyD (.rf i) w with | some t => (match kitB t "str" with | some b => k (.bl b) w | none => False) | none => False) = _
    rw [tyD_rf h]
    simp only [show kitB "dict" "str" = some false by decide +kernel]
    rfl
  | st => cases h
  | ob v => cases h
  | scr ns => cases h
  | _ => simp! only [id_eq]; rfl
theorem isi_tup (h : anyD w.M x = true) : fIsi [x, .ob (.ty "tuple")] w k = k (.bl (isT x)) w := by
  cases x with
  | rf i =>
    show (match tyD (.rf i) w with | some t => (match kitB t "tuple" with | some b => k (.bl b) w | none => False) | none => False) = _
    rw [tyD_rf h]
    simp only [show kitB "dict" "tuple" = some false by decide +kernel]
    rfl
  | st => cases h
  | ob v => cases h
  | scr ns => cases h
  | _ => simp! only [id_eq]; rfl
end
theorem all_map {α : Type} {xs : List α} {p : α → Bool} {w : Wd} {k : KD} (hk : k (.bl (xs.all p)) w) : fAll [.lst (xs.map fun x => D.bl (p x))] w k := by
  have e : ∀ xs : List α, DL.allBl (xs.map fun x => D.bl (p x)) = some (xs.map p) := fun xs => by
    induction xs with
    | nil => rfl
    | cons x l ih =>
      rw [List.map_cons, DL.allBl, ih]
      rfl
  unfold fAll
  simp only [e]
  rw [List.all_map]
  exact hk

theorem norm_iff {a b : Int} (hb : 0 < b) : (norm a b = (a, b)) ↔ Int.gcd a b = 1 := by
  have hn : b ≠ 0 := by omega
  constructor
  · intro h
    have := (fr_norm (t := a) hn).cop
    rw [h] at this
    exact this
  · intro h
    exact norm_self (x := (a, b)) ⟨hb, h⟩
theorem eq_fD {a b : Int} {w : Wd} {k : KD} (hb : 0 < b) : eqD (fD (norm a b)) (.tup [.int a, .int b]) w k = k (.bl (decide (Int.gcd a b = 1))) w := by
  show eqD (fD (norm a b)) (fD (a, b)) w k = _
  rw [eqD_ff]
  congr 2
  exact decide_eq_decide.mpr (norm_iff hb)
theorem big60 {b : Int} (h0 : 1 ≤ b) (h : b ≤ 60) : Big b := nat_mono (Nat.lt_of_le_of_lt (show b.natAbs ≤ 60 by omega) (show 60 < 2 ^ 10 by decide)) (by decide)
def numB (lo hi : Int) : D → Bool
  | .int i => decide (lo ≤ i) && decide (i ≤ hi)
  | _ => false
def small : Str := "abcdefghijklmnopqrstuvwxyz"
def nameB : D → Bool
  | .str s => decide (1 ≤ s.length) && decide (s.length ≤ 8) && s.cps.toList.all fun c => decide (c ∈ small.cps.toList)
  | _ => false
def partB : D → Bool
  | .tup [.int a, .int b] => decide (1 ≤ b) && decide (b ≤ 60) && (decide (1 ≤ a) && decide (a ≤ b)) && decide (Int.gcd a b = 1)
  | _ => false
def rateB (ahead : Int) (last : Bool) : D → Bool
  | .tup [u, p] => partB p && (if last then isNonD u else numB (ahead + 1) 1000000 u)
  | _ => false
def upto : D → Int
  | .tup [.int u, _] => u
  | _ => 0
def goB : Int → List D → Bool
  | _, [] => true
  | a, [x] => rateB a true x
  | a, x :: y :: r => rateB a false x && goB (upto x) (y :: r)
def ratesB : D → Bool
  | .tup xs => decide (2 ≤ xs.length) && decide (xs.length ≤ 4) && goB 0 xs
  | _ => false
def strB (s : Str) : D → Bool
  | .str t => decide (t = s)
  | _ => false
def rowB : D → Bool
  | .tup [.str k, n, t] => nameB n && (if k = "of" ∨ k = "left" then partB t else if k = "steps" then ratesB t else decide (k = "length") && numB 1 1000 t)
  | _ => false
def kindIs (s : Str) : D → Bool
  | .tup (.str k :: _) => decide (k = s)
  | _ => false
def rowsB : D → Bool
  | .tup xs => decide (xs.length ≤ 8) && xs.all rowB && decide ((xs.filter (kindIs "left")).length ≤ 3)
  | _ => false
theorem numB_i {lo hi i : Int} : numB lo hi (.int i) = (decide (lo ≤ i) && decide (i ≤ hi)) := rfl
def sp_is_number : GF := fun ds w _ k => ∃ (x : D) (lo hi : Int), ds = [x, .int lo, .int hi] ∧ anyD w.M x = true ∧ k (.bl (numB lo hi x)) w
abbrev s_is_number : Stmt := topS 10
theorem sc_is_number : FnScope ["thing", "least", "most"] ["thing", "least", "most"] (defScope s_is_number) := ⟨rfl, rfl, rfl, by decide +kernel, rfl, by decide +kernel, by decide +kernel⟩
def g_is_number : GS := (gRet (gAndV (gCB fIsi (gaCons (gVar 0) (gaCons (gC (.ob (.ty "int"))) gaNil))) (gAndV (gNotV (gCB fIsi (gaCons (gVar 0) (gaCons (gC (.ob (.ty "bool"))) gaNil)))) (gChain leD leD (gVar 1) (gVar 0) (gVar 2)))))
theorem w_is_number {P : Program} {w : World} {K : PySem.W.Frag} {mg : Str → Option Value} {base : Heap} (T : DefAt K mg "is_number" s_is_number ["thing", "least", "most"]) (B : Blt mg) : FnAt P w K mg base CX0 1 "is_number" 3 (sem0 3 g_is_number) := by
  have nd := sc_is_number.nd
  exact T.fn0 sc_is_number (fun f cdv A outer s H E hr => (dss_one (ds_ret (de_and (de_isi B (by rfl) (da_cons (de_var 0) (da_cons (de_type (by rfl) B.int_ (by decide +kernel)) da_nil))) (de_and (de_not (de_isi B (by rfl) (da_cons (de_var 0) (da_cons (de_type (by rfl) B.bool_ (by decide +kernel)) da_nil)))) (de_one (de_chain op_le ok_leD op_le ok_leD (de_var 1) (de_var 0) (de_var 2))))))))

theorem v_is_number : ∀ ds w kx k, sp_is_number ds w kx k → sem0 3 g_is_number ds w kx k := by
  rintro ds w kx k ⟨x, lo, hi, rfl, h, hk⟩
  have e : rho 3 [x, .int lo, .int hi] = [some x, some (.int lo), some (.int hi)] := rfl
  simp! only [g_is_number, e, isi_int h, isi_bool h]
  cases x with
  | int i =>
    simp! only [isI, isBl]
    by_cases h1 : lo ≤ i
    · have e1 : numB lo hi (.int i) = decide (i ≤ hi) := by rw [numB_i, decide_eq_true h1, Bool.true_and]
      rw [e1] at hk
      rw [decide_eq_true h1]
      simp! only [id_eq]
      exact hk
    · have e1 : numB lo hi (.int i) = false := by rw [numB_i, decide_eq_false h1, Bool.false_and]
      rw [e1] at hk
      rw [decide_eq_false h1]
      simp! only [id_eq]
      exact hk
  | _ => simp! only [isI, isBl]; exact hk
theorem ok_is_number {P : Program} {w : World} {K : PySem.W.Frag} {mg : Str → Option Value} {base : Heap} (T : DefAt K mg "is_number" s_is_number ["thing", "least", "most"]) (B : Blt mg) : FnAt P w K mg base CX0 1 "is_number" 3 sp_is_number := (w_is_number T B ).imp v_is_number

def sp__law_whole : GF := fun ds w _ k => ∃ (x : D) (lo hi : Int), ds = [x, .int lo, .int hi] ∧ anyD w.M x = true ∧ k (.bl (numB lo hi x)) w
abbrev s__law_whole : Stmt := topS 28
theorem sc__law_whole : FnScope ["_law_thing", "_law_least", "_law_most"] ["_law_thing", "_law_least", "_law_most"] (defScope s__law_whole) := ⟨rfl, rfl, rfl, by decide +kernel, rfl, by decide +kernel, by decide +kernel⟩
def g__law_whole : GS := (gRet (gAndV (gCB fIsi (gaCons (gVar 0) (gaCons (gC (.ob (.ty "int"))) gaNil))) (gAndV (gNotV (gCB fIsi (gaCons (gVar 0) (gaCons (gC (.ob (.ty "bool"))) gaNil)))) (gChain leD leD (gVar 1) (gVar 0) (gVar 2)))))
theorem w__law_whole {P : Program} {w : World} {K : PySem.W.Frag} {mg : Str → Option Value} {base : Heap} (T : DefAt K mg "_law_whole" s__law_whole ["_law_thing", "_law_least", "_law_most"]) (B : Blt mg) : FnAt P w K mg base CX0 1 "_law_whole" 3 (sem0 3 g__law_whole) := by
  have nd := sc__law_whole.nd
  exact T.fn0 sc__law_whole (fun f cdv A outer s H E hr => (dss_one (ds_ret (de_and (de_isi B (by rfl) (da_cons (de_var 0) (da_cons (de_type (by rfl) B.int_ (by decide +kernel)) da_nil))) (de_and (de_not (de_isi B (by rfl) (da_cons (de_var 0) (da_cons (de_type (by rfl) B.bool_ (by decide +kernel)) da_nil)))) (de_one (de_chain op_le ok_leD op_le ok_leD (de_var 1) (de_var 0) (de_var 2))))))))

theorem v__law_whole : ∀ ds w kx k, sp__law_whole ds w kx k → sem0 3 g__law_whole ds w kx k := by
  rintro ds w kx k ⟨x, lo, hi, rfl, h, hk⟩
  have e : rho 3 [x, .int lo, .int hi] = [some x, some (.int lo), some (.int hi)] := rfl
  simp! only [g__law_whole, e, isi_int h, isi_bool h]
  cases x with
  | int i =>
    simp! only [isI, isBl]
    by_cases h1 : lo ≤ i
    · have e1 : numB lo hi (.int i) = decide (i ≤ hi) := by rw [numB_i, decide_eq_true h1, Bool.true_and]
      rw [e1] at hk
      rw [decide_eq_true h1]
      simp! only [id_eq]
      exact hk
    · have e1 : numB lo hi (.int i) = false := by rw [numB_i, decide_eq_false h1, Bool.false_and]
      rw [e1] at hk
      rw [decide_eq_false h1]
      simp! only [id_eq]
      exact hk
  | _ => simp! only [isI, isBl]; exact hk
theorem ok__law_whole {P : Program} {w : World} {K : PySem.W.Frag} {mg : Str → Option Value} {base : Heap} (T : DefAt K mg "_law_whole" s__law_whole ["_law_thing", "_law_least", "_law_most"]) (B : Blt mg) : FnAt P w K mg base CX0 1 "_law_whole" 3 sp__law_whole := (w__law_whole T B ).imp v__law_whole

def sp_is_name : GF := fun ds w _ k => ∃ x : D, ds = [x] ∧ anyD w.M x = true ∧ k (.bl (nameB x)) w
abbrev s_is_name : Stmt := topS 11
theorem sc_is_name : FnScope ["thing", "sign"] ["thing"] (defScope s_is_name) := ⟨rfl, rfl, rfl, by decide +kernel, rfl, by decide +kernel, by decide +kernel⟩
def g_is_name : GS := (gRet (gAndV (gCB fIsi (gaCons (gVar 0) (gaCons (gC (.ob (.ty "str"))) gaNil))) (gAndV (gChain leD leD (gC (.int 1)) (gCB fLen (gaCons (gVar 0) gaNil)) (gC (.int 8))) (gCB fAll (gaCons (gLc (giStr (gVar 0)) (ggName 1) gYes (gBin inSD (gVar 1) (gC (.str "abcdefghijklmnopqrstuvwxyz"))) [1]) gaNil)))))
theorem w_is_name {P : Program} {w : World} {K : PySem.W.Frag} {mg : Str → Option Value} {base : Heap} (T : DefAt K mg "is_name" s_is_name ["thing"]) (B : Blt mg) {t_LETTERS : Tok} (c_LETTERS : mg "LETTERS" = some (.str "abcdefghijklmnopqrstuvwxyz" t_LETTERS)) : FnAt P w K mg base CX0 1 "is_name" 1 (sem0 2 g_is_name) := by
  have nd := sc_is_name.nd
  exact T.fn0 sc_is_name (fun f cdv A outer s H E hr => (dss_one (ds_ret (de_and (de_isi B (by rfl) (da_cons (de_var 0) (da_cons (de_type (by rfl) B.str_ (by decide +kernel)) da_nil))) (de_and (de_chain op_le ok_leD op_le ok_leD de_int (de_len B (by rfl) (da_cons (de_var 0) da_nil)) de_int) (de_one (de_all B rfl (by rfl) (da_cons (de_lc (own := [("sign", 1)]) (us := [1]) rfl nd (di_str (de_var 0)) (blkOk_by (N := ["thing", "sign"]) (sc := defScope s_is_name) (by decide +kernel)) (by decide) (fun _ _ _ _ _ => (dg_name (i := 1) nd rfl (by first | exact Or.inl rfl | exact Or.inr rfl))) (fun _ _ _ _ _ => dts_nil) (fun _ _ _ _ _ => (de_inS (de_var 1) (de_gstr (by rfl) c_LETTERS)))) da_nil))))))))

theorem v_is_name : ∀ ds w kx k, sp_is_name ds w kx k → sem0 2 g_is_name ds w kx k := by
  rintro ds w kx k ⟨x, rfl, h, hk⟩
  have e : rho 2 [x] = [some x, none] := rfl
  simp! only [g_is_name, e, giStr, inSD, isi_str h]
  cases x with
  | str s =>
    simp! only [isS]
    have hn : nameB (.str s) = (decide (1 ≤ s.length) && decide (s.length ≤ 8) && s.cps.toList.all fun c => decide (c ∈ small.cps.toList)) := rfl
    rw [hn] at hk
    by_cases h1 : (1 : Int) ≤ (s.length : Int) ∧ (s.length : Int) ≤ 8
    · rw [decide_eq_true (show 1 ≤ s.length by omega), decide_eq_true (show s.length ≤ 8 by omega), Bool.true_and, Bool.true_and] at hk
      rw [decide_eq_true h1.1]
      simp! only [id_eq]
      rw [decide_eq_true h1.2]
      simp! only [id_eq]
      refine ⟨lt_sl (by omega) |> Nat.le_of_lt, ?_⟩
      refine lc_ty (fun c => D.str ⟨#[c]⟩) (fun c => D.bl (decide (c ∈ small.cps.toList))) s.cps.toList trivial (by
        have : s.cps.toList.length = s.length := Array.length_toList
        omega) (fun c hc k' hk' => ?_) ?_
      · simp! only [inSD]
        exact ⟨c, rfl, hk'⟩
      · refine all_map ?_
        exact hk
    · have hf : (decide (1 ≤ s.length) && decide (s.length ≤ 8)) = false := by
        rw [Bool.and_eq_false_iff, decide_eq_false_iff_not, decide_eq_false_iff_not]
        omega
      rw [hf, Bool.false_and] at hk
      by_cases h2 : (1 : Int) ≤ (s.length : Int)
      · rw [decide_eq_true h2]
        simp! only [id_eq]
        rw [decide_eq_false (show ¬ (s.length : Int) ≤ 8 by omega)]
        simp! only [id_eq]
        exact ⟨le_sl (by have := (any_str h).2; omega), hk⟩
      · rw [decide_eq_false h2]
        simp! only [id_eq]
        exact ⟨le_sl (by have := (any_str h).2; omega), hk⟩
  | _ => simp! only [isS]; exact hk
theorem ok_is_name {P : Program} {w : World} {K : PySem.W.Frag} {mg : Str → Option Value} {base : Heap} (T : DefAt K mg "is_name" s_is_name ["thing"]) (B : Blt mg) {t_LETTERS : Tok} (c_LETTERS : mg "LETTERS" = some (.str "abcdefghijklmnopqrstuvwxyz" t_LETTERS)) : FnAt P w K mg base CX0 1 "is_name" 1 sp_is_name := (w_is_name T B  c_LETTERS).imp v_is_name

theorem two_of {xs : List D} (h : (xs.length : Int) = 2) : ∃ a b, xs = [a, b] := by
  match xs with
  | [a, b] => exact ⟨a, b, rfl⟩
  | [] => simp at h
  | [_] => simp at h
  | _ :: _ :: _ :: _ => simp at h; omega
theorem three_of {xs : List D} (h : (xs.length : Int) = 3) : ∃ a b c, xs = [a, b, c] := by
  match xs with
  | [a, b, c] => exact ⟨a, b, c, rfl⟩
  | [] => simp at h
  | [_] => simp at h
  | [_, _] => simp at h
  | _ :: _ :: _ :: _ :: _ => simp at h; omega
theorem part_len {xs : List D} (h : ¬ (xs.length : Int) = 2) : partB (.tup xs) = false := by
  unfold partB
  split
  · rename_i e
    injection e with e
    subst e
    exact absurd rfl h
  · rfl
theorem num_i {lo hi : Int} {x : D} (h : numB lo hi x = true) : ∃ i, x = .int i ∧ lo ≤ i ∧ i ≤ hi := by
  unfold numB at h
  split at h
  · rw [Bool.and_eq_true, decide_eq_true_eq, decide_eq_true_eq] at h
    exact ⟨_, rfl, h⟩
  · cases h
theorem part_pair {a b : D} : partB (.tup [a, b]) = (numB 1 60 b && (match b with | .int j => numB 1 j a && (match a with | .int i => decide (Int.gcd i j = 1) | _ => false) | _ => false)) := by
  cases b with
  | int j => cases a <;> simp [partB, numB, Bool.and_assoc]
  | _ => cases a <;> rfl
def sp_is_part : GF := fun ds w _ k => ∃ x : D, ds = [x] ∧ anyD w.M x = true ∧ k (.bl (partB x)) w
abbrev s_is_part : Stmt := topS 12
theorem sc_is_part : FnScope ["thing"] ["thing"] (defScope s_is_part) := ⟨rfl, rfl, rfl, by decide +kernel, rfl, by decide +kernel, by decide +kernel⟩
def g_is_part : GS := (gSeq (gIfS (gOr (gNot (gTru (gCB fIsi (gaCons (gVar 0) (gaCons (gC (.ob (.ty "tuple"))) gaNil))))) (gB (gBin neD (gCB fLen (gaCons (gVar 0) gaNil)) (gC (.int 2))))) (gRet (gC (.bl false))) gNext)
  (gSeq (gIfS (gOr (gNot (gTru (gCall0 3 sp_is_number (gaCons (gBin ixD (gVar 0) (gC (.int 1))) (gaCons (gC (.int 1)) (gaCons (gC (.int (60))) gaNil)))))) (gNot (gTru (gCall0 3 sp_is_number (gaCons (gBin ixD (gVar 0) (gC (.int 0))) (gaCons (gC (.int 1)) (gaCons (gBin ixD (gVar 0) (gC (.int 1))) gaNil))))))) (gRet (gC (.bl false))) gNext)
  (gRet (gBin eqD (gCall0 2 sp_fraction_of (gaCons (gBin ixD (gVar 0) (gC (.int 0))) (gaCons (gBin ixD (gVar 0) (gC (.int 1))) gaNil))) (gVar 0)))))
theorem w_is_part {P : Program} {w : World} {K : PySem.W.Frag} {mg : Str → Option Value} {base : Heap} (T : DefAt K mg "is_part" s_is_part ["thing"]) (B : Blt mg) (F_fraction_of : FnAt P w K mg base CX0 2 "fraction_of" 2 sp_fraction_of) (F_is_number : FnAt P w K mg base CX0 1 "is_number" 3 sp_is_number) {t_MOST_BELOW : Tok} (c_MOST_BELOW : mg "MOST_BELOW" = some (.int (60) t_MOST_BELOW)) : FnAt P w K mg base CX0 3 "is_part" 1 (sem0 1 g_is_part) := by
  have nd := sc_is_part.nd
  exact T.fn0 sc_is_part (fun f cdv A outer s H E hr => (dss_cons (ds_if (dt_w (dw_or (dt_not (dt_truth (de_isi B (by rfl) (da_cons (de_var 0) (da_cons (de_type (by rfl) B.tuple_ (by decide +kernel)) da_nil))))) (dw_or1 (dt_ne hr (de_len B (by rfl) (da_cons (de_var 0) da_nil)) de_int)))) (dss_one (ds_ret de_bl)) dss_nil)
  (dss_cons (ds_if (dt_w (dw_or (dt_not (dt_truth (de_call0 F_is_number hr (by rfl) (da_cons (de_ix (de_var 0) de_int) (da_cons de_int (da_cons (de_gint (by rfl) c_MOST_BELOW) da_nil)))))) (dw_or1 (dt_not (dt_truth (de_call0 F_is_number hr (by rfl) (da_cons (de_ix (de_var 0) de_int) (da_cons de_int (da_cons (de_ix (de_var 0) de_int) da_nil))))))))) (dss_one (ds_ret de_bl)) dss_nil)
  (dss_one (ds_ret (de_eq hr (de_call0 F_fraction_of hr (by rfl) (da_cons (de_ix (de_var 0) de_int) (da_cons (de_ix (de_var 0) de_int) da_nil))) (de_var 0)))))))

theorem v_is_part : ∀ ds w kx k, sp_is_part ds w kx k → sem0 1 g_is_part ds w kx k := by
  rintro ds w kx k ⟨x, rfl, h, hk⟩
  have e : rho 1 [x] = [some x] := rfl
  simp! only [g_is_part, e, isi_tup h, sp_is_number, sp_fraction_of]
  cases x with
  | tup xs =>
    simp! only [isT]
    by_cases hl : (xs.length : Int) = 2
    · rw [decide_eq_true hl]
      obtain ⟨a, b, rfl⟩ := two_of hl
      have h := (any_tup h).1
      rw [part_pair] at hk
      simp! only [id_eq]
      refine ⟨b, 1, 60, rfl, h b (by simp), ?_⟩
      cases h1 : numB 1 60 b with
      | false =>
        rw [h1, Bool.false_and] at hk
        simp! only [id_eq]
        exact hk
      | true =>
        obtain ⟨j, rfl, j1, j2⟩ := num_i h1
        rw [h1, Bool.true_and] at hk
        simp! only [id_eq] at hk ⊢
        refine ⟨a, 1, j, rfl, h a (by simp), ?_⟩
        cases h2 : numB 1 j a with
        | false =>
          rw [h2, Bool.false_and] at hk
          simp! only [id_eq]
          exact hk
        | true =>
          obtain ⟨i, rfl, i1, i2⟩ := num_i h2
          rw [h2, Bool.true_and] at hk
          simp! only [id_eq] at hk ⊢
          refine ⟨i, j, rfl, ⟨by omega, big60 j1 j2⟩, ?_⟩
          rw [eq_fD (by omega)]
          exact hk
    · rw [decide_eq_false hl]
      simp! only [id_eq]
      rw [part_len hl] at hk
      exact hk
  | _ => simp! only [isT]; exact hk
theorem ok_is_part {P : Program} {w : World} {K : PySem.W.Frag} {mg : Str → Option Value} {base : Heap} (T : DefAt K mg "is_part" s_is_part ["thing"]) (B : Blt mg) (F_fraction_of : FnAt P w K mg base CX0 2 "fraction_of" 2 sp_fraction_of) (F_is_number : FnAt P w K mg base CX0 1 "is_number" 3 sp_is_number) {t_MOST_BELOW : Tok} (c_MOST_BELOW : mg "MOST_BELOW" = some (.int (60) t_MOST_BELOW)) : FnAt P w K mg base CX0 3 "is_part" 1 sp_is_part := (w_is_part T B F_fraction_of F_is_number c_MOST_BELOW).imp v_is_part

def sp__law_is_part : GF := fun ds w _ k => ∃ x : D, ds = [x] ∧ anyD w.M x = true ∧ k (.bl (partB x)) w
abbrev s__law_is_part : Stmt := topS 29
theorem sc__law_is_part : FnScope ["_law_thing"] ["_law_thing"] (defScope s__law_is_part) := ⟨rfl, rfl, rfl, by decide +kernel, rfl, by decide +kernel, by decide +kernel⟩
def g__law_is_part : GS := (gSeq (gIfS (gOr (gNot (gTru (gCB fIsi (gaCons (gVar 0) (gaCons (gC (.ob (.ty "tuple"))) gaNil))))) (gOr (gB (gBin neD (gCB fLen (gaCons (gVar 0) gaNil)) (gC (.int 2)))) (gNot (gTru (gCall0 3 sp__law_whole (gaCons (gBin ixD (gVar 0) (gC (.int 0))) (gaCons (gC (.int 1)) (gaCons (gC (.int 60)) gaNil)))))))) (gRet (gC (.bl false))) gNext)
  (gRet (gAndV (gCall0 3 sp__law_whole (gaCons (gBin ixD (gVar 0) (gC (.int 1))) (gaCons (gBin ixD (gVar 0) (gC (.int 0))) (gaCons (gC (.int 60)) gaNil)))) (gBin eqD (gCall0 2 sp__law_lowest (gaCons (gBin ixD (gVar 0) (gC (.int 0))) (gaCons (gBin ixD (gVar 0) (gC (.int 1))) gaNil))) (gVar 0)))))
theorem w__law_is_part {P : Program} {w : World} {K : PySem.W.Frag} {mg : Str → Option Value} {base : Heap} (T : DefAt K mg "_law_is_part" s__law_is_part ["_law_thing"]) (B : Blt mg) (F__law_whole : FnAt P w K mg base CX0 1 "_law_whole" 3 sp__law_whole) (F__law_lowest : FnAt P w K mg base CX0 1 "_law_lowest" 2 sp__law_lowest) : FnAt P w K mg base CX0 2 "_law_is_part" 1 (sem0 1 g__law_is_part) := by
  have nd := sc__law_is_part.nd
  exact T.fn0 sc__law_is_part (fun f cdv A outer s H E hr => (dss_cons (ds_if (dt_w (dw_or (dt_not (dt_truth (de_isi B (by rfl) (da_cons (de_var 0) (da_cons (de_type (by rfl) B.tuple_ (by decide +kernel)) da_nil))))) (dw_or (dt_ne hr (de_len B (by rfl) (da_cons (de_var 0) da_nil)) de_int) (dw_or1 (dt_not (dt_truth (de_call0 F__law_whole hr (by rfl) (da_cons (de_ix (de_var 0) de_int) (da_cons de_int (da_cons de_int da_nil)))))))))) (dss_one (ds_ret de_bl)) dss_nil)
  (dss_one (ds_ret (de_and (de_call0 F__law_whole hr (by rfl) (da_cons (de_ix (de_var 0) de_int) (da_cons (de_ix (de_var 0) de_int) (da_cons de_int da_nil)))) (de_one (de_eq hr (de_call0 F__law_lowest hr (by rfl) (da_cons (de_ix (de_var 0) de_int) (da_cons (de_ix (de_var 0) de_int) da_nil))) (de_var 0))))))))

theorem part_pair2 {a b : D} : partB (.tup [a, b]) = (numB 1 60 a && (match a with | .int i => numB i 60 b && (match b with | .int j => decide (Int.gcd i j = 1) | _ => false) | _ => false)) := by
  cases a with
  | int i =>
    cases b with
    | int j =>
      simp only [partB, numB]
      by_cases h : 1 ≤ i ∧ i ≤ j ∧ j ≤ 60
      · rw [decide_eq_true (show 1 ≤ j by omega), decide_eq_true h.2.2, decide_eq_true h.1, decide_eq_true h.2.1, decide_eq_true (show i ≤ 60 by omega)]
        rfl
      · have e1 : ((decide (1 ≤ j) && decide (j ≤ 60)) && (decide (1 ≤ i) && decide (i ≤ j))) = false := by
          rw [← Bool.not_eq_true, Bool.and_eq_true, Bool.and_eq_true, Bool.and_eq_true, decide_eq_true_eq, decide_eq_true_eq, decide_eq_true_eq, decide_eq_true_eq]
          omega
        have e2 : ((decide (1 ≤ i) && decide (i ≤ 60)) && (decide (i ≤ j) && decide (j ≤ 60))) = false := by
          rw [← Bool.not_eq_true, Bool.and_eq_true, Bool.and_eq_true, Bool.and_eq_true, decide_eq_true_eq, decide_eq_true_eq, decide_eq_true_eq, decide_eq_true_eq]
          omega
        rw [e1, Bool.false_and, ← Bool.and_assoc, e2, Bool.false_and]
    | _ => simp [partB, numB]
  | _ => cases b <;> rfl
theorem v__law_is_part : ∀ ds w kx k, sp__law_is_part ds w kx k → sem0 1 g__law_is_part ds w kx k := by
  rintro ds w kx k ⟨x, rfl, h, hk⟩
  have e : rho 1 [x] = [some x] := rfl
  simp! only [g__law_is_part, e, isi_tup h, sp__law_whole, sp__law_lowest]
  cases x with
  | tup xs =>
    simp! only [isT]
    by_cases hl : (xs.length : Int) = 2
    · rw [decide_eq_true hl]
      obtain ⟨a, b, rfl⟩ := two_of hl
      have h := (any_tup h).1
      rw [part_pair2] at hk
      simp! only [id_eq]
      refine ⟨a, 1, 60, rfl, h a (by simp), ?_⟩
      cases h1 : numB 1 60 a with
      | false =>
        rw [h1, Bool.false_and] at hk
        simp! only [id_eq]
        exact hk
      | true =>
        obtain ⟨i, rfl, i1, i2⟩ := num_i h1
        rw [h1, Bool.true_and] at hk
        simp! only [id_eq] at hk ⊢
        refine ⟨b, i, 60, rfl, h b (by simp), ?_⟩
        cases h2 : numB i 60 b with
        | false =>
          rw [h2, Bool.false_and] at hk
          simp! only [id_eq]
          exact hk
        | true =>
          obtain ⟨j, rfl, j1, j2⟩ := num_i h2
          rw [h2, Bool.true_and] at hk
          simp! only [id_eq] at hk ⊢
          refine ⟨i, j, rfl, ⟨by omega, big60 (by omega) j2, big60 i1 i2⟩, ?_⟩
          rw [eq_fD (by omega)]
          exact hk
    · rw [decide_eq_false hl]
      simp! only [id_eq]
      rw [part_len hl] at hk
      exact hk
  | _ => simp! only [isT]; exact hk
theorem ok__law_is_part {P : Program} {w : World} {K : PySem.W.Frag} {mg : Str → Option Value} {base : Heap} (T : DefAt K mg "_law_is_part" s__law_is_part ["_law_thing"]) (B : Blt mg) (F__law_whole : FnAt P w K mg base CX0 1 "_law_whole" 3 sp__law_whole) (F__law_lowest : FnAt P w K mg base CX0 1 "_law_lowest" 2 sp__law_lowest) : FnAt P w K mg base CX0 2 "_law_is_part" 1 sp__law_is_part := (w__law_is_part T B F__law_whole F__law_lowest).imp v__law_is_part


end LW

namespace LW
open PySem PySem.Spec PyProof.Rows L2 RZ DL
local macro_rules | `(tactic| simp! only [$xs,*] $[$loc]?) => `(tactic| simp only [$xs,*, sem0,List.map_cons,List.map_nil,List.length_cons,List.length_nil,gSeq,gNext,gRet,gRetN,gIfS,gSet,gPar,gAsg,gDrop,gVar,gC,gBin,gUn,gB,gTru,gAnd,gOr,gNot,gAndV,gOrV,gNotV,gIf,gChain,gaNil,gaCons,DL.gTup,DL.gLst,gCB,gCall0,gAug,addD_i,addD_s,addD_l,addD_t,subD_i,mulD_i,mulD_l,fdivD_i,modD_i,powD_i,ltD_i,ltD_s,leD_i,gtD_i,geD_i,isD_n,isnotD_n,isNonD_non,isNonD_bl,isNonD_int,isNonD_str,isNonD_lst,isNonD_tup,negD_i,iaddD_i,truD_non,truD_bl,truD_int,truD_str,truD_lst,truD_tup,someK_some,ixD_l,ixD_t,fAbs_i,fInt_i,fInt_b,fMin2_i,fLen_l,fLen_t,fLen_s,fList_l,fList_t,fTuple_l,fTuple_t,optBK_some,fIsi_non,fIsi_bl,fIsi_int,fIsi_str,fIsi_lst,fIsi_tup,List.getElem?_cons_zero,List.getElem?_cons_succ,List.set_cons_zero,List.set_cons_succ,DL.ggName,ggNil0,ggCons1,ggTup2,ggTup3,gFor,giSeq,gLc,gYes,wipeR,true_and,and_true,at_0,at_1,at_2,kit_int_int,kit_bool_int,kit_str_int,kit_non_int,kit_list_int,kit_tuple_int,kit_int_bool,kit_bool_bool,kit_str_bool,kit_non_bool,kit_list_bool,kit_tuple_bool,kit_int_str,kit_bool_str,kit_str_str,kit_non_str,kit_list_str,kit_tuple_str,kit_int_list,kit_bool_list,kit_str_list,kit_non_list,kit_list_list,kit_tuple_list,kit_int_tuple,kit_bool_tuple,kit_str_tuple,kit_non_tuple,kit_list_tuple,kit_tuple_tuple,eqD_i,neD_i,eqD_s,neD_s,eqD_f,neD_f,Nat.zero_add,Nat.reduceAdd,nc0,nc1,nc2,nc3,nc4,nc5,nc6,nc7,nc8,nc9,eq_self,decide_true,decide_false,Int.reduceEq,Int.reduceLT,Int.reduceLE,Int.reduceNeg,Bool.not_true,Bool.not_false,Bool.false_eq_true,if_true,if_false,↓reduceIte,false_and,and_false,List.all_cons,List.all_nil,List.any_cons,List.any_nil,id_eq,Bool.and_true,Bool.true_and,Bool.or_false,Bool.false_or,Bool.and_false,Bool.false_and,gCut,eqD_b,neD_b,giZip,reduceCtorEq,Bool.true_eq_false,Bool.false_eq_true,gRevL,gSl,goNone,goSome,slD_l,ne_eq,not_false_eq_true,not_true_eq_false,gBM,isTy_l,isTy_s,new_at,new_set,isTy_new,cellK_new,append_new,popAt_new,gFrz_eq,frzK_new,fLen_new,fTuple_new,ixD_new,slA_l,slA_t,slA_new,addTD_t,addCD_l,mulCD_l,isbD_b,isnotbD_b,mSplitC_s,gLstC,gTr,ggSub,lstK_l,lstK_r,addLD_eq] $[$loc]?)


theorem rate_len {a : Int} {b : Bool} {xs : List D} (h : ¬ (xs.length : Int) = 2) : rateB a b (.tup xs) = false := by
  unfold rateB
  split
  · rename_i e
    injection e with e
    subst e
    exact absurd rfl h
  · rfl
theorem rate_pair {a : Int} {b : Bool} {u p : D} : rateB a b (.tup [u, p]) = (partB p && (if b then isNonD u else numB (a + 1) 1000000 u)) := rfl
def sp_is_rate : GF := fun ds w _ k => ∃ (x : D) (a : Int) (b : Bool), ds = [x, .int a, .bl b] ∧ anyD w.M x = true ∧ k (.bl (rateB a b x)) w
abbrev s_is_rate : Stmt := topS 13
theorem sc_is_rate : FnScope ["thing", "ahead", "is_last"] ["thing", "ahead", "is_last"] (defScope s_is_rate) := ⟨rfl, rfl, rfl, by decide +kernel, rfl, by decide +kernel, by decide +kernel⟩
def g_is_rate : GS := (gSeq (gIfS (gOr (gNot (gTru (gCB fIsi (gaCons (gVar 0) (gaCons (gC (.ob (.ty "tuple"))) gaNil))))) (gOr (gB (gBin neD (gCB fLen (gaCons (gVar 0) gaNil)) (gC (.int 2)))) (gNot (gTru (gCall0 1 sp_is_part (gaCons (gBin ixD (gVar 0) (gC (.int 1))) gaNil)))))) (gRet (gC (.bl false))) gNext)
  (gRet (gIf (gTru (gVar 2)) (gBin isD (gBin ixD (gVar 0) (gC (.int 0))) (gC .non)) (gCall0 3 sp_is_number (gaCons (gBin ixD (gVar 0) (gC (.int 0))) (gaCons (gBin addD (gVar 1) (gC (.int 1))) (gaCons (gC (.int (1000000))) gaNil)))))))
theorem w_is_rate {P : Program} {w : World} {K : PySem.W.Frag} {mg : Str → Option Value} {base : Heap} (T : DefAt K mg "is_rate" s_is_rate ["thing", "ahead", "is_last"]) (B : Blt mg) (F_is_number : FnAt P w K mg base CX0 1 "is_number" 3 sp_is_number) (F_is_part : FnAt P w K mg base CX0 3 "is_part" 1 sp_is_part) {t_MOST_UNITS : Tok} (c_MOST_UNITS : mg "MOST_UNITS" = some (.int (1000000) t_MOST_UNITS)) : FnAt P w K mg base CX0 4 "is_rate" 3 (sem0 3 g_is_rate) := by
  have nd := sc_is_rate.nd
  exact T.fn0 sc_is_rate (fun f cdv A outer s H E hr => (dss_cons (ds_if (dt_w (dw_or (dt_not (dt_truth (de_isi B (by rfl) (da_cons (de_var 0) (da_cons (de_type (by rfl) B.tuple_ (by decide +kernel)) da_nil))))) (dw_or (dt_ne hr (de_len B (by rfl) (da_cons (de_var 0) da_nil)) de_int) (dw_or1 (dt_not (dt_truth (de_call0 F_is_part hr (by rfl) (da_cons (de_ix (de_var 0) de_int) da_nil)))))))) (dss_one (ds_ret de_bl)) dss_nil)
  (dss_one (ds_ret (de_ifExp (dt_truth (de_var 2)) (de_is (de_ix (de_var 0) de_int) de_non) (de_call0 F_is_number hr (by rfl) (da_cons (de_ix (de_var 0) de_int) (da_cons (de_add (de_var 1) de_int) (da_cons (de_gint (by rfl) c_MOST_UNITS) da_nil)))))))))

theorem v_is_rate : ∀ ds w kx k, sp_is_rate ds w kx k → sem0 3 g_is_rate ds w kx k := by
  rintro ds w kx k ⟨x, a, b, rfl, h, hk⟩
  have e : rho 3 [x, .int a, .bl b] = [some x, some (.int a), some (.bl b)] := rfl
  simp! only [g_is_rate, e, isi_tup h, sp_is_part, sp_is_number]
  cases x with
  | tup xs =>
    simp! only [isT]
    by_cases hl : (xs.length : Int) = 2
    · rw [decide_eq_true hl]
      obtain ⟨u, p, rfl⟩ := two_of hl
      have h := (any_tup h).1
      rw [rate_pair] at hk
      simp! only [id_eq]
      refine ⟨p, rfl, h p (by simp), ?_⟩
      cases h1 : partB p with
      | false =>
        rw [h1, Bool.false_and] at hk
        simp! only [id_eq]
        exact hk
      | true =>
        rw [h1, Bool.true_and] at hk
        simp! only [id_eq]
        cases b with
        | true =>
          simp! only [id_eq] at hk ⊢
          exact hk
        | false =>
          simp! only [id_eq] at hk ⊢
          exact ⟨u, a + 1, 1000000, rfl, h u (by simp), hk⟩
    · rw [decide_eq_false hl]
      simp! only [id_eq]
      rw [rate_len hl] at hk
      exact hk
  | _ => simp! only [isT]; exact hk
theorem ok_is_rate {P : Program} {w : World} {K : PySem.W.Frag} {mg : Str → Option Value} {base : Heap} (T : DefAt K mg "is_rate" s_is_rate ["thing", "ahead", "is_last"]) (B : Blt mg) (F_is_number : FnAt P w K mg base CX0 1 "is_number" 3 sp_is_number) (F_is_part : FnAt P w K mg base CX0 3 "is_part" 1 sp_is_part) {t_MOST_UNITS : Tok} (c_MOST_UNITS : mg "MOST_UNITS" = some (.int (1000000) t_MOST_UNITS)) : FnAt P w K mg base CX0 4 "is_rate" 3 sp_is_rate := (w_is_rate T B F_is_number F_is_part c_MOST_UNITS).imp v_is_rate

theorem rate_up {a : Int} {x : D} (h : rateB a false x = true) : ∃ u p, x = .tup [.int u, p] ∧ upto x = u ∧ partB p = true ∧ a + 1 ≤ u ∧ u ≤ 1000000 := by
  unfold rateB at h
  split at h
  · rename_i u p
    rw [Bool.and_eq_true] at h
    obtain ⟨i, rfl, i1, i2⟩ := num_i h.2
    exact ⟨i, p, rfl, rfl, h.1, i1, i2⟩
  · cases h
def sp_are_rates : GF := fun ds w _ k => ∃ x : D, ds = [x] ∧ anyD w.M x = true ∧ k (.bl (ratesB x)) w
abbrev s_are_rates : Stmt := topS 14
theorem sc_are_rates : FnScope ["thing", "ahead", "place", "rate"] ["thing"] (defScope s_are_rates) := ⟨rfl, rfl, rfl, by decide +kernel, rfl, by decide +kernel, by decide +kernel⟩
def g_are_rates : GS := (gSeq (gIfS (gOr (gNot (gTru (gCB fIsi (gaCons (gVar 0) (gaCons (gC (.ob (.ty "tuple"))) gaNil))))) (gNot (gB (gChain leD leD (gC (.int 2)) (gCB fLen (gaCons (gVar 0) gaNil)) (gC (.int 4)))))) (gRet (gC (.bl false))) gNext)
  (gSeq (gSet 1 (gC (.int 0)))
  (gSeq (gFor (giEnumT (gaCons (gVar 0) gaNil)) (ggTup 2 (ggCons (ggName 2) (ggCons (ggName 3) ggNil))) (gSeq (gIfS (gNot (gTru (gCall0 3 sp_is_rate (gaCons (gVar 3) (gaCons (gVar 1) (gaCons (gBin eqD (gVar 2) (gBin subD (gCB fLen (gaCons (gVar 0) gaNil)) (gC (.int 1)))) gaNil)))))) (gRet (gC (.bl false))) gNext)
  (gSet 1 (gBin ixD (gVar 3) (gC (.int 0))))))
  (gRet (gC (.bl true))))))
theorem w_are_rates {P : Program} {w : World} {K : PySem.W.Frag} {mg : Str → Option Value} {base : Heap} (T : DefAt K mg "are_rates" s_are_rates ["thing"]) (B : Blt mg) (F_is_rate : FnAt P w K mg base CX0 4 "is_rate" 3 sp_is_rate) : FnAt P w K mg base CX0 5 "are_rates" 1 (sem0 4 g_are_rates) := by
  have nd := sc_are_rates.nd
  exact T.fn0 sc_are_rates (fun f cdv A outer s H E hr => (dss_cons (ds_if (dt_w (dw_or (dt_not (dt_truth (de_isi B (by rfl) (da_cons (de_var 0) (da_cons (de_type (by rfl) B.tuple_ (by decide +kernel)) da_nil))))) (dw_or1 (dt_not (dt_chain op_le ok_leD op_le ok_leD de_int (de_len B (by rfl) (da_cons (de_var 0) da_nil)) de_int))))) (dss_one (ds_ret de_bl)) dss_nil)
  (dss_cons (ds_set (i := 1) nd rfl (by first | exact Or.inl rfl | exact Or.inr rfl) de_int)
  (dss_cons (ds_for PassesOwn.never rfl (di_enumT B (by rfl) (da_cons (de_var 0) da_nil)) (dg_tup rfl (dgs_cons (dg_name (i := 2) nd rfl (by first | exact Or.inl rfl | exact Or.inr rfl)) (dgs_cons (dg_name (i := 3) nd rfl (by first | exact Or.inl rfl | exact Or.inr rfl)) dgs_nil))) (dss_cons (ds_if (dt_not (dt_truth (de_call0 F_is_rate hr (by rfl) (da_cons (de_var 3) (da_cons (de_var 1) (da_cons (de_eq hr (de_var 2) (de_sub (de_len B (by rfl) (da_cons (de_var 0) da_nil)) de_int)) da_nil)))))) (dss_one (ds_ret de_bl)) dss_nil)
  (dss_one (ds_set (i := 1) nd rfl (by first | exact Or.inl rfl | exact Or.inr rfl) (de_ix (de_var 3) de_int)))))
  (dss_one (ds_ret de_bl))))))

theorem v_are_rates : ∀ ds w kx k, sp_are_rates ds w kx k → sem0 4 g_are_rates ds w kx k := by
  rintro ds w kx k ⟨x, rfl, h, hk⟩
  have e : rho 4 [x] = [some x, none, none, none] := rfl
  simp! only [g_are_rates, e, isi_tup h, sp_is_rate, giEnumT]
  cases x with
  | tup xs =>
    obtain ⟨ha, hl⟩ := any_tup h
    have e1 : ratesB (.tup xs) = (decide (2 ≤ xs.length) && decide (xs.length ≤ 4) && goB 0 xs) := rfl
    rw [e1] at hk
    simp! only [isT]
    by_cases h2 : 2 ≤ xs.length
    · rw [decide_eq_true (show (2 : Int) ≤ (xs.length : Int) by omega)]
      simp! only [id_eq]
      by_cases h4 : xs.length ≤ 4
      · rw [decide_eq_true (show (xs.length : Int) ≤ 4 by omega)]
        rw [decide_eq_true h2, decide_eq_true h4, Bool.true_and, Bool.true_and] at hk
        simp! only [id_eq]
        refine ⟨fun rem ρ w' => ∃ (ys : List D) (j : Nat) (ah : D) (a : Int) (s2 s3 : Option D), rem = enumD j ys ∧ w' = w ∧ ρ = [some (.tup xs), some ah, s2, s3] ∧ j + ys.length = xs.length ∧ (ys ≠ [] → ah = .int a) ∧ (∀ y ∈ ys, anyD w.M y = true) ∧ goB a ys = goB 0 xs, ⟨xs, 0, .int 0, 0, none, none, rfl, rfl, rfl, by omega, fun _ => rfl, ha, rfl⟩, ?_, ?_⟩
        · rintro ρ w' ⟨ys, j, ah, a, s2, s3, hr, rfl, rfl, hj, hah, hy, hg⟩
          refine ⟨trivial, ?_⟩
          cases ys with
          | nil =>
            rw [← hg] at hk
            exact hk
          | cons y ys => cases hr
        · rintro z rem ρ w' ⟨ys, j, ah, a, s2, s3, hr, rfl, rfl, hj, hah, hy, hg⟩
          refine ⟨trivial, ?_⟩
          cases ys with
          | nil => cases hr
          | cons y ys =>
            rw [enumD] at hr
            injection hr with hz hr
            subst hz hr
            have := hah (by simp)
            subst this
            rw [List.length_cons] at hj
            simp! only [id_eq]
            refine ⟨y, a, decide ((j : Int) = (xs.length : Int) - 1), rfl, hy y (by simp), ?_⟩
            cases ys with
            | nil =>
              have : j + 1 = xs.length := by simpa using hj
              rw [decide_eq_true (show (j : Int) = (xs.length : Int) - 1 by omega)]
              have g1 : goB a [y] = rateB a true y := rfl
              rw [g1] at hg
              rw [← hg] at hk
              cases hb : rateB a true y with
              | false =>
                rw [hb] at hk
                simp! only [id_eq]
                exact hk
              | true =>
                unfold rateB at hb
                split at hb
                · rename_i u p
                  rw [hg] at hk
                  simp! only [id_eq]
                  refine ⟨[], j + 1, u, 0, _, _, rfl, rfl, by simpa using this, fun z => absurd rfl z, (fun _ z => nomatch z), ?_⟩
                  rw [← hg]
                  show true = rateB a true (.tup [u, p])
                  rw [rate_pair]
                  exact hb.symm
                · cases hb
            | cons y2 ys =>
              rw [List.length_cons] at hj
              rw [decide_eq_false (show ¬ (j : Int) = (xs.length : Int) - 1 by omega)]
              have g1 : goB a (y :: y2 :: ys) = (rateB a false y && goB (upto y) (y2 :: ys)) := rfl
              rw [g1] at hg
              cases hb : rateB a false y with
              | false =>
                rw [hb, Bool.false_and] at hg
                rw [← hg] at hk
                simp! only [id_eq]
                exact hk
              | true =>
                rw [hb, Bool.true_and] at hg
                obtain ⟨u, p, rfl, hu, _⟩ := rate_up hb
                rw [hu] at hg
                simp! only [id_eq]
                exact ⟨y2 :: ys, j + 1, .int u, u, _, _, rfl, rfl, by rw [List.length_cons]; omega, fun _ => rfl, fun z hz => hy z (List.mem_cons_of_mem _ hz), hg⟩
      · rw [decide_eq_false (show ¬ (xs.length : Int) ≤ 4 by omega)]
        rw [decide_eq_false h4, Bool.and_false, Bool.false_and] at hk
        simp! only [id_eq]
        exact hk
    · rw [decide_eq_false (show ¬ (2 : Int) ≤ (xs.length : Int) by omega)]
      rw [decide_eq_false h2, Bool.false_and, Bool.false_and] at hk
      simp! only [id_eq]
      exact hk
  | _ => simp! only [isT]; exact hk
theorem ok_are_rates {P : Program} {w : World} {K : PySem.W.Frag} {mg : Str → Option Value} {base : Heap} (T : DefAt K mg "are_rates" s_are_rates ["thing"]) (B : Blt mg) (F_is_rate : FnAt P w K mg base CX0 4 "is_rate" 3 sp_is_rate) : FnAt P w K mg base CX0 5 "are_rates" 1 sp_are_rates := (w_are_rates T B F_is_rate).imp v_are_rates

theorem row_len {xs : List D} (h : ¬ (xs.length : Int) = 3) : rowB (.tup xs) = false := by
  unfold rowB
  split
  · rename_i e
    injection e with e
    subst e
    exact absurd rfl h
  · rfl
def told3 (k : Str) (t : D) : Bool := if k = "of" ∨ k = "left" then partB t else if k = "steps" then ratesB t else decide (k = "length") && numB 1 1000 t
theorem row_three {k : Str} {n t : D} : rowB (.tup [.str k, n, t]) = (nameB n && told3 k t) := rfl
theorem row_no {a n t : D} (h : isS a = false) : rowB (.tup [a, n, t]) = false := by
  cases a <;> first | rfl | cases h
def sp_is_row : GF := fun ds w _ k => ∃ x : D, ds = [x] ∧ anyD w.M x = true ∧ k (.bl (rowB x)) w
abbrev s_is_row : Stmt := topS 15
theorem sc_is_row : FnScope ["thing"] ["thing"] (defScope s_is_row) := ⟨rfl, rfl, rfl, by decide +kernel, rfl, by decide +kernel, by decide +kernel⟩
def g_is_row : GS := (gSeq (gIfS (gOr (gNot (gTru (gCB fIsi (gaCons (gVar 0) (gaCons (gC (.ob (.ty "tuple"))) gaNil))))) (gOr (gB (gBin neD (gCB fLen (gaCons (gVar 0) gaNil)) (gC (.int 3)))) (gOr (gNot (gTru (gCB fIsi (gaCons (gBin ixD (gVar 0) (gC (.int 0))) (gaCons (gC (.ob (.ty "str"))) gaNil))))) (gNot (gTru (gCall0 1 sp_is_name (gaCons (gBin ixD (gVar 0) (gC (.int 1))) gaNil))))))) (gRet (gC (.bl false))) gNext)
  (gSeq (gIfS (gOr (gB (gBin eqD (gBin ixD (gVar 0) (gC (.int 0))) (gC (.str "of")))) (gB (gBin eqD (gBin ixD (gVar 0) (gC (.int 0))) (gC (.str "left"))))) (gRet (gCall0 1 sp_is_part (gaCons (gBin ixD (gVar 0) (gC (.int 2))) gaNil))) gNext)
  (gSeq (gIfS (gB (gBin eqD (gBin ixD (gVar 0) (gC (.int 0))) (gC (.str "steps")))) (gRet (gCall0 1 sp_are_rates (gaCons (gBin ixD (gVar 0) (gC (.int 2))) gaNil))) gNext)
  (gRet (gAndV (gBin eqD (gBin ixD (gVar 0) (gC (.int 0))) (gC (.str "length"))) (gCall0 3 sp_is_number (gaCons (gBin ixD (gVar 0) (gC (.int 2))) (gaCons (gC (.int 1)) (gaCons (gC (.int (1000))) gaNil)))))))))
theorem w_is_row {P : Program} {w : World} {K : PySem.W.Frag} {mg : Str → Option Value} {base : Heap} (T : DefAt K mg "is_row" s_is_row ["thing"]) (B : Blt mg) (F_is_part : FnAt P w K mg base CX0 3 "is_part" 1 sp_is_part) (F_are_rates : FnAt P w K mg base CX0 5 "are_rates" 1 sp_are_rates) (F_is_number : FnAt P w K mg base CX0 1 "is_number" 3 sp_is_number) (F_is_name : FnAt P w K mg base CX0 1 "is_name" 1 sp_is_name) {t_MOST_LENGTH : Tok} (c_MOST_LENGTH : mg "MOST_LENGTH" = some (.int (1000) t_MOST_LENGTH)) : FnAt P w K mg base CX0 6 "is_row" 1 (sem0 1 g_is_row) := by
  have nd := sc_is_row.nd
  exact T.fn0 sc_is_row (fun f cdv A outer s H E hr => (dss_cons (ds_if (dt_w (dw_or (dt_not (dt_truth (de_isi B (by rfl) (da_cons (de_var 0) (da_cons (de_type (by rfl) B.tuple_ (by decide +kernel)) da_nil))))) (dw_or (dt_ne hr (de_len B (by rfl) (da_cons (de_var 0) da_nil)) de_int) (dw_or (dt_not (dt_truth (de_isi B (by rfl) (da_cons (de_ix (de_var 0) de_int) (da_cons (de_type (by rfl) B.str_ (by decide +kernel)) da_nil))))) (dw_or1 (dt_not (dt_truth (de_call0 F_is_name hr (by rfl) (da_cons (de_ix (de_var 0) de_int) da_nil))))))))) (dss_one (ds_ret de_bl)) dss_nil)
  (dss_cons (ds_if (dt_w (dw_or (dt_eq hr (de_ix (de_var 0) de_int) de_str) (dw_or1 (dt_eq hr (de_ix (de_var 0) de_int) de_str)))) (dss_one (ds_ret (de_call0 F_is_part hr (by rfl) (da_cons (de_ix (de_var 0) de_int) da_nil)))) dss_nil)
  (dss_cons (ds_if (dt_eq hr (de_ix (de_var 0) de_int) de_str) (dss_one (ds_ret (de_call0 F_are_rates hr (by rfl) (da_cons (de_ix (de_var 0) de_int) da_nil)))) dss_nil)
  (dss_one (ds_ret (de_and (de_eq hr (de_ix (de_var 0) de_int) de_str) (de_one (de_call0 F_is_number hr (by rfl) (da_cons (de_ix (de_var 0) de_int) (da_cons de_int (da_cons (de_gint (by rfl) c_MOST_LENGTH) da_nil))))))))))))

theorem v_is_row : ∀ ds w kx k, sp_is_row ds w kx k → sem0 1 g_is_row ds w kx k := by
  rintro ds w kx k ⟨x, rfl, h, hk⟩
  have e : rho 1 [x] = [some x] := rfl
  simp! only [g_is_row, e, isi_tup h, sp_is_part, sp_is_number, sp_are_rates, sp_is_name]
  cases x with
  | tup xs =>
    simp! only [isT]
    by_cases hl : (xs.length : Int) = 3
    · rw [decide_eq_true hl]
      obtain ⟨a, n, t, rfl⟩ := three_of hl
      have h := (any_tup h).1
      have ha := h a (by simp)
      have hn := h n (by simp)
      have ht := h t (by simp)
      simp! only [isi_str ha]
      cases hs : isS a with
      | false =>
        rw [row_no hs] at hk
        simp! only [id_eq]
        exact hk
      | true =>
        obtain ⟨s, rfl⟩ : ∃ s, a = .str s := by cases a <;> first | exact ⟨_, rfl⟩ | cases hs
        rw [row_three] at hk
        simp! only [id_eq]
        refine ⟨n, rfl, hn, ?_⟩
        cases h1 : nameB n with
        | false =>
          rw [h1, Bool.false_and] at hk
          simp! only [id_eq]
          exact hk
        | true =>
          rw [h1, Bool.true_and] at hk
          unfold told3 at hk
          simp! only [id_eq]
          by_cases k1 : s = "of"
          · rw [decide_eq_true k1]
            rw [if_pos (.inl k1)] at hk
            simp! only [id_eq]
            exact ⟨t, rfl, ht, hk⟩
          · rw [decide_eq_false k1]
            simp! only [id_eq]
            by_cases k2 : s = "left"
            · rw [decide_eq_true k2]
              rw [if_pos (.inr k2)] at hk
              simp! only [id_eq]
              exact ⟨t, rfl, ht, hk⟩
            · rw [decide_eq_false k2]
              rw [if_neg (fun z => z.elim k1 k2)] at hk
              simp! only [id_eq]
              by_cases k3 : s = "steps"
              · rw [decide_eq_true k3]
                rw [if_pos k3] at hk
                simp! only [id_eq]
                exact ⟨t, rfl, ht, hk⟩
              · rw [decide_eq_false k3]
                rw [if_neg k3] at hk
                simp! only [id_eq]
                by_cases k4 : s = "length"
                · rw [decide_eq_true k4] at hk ⊢
                  rw [Bool.true_and] at hk
                  simp! only [id_eq]
                  exact ⟨t, 1, 1000, rfl, ht, hk⟩
                · rw [decide_eq_false k4] at hk ⊢
                  rw [Bool.false_and] at hk
                  simp! only [id_eq]
                  exact hk
    · rw [decide_eq_false hl]
      simp! only [id_eq]
      rw [row_len hl] at hk
      exact hk
  | _ => simp! only [isT]; exact hk
theorem ok_is_row {P : Program} {w : World} {K : PySem.W.Frag} {mg : Str → Option Value} {base : Heap} (T : DefAt K mg "is_row" s_is_row ["thing"]) (B : Blt mg) (F_is_part : FnAt P w K mg base CX0 3 "is_part" 1 sp_is_part) (F_are_rates : FnAt P w K mg base CX0 5 "are_rates" 1 sp_are_rates) (F_is_number : FnAt P w K mg base CX0 1 "is_number" 3 sp_is_number) (F_is_name : FnAt P w K mg base CX0 1 "is_name" 1 sp_is_name) {t_MOST_LENGTH : Tok} (c_MOST_LENGTH : mg "MOST_LENGTH" = some (.int (1000) t_MOST_LENGTH)) : FnAt P w K mg base CX0 6 "is_row" 1 sp_is_row := (w_is_row T B F_is_part F_are_rates F_is_number F_is_name c_MOST_LENGTH).imp v_is_row

theorem row_form {x : D} (h : rowB x = true) : ∃ k n t, x = .tup [.str k, n, t] := by
  unfold rowB at h
  split at h
  · exact ⟨_, _, _, rfl⟩
  · cases h
def sp_rows_by : GF := fun ds w _ k => ∃ (xs : List D) (s : Str), ds = [.tup xs, .str s] ∧ ((∀ x ∈ xs, rowB x = true) ∧ xs.length ≤ 1000) ∧ k (.lst (xs.filter (kindIs s))) w
abbrev s_rows_by : Stmt := topS 16
theorem sc_rows_by : FnScope ["rows", "kind", "row"] ["rows", "kind"] (defScope s_rows_by) := ⟨rfl, rfl, rfl, by decide +kernel, rfl, by decide +kernel, by decide +kernel⟩
def g_rows_by : GS := (gRet (gLc (giSeq (gVar 0)) (ggName 2) (gB (gBin eqD (gBin ixD (gVar 2) (gC (.int 0))) (gVar 1))) (gVar 2) [2]))
theorem w_rows_by {P : Program} {w : World} {K : PySem.W.Frag} {mg : Str → Option Value} {base : Heap} (T : DefAt K mg "rows_by" s_rows_by ["rows", "kind"]) (B : Blt mg) : FnAt P w K mg base CX0 1 "rows_by" 2 (sem0 3 g_rows_by) := by
  have nd := sc_rows_by.nd
  exact T.fn0 sc_rows_by (fun f cdv A outer s H E hr => (dss_one (ds_ret (de_lc (own := [("row", 2)]) (us := [2]) rfl nd (di_seq (de_var 0)) (blkOk_by (N := ["rows", "kind", "row"]) (sc := defScope s_rows_by) (by decide +kernel)) (by decide) (fun _ _ _ _ _ => (dg_name (i := 2) nd rfl (by first | exact Or.inl rfl | exact Or.inr rfl))) (fun _ _ _ _ _ => (dts_one (dt_eq hr (de_ix (de_var 2) de_int) (de_var 1)))) (fun _ _ _ _ _ => (de_var 2))))))

theorem v_rows_by : ∀ ds w kx k, sp_rows_by ds w kx k → sem0 3 g_rows_by ds w kx k := by
  rintro ds w kx k ⟨xs, s, rfl, ⟨h, hl⟩, hk⟩
  have e : rho 3 [.tup xs, .str s] = [some (.tup xs), some (.str s), none] := rfl
  simp! only [g_rows_by, e]
  have q := lc_tyf (gt := DL.ggName 2) (tt := gB (gBin eqD (gBin ixD (gVar 2) (gC (.int 0))) (gVar 1))) (ge := gVar 2) (Ok := fun _ => True) (ρ := [some (.tup xs), some (.str s), none]) (k := k) (w := w) id id (kindIs s) xs trivial (by omega) (fun x hx A B hA hB => ?_) (by rw [List.map_id]; exact hk)
  · rw [List.map_id] at q
    simpa only [sem0,List.map_cons,List.map_nil,List.length_cons,List.length_nil,gSeq,gNext,gRet,gRetN,gIfS,gSet,gPar,gAsg,gDrop,gVar,gC,gBin,gUn,gB,gTru,gAnd,gOr,gNot,gAndV,gOrV,gNotV,gIf,gChain,gaNil,gaCons,DL.gTup,DL.gLst,gCB,gCall0,gAug,addD_i,addD_s,addD_l,addD_t,subD_i,mulD_i,mulD_l,fdivD_i,modD_i,powD_i,ltD_i,ltD_s,leD_i,gtD_i,geD_i,isD_n,isnotD_n,isNonD_non,isNonD_bl,isNonD_int,isNonD_str,isNonD_lst,isNonD_tup,negD_i,iaddD_i,truD_non,truD_bl,truD_int,truD_str,truD_lst,truD_tup,someK_some,ixD_l,ixD_t,fAbs_i,fInt_i,fInt_b,fMin2_i,fLen_l,fLen_t,fLen_s,fList_l,fList_t,fTuple_l,fTuple_t,optBK_some,fIsi_non,fIsi_bl,fIsi_int,fIsi_str,fIsi_lst,fIsi_tup,List.getElem?_cons_zero,List.getElem?_cons_succ,List.set_cons_zero,List.set_cons_succ,DL.ggName,ggNil0,ggCons1,ggTup2,ggTup3,gFor,giSeq,gLc,gYes,wipeR,true_and,and_true,at_0,at_1,at_2,kit_int_int,kit_bool_int,kit_str_int,kit_non_int,kit_list_int,kit_tuple_int,kit_int_bool,kit_bool_bool,kit_str_bool,kit_non_bool,kit_list_bool,kit_tuple_bool,kit_int_str,kit_bool_str,kit_str_str,kit_non_str,kit_list_str,kit_tuple_str,kit_int_list,kit_bool_list,kit_str_list,kit_non_list,kit_list_list,kit_tuple_list,kit_int_tuple,kit_bool_tuple,kit_str_tuple,kit_non_tuple,kit_list_tuple,kit_tuple_tuple,eqD_i,neD_i,eqD_s,neD_s,eqD_f,neD_f,Nat.zero_add,Nat.reduceAdd,nc0,nc1,nc2,nc3,nc4,nc5,nc6,nc7,nc8,nc9,eq_self,decide_true,decide_false,Int.reduceEq,Int.reduceLT,Int.reduceLE,Int.reduceNeg,Bool.not_true,Bool.not_false,Bool.false_eq_true,if_true,if_false,↓reduceIte,false_and,and_false,List.all_cons,List.all_nil,List.any_cons,List.any_nil,id_eq,Bool.and_true,Bool.true_and,Bool.or_false,Bool.false_or,Bool.and_false,Bool.false_and,gCut,eqD_b,neD_b,giZip,reduceCtorEq,Bool.true_eq_false,Bool.false_eq_true,gRevL,gSl,goNone,goSome,slD_l,ne_eq,not_false_eq_true,not_true_eq_false,gBM,isTy_l,isTy_s,new_at,new_set,isTy_new,cellK_new,append_new,popAt_new,gFrz_eq,frzK_new,fLen_new,fTuple_new,ixD_new,slA_l,slA_t,slA_new,addTD_t,addCD_l,mulCD_l,isbD_b,isnotbD_b,mSplitC_s,gLstC,gTr,ggSub,lstK_l,lstK_r,addLD_eq] using q
  · obtain ⟨k0, n, t, rfl⟩ := row_form (h x hx)
    have e1 : kindIs s (.tup [.str k0, n, t]) = decide (k0 = s) := rfl
    rw [e1] at hA hB
    simp! only [id_eq]
    cases hd : decide (k0 = s) with
    | true => exact hA hd
    | false => exact hB hd
theorem ok_rows_by {P : Program} {w : World} {K : PySem.W.Frag} {mg : Str → Option Value} {base : Heap} (T : DefAt K mg "rows_by" s_rows_by ["rows", "kind"]) (B : Blt mg) : FnAt P w K mg base CX0 1 "rows_by" 2 sp_rows_by := (w_rows_by T B ).imp v_rows_by

def sp_is_rows : GF := fun ds w _ k => ∃ x : D, ds = [x] ∧ anyD w.M x = true ∧ k (.bl (rowsB x)) w
abbrev s_is_rows : Stmt := topS 17
theorem sc_is_rows : FnScope ["thing", "row"] ["thing"] (defScope s_is_rows) := ⟨rfl, rfl, rfl, by decide +kernel, rfl, by decide +kernel, by decide +kernel⟩
def g_is_rows : GS := (gSeq (gIfS (gOr (gNot (gTru (gCB fIsi (gaCons (gVar 0) (gaCons (gC (.ob (.ty "tuple"))) gaNil))))) (gOr (gB (gBin gtD (gCB fLen (gaCons (gVar 0) gaNil)) (gC (.int (8))))) (gNot (gTru (gCB fAll (gaCons (gLc (giSeq (gVar 0)) (ggName 1) gYes (gCall0 1 sp_is_row (gaCons (gVar 1) gaNil)) [1]) gaNil)))))) (gRet (gC (.bl false))) gNext)
  (gRet (gBin leD (gCB fLen (gaCons (gCall0 2 sp_rows_by (gaCons (gVar 0) (gaCons (gC (.str "left")) gaNil))) gaNil)) (gC (.int (3))))))
theorem w_is_rows {P : Program} {w : World} {K : PySem.W.Frag} {mg : Str → Option Value} {base : Heap} (T : DefAt K mg "is_rows" s_is_rows ["thing"]) (B : Blt mg) (F_rows_by : FnAt P w K mg base CX0 1 "rows_by" 2 sp_rows_by) (F_is_row : FnAt P w K mg base CX0 6 "is_row" 1 sp_is_row) {t_MOST_LEFT : Tok} (c_MOST_LEFT : mg "MOST_LEFT" = some (.int (3) t_MOST_LEFT)) {t_MOST_ROWS : Tok} (c_MOST_ROWS : mg "MOST_ROWS" = some (.int (8) t_MOST_ROWS)) : FnAt P w K mg base CX0 7 "is_rows" 1 (sem0 2 g_is_rows) := by
  have nd := sc_is_rows.nd
  exact T.fn0 sc_is_rows (fun f cdv A outer s H E hr => (dss_cons (ds_if (dt_w (dw_or (dt_not (dt_truth (de_isi B (by rfl) (da_cons (de_var 0) (da_cons (de_type (by rfl) B.tuple_ (by decide +kernel)) da_nil))))) (dw_or (dt_gt (de_len B (by rfl) (da_cons (de_var 0) da_nil)) (de_gint (by rfl) c_MOST_ROWS)) (dw_or1 (dt_not (dt_truth (de_all B rfl (by rfl) (da_cons (de_lc (own := [("row", 1)]) (us := [1]) rfl nd (di_seq (de_var 0)) (blkOk_by (N := ["thing", "row"]) (sc := defScope s_is_rows) (by decide +kernel)) (by decide) (fun _ _ _ _ _ => (dg_name (i := 1) nd rfl (by first | exact Or.inl rfl | exact Or.inr rfl))) (fun _ _ _ _ _ => dts_nil) (fun _ _ _ _ _ => (de_call0 F_is_row hr (by rfl) (da_cons (de_var 1) da_nil)))) da_nil)))))))) (dss_one (ds_ret de_bl)) dss_nil)
  (dss_one (ds_ret (de_le (de_len B (by rfl) (da_cons (de_call0 F_rows_by hr (by rfl) (da_cons (de_var 0) (da_cons de_str da_nil))) da_nil)) (de_gint (by rfl) c_MOST_LEFT))))))

theorem rows_all {gt : GG} {ge : GE} {ρ : Rho} {w : Wd} {k : KD} {xs : List D} (hl : xs.length ≤ 1000) (h : ∀ x ∈ xs, ∀ k' : KD, k' (.bl (rowB x)) w → gt x ρ w fun ρ1 w1 => ge ρ1 w1 noX k') (hk : k (.bl (xs.all rowB)) w) :
    ∃ P : List D → List D → Wd → Prop, P xs [] w ∧ LcS gt gYes ge (fun _ => True) ρ (fun x w1 => fAll [x] w1 k) P := by
  have q := lc_ty (gt := gt) (ge := ge) (Ok := fun _ => True) (ρ := ρ) (k := fun x w1 => fAll [x] w1 k) (w := w) id (fun x => .bl (rowB x)) xs trivial (by omega) (fun x hx k' hk' => h x hx k' hk') (all_map hk)
  rw [List.map_id] at q
  exact q
theorem v_is_rows : ∀ ds w kx k, sp_is_rows ds w kx k → sem0 2 g_is_rows ds w kx k := by
  rintro ds w kx k ⟨x, rfl, h, hk⟩
  have e : rho 2 [x] = [some x, none] := rfl
  simp! only [g_is_rows, e, isi_tup h, sp_is_row, sp_rows_by]
  cases x with
  | tup xs =>
    obtain ⟨ha, hl⟩ := any_tup h
    have e1 : rowsB (.tup xs) = (decide (xs.length ≤ 8) && xs.all rowB && decide ((xs.filter (kindIs "left")).length ≤ 3)) := rfl
    rw [e1] at hk
    simp! only [isT]
    by_cases h8 : xs.length ≤ 8
    · rw [decide_eq_false (show ¬ (xs.length : Int) > 8 by omega)]
      rw [decide_eq_true h8, Bool.true_and] at hk
      simp! only [id_eq]
      refine rows_all hl (fun x hx k' hk' => ?_) ?_
      · simp! only [id_eq]
        exact ⟨x, rfl, ha x hx, hk'⟩
      cases hb : xs.all rowB with
      | false =>
        rw [hb, Bool.false_and] at hk
        simp! only [id_eq]
        exact hk
      | true =>
        rw [hb, Bool.true_and] at hk
        rw [List.all_eq_true] at hb
        simp! only [id_eq]
        refine ⟨xs, "left", rfl, ⟨hb, hl⟩, ?_⟩
        have l2 : (xs.filter (kindIs "left")).length ≤ xs.length := List.length_filter_le _ _
        have e2 : decide (((xs.filter (kindIs "left")).length : Int) ≤ 3) = decide ((xs.filter (kindIs "left")).length ≤ 3) := decide_eq_decide.mpr (by omega)
        rw [e2]
        exact hk
    · rw [decide_eq_true (show (xs.length : Int) > 8 by omega)]
      rw [decide_eq_false h8, Bool.false_and, Bool.false_and] at hk
      simp! only [id_eq]
      exact hk
  | _ => simp! only [isT]; exact hk
theorem ok_is_rows {P : Program} {w : World} {K : PySem.W.Frag} {mg : Str → Option Value} {base : Heap} (T : DefAt K mg "is_rows" s_is_rows ["thing"]) (B : Blt mg) (F_rows_by : FnAt P w K mg base CX0 1 "rows_by" 2 sp_rows_by) (F_is_row : FnAt P w K mg base CX0 6 "is_row" 1 sp_is_row) {t_MOST_LEFT : Tok} (c_MOST_LEFT : mg "MOST_LEFT" = some (.int (3) t_MOST_LEFT)) {t_MOST_ROWS : Tok} (c_MOST_ROWS : mg "MOST_ROWS" = some (.int (8) t_MOST_ROWS)) : FnAt P w K mg base CX0 7 "is_rows" 1 sp_is_rows := (w_is_rows T B F_rows_by F_is_row c_MOST_LEFT c_MOST_ROWS).imp v_is_rows


end LW

namespace LW
open PySem PySem.Spec PyProof.Rows L2 RZ DL


def pairP : D → Bool
  | .tup [_, p] => partB p
  | _ => false
def fst1 : D → D
  | .tup (u :: _) => u
  | _ => .non
theorem pairP_form {x : D} (h : pairP x = true) : ∃ u p, x = .tup [u, p] ∧ partB p = true := by
  unfold pairP at h
  split at h
  · exact ⟨_, _, rfl, h⟩
  · cases h
theorem pair_len {xs : List D} (h : ¬ (xs.length : Int) = 2) : pairP (.tup xs) = false := by
  unfold pairP
  split
  · rename_i e
    injection e with e
    subst e
    exact absurd rfl h
  · rfl
theorem rate_no {a : Int} {b : Bool} {x : D} (h : pairP x = false) : rateB a b x = false := by
  unfold rateB
  unfold pairP at h
  split
  · have h : partB _ = false := h
    rw [h]
    rfl
  · rfl
theorem go_no : ∀ {xs : List D} {a : Int}, xs.all pairP = false → goB a xs = false
  | [], _, h => by cases h
  | [x], a, h => by
    rw [List.all_cons, List.all_nil, Bool.and_true] at h
    exact rate_no h
  | x :: y :: r, a, h => by
    rw [goB]
    rw [List.all_cons] at h
    cases hp : pairP x with
    | false => rw [rate_no hp, Bool.false_and]
    | true =>
      rw [hp, Bool.true_and] at h
      rw [go_no h, Bool.and_false]
def upsB (us : List D) : Bool := isNonD (us.getLast?.getD .non) && (us.dropLast.all (numB 1 1000000)) && (List.zipWith (fun x y => (match x, y with | .int a, .int b => decide (a < b) | _, _ => false)) us.dropLast (us.dropLast.drop 1)).all id
theorem rate_okF {a : Int} {u p : D} (h : partB p = true) : rateB a false (.tup [u, p]) = numB (a + 1) 1000000 u := by
  rw [rate_pair, h, Bool.true_and]
  rfl
theorem rate_okT {a : Int} {u p : D} (h : partB p = true) : rateB a true (.tup [u, p]) = isNonD u := by
  rw [rate_pair, h, Bool.true_and]
  rfl
theorem num_lt {a : Int} {u : D} (h : 0 ≤ a) : numB (a + 1) 1000000 u = (numB 1 1000000 u && (match u with | .int i => decide (a < i) | _ => false)) := by
  cases u with
  | int i =>
    simp only [numB]
    by_cases q : a < i
    · rw [decide_eq_true q, decide_eq_true (show a + 1 ≤ i by omega), decide_eq_true (show 1 ≤ i by omega), Bool.and_true]
    · rw [decide_eq_false q, decide_eq_false (show ¬ a + 1 ≤ i by omega), Bool.false_and, Bool.and_false]
  | _ => rfl
theorem num_first {u : D} : numB (0 + 1) 1000000 u = numB 1 1000000 u := rfl
theorem go_ups {xs : List D} (h2 : 2 ≤ xs.length) (h4 : xs.length ≤ 4) (h : ∀ x ∈ xs, pairP x = true) : goB 0 xs = upsB (xs.map fst1) := by
  match xs with
  | [x1, x2] =>
    obtain ⟨u1, p1, rfl, q1⟩ := pairP_form (h x1 (by simp))
    obtain ⟨u2, p2, rfl, q2⟩ := pairP_form (h x2 (by simp))
    simp only [goB, rate_okF q1, rate_okT q2, num_first]
    simp [upsB, fst1, Bool.and_comm]
  | [x1, x2, x3] =>
    obtain ⟨u1, p1, rfl, q1⟩ := pairP_form (h x1 (by simp))
    obtain ⟨u2, p2, rfl, q2⟩ := pairP_form (h x2 (by simp))
    obtain ⟨u3, p3, rfl, q3⟩ := pairP_form (h x3 (by simp))
    simp only [goB, rate_okF q1, rate_okF q2, rate_okT q3, num_first]
    cases n1 : numB 1 1000000 u1 with
    | false => simp [upsB, fst1, n1]
    | true =>
      obtain ⟨i, rfl, i1, i2⟩ := num_i n1
      have e : upto (.tup [.int i, p1]) = i := rfl
      rw [e, num_lt (by omega)]
      cases n2 : numB 1 1000000 u2 with
      | false => simp [upsB, fst1, n2]
      | true =>
        obtain ⟨j, rfl, j1, j2⟩ := num_i n2
        have m1 : numB 1 1000000 (.int i) = true := n1
        have m2 : numB 1 1000000 (.int j) = true := n2
        simp only [upsB, fst1, List.map_cons, List.map_nil, List.getLast?_cons_cons, List.getLast?_singleton, Option.getD_some, List.dropLast_cons₂, List.dropLast_singleton, List.all_cons, List.all_nil, m1, m2, List.drop_succ_cons, List.drop_zero, List.zipWith_cons_cons, List.zipWith_nil_right, id_eq, Bool.and_true, Bool.true_and]
        cases isNonD u3 <;> simp [Bool.and_comm]
  | [x1, x2, x3, x4] =>
    obtain ⟨u1, p1, rfl, q1⟩ := pairP_form (h x1 (by simp))
    obtain ⟨u2, p2, rfl, q2⟩ := pairP_form (h x2 (by simp))
    obtain ⟨u3, p3, rfl, q3⟩ := pairP_form (h x3 (by simp))
    obtain ⟨u4, p4, rfl, q4⟩ := pairP_form (h x4 (by simp))
    simp only [goB, rate_okF q1, rate_okF q2, rate_okF q3, rate_okT q4, num_first]
    cases n1 : numB 1 1000000 u1 with
    | false => simp [upsB, fst1, n1]
    | true =>
      obtain ⟨i, rfl, i1, i2⟩ := num_i n1
      have e : upto (.tup [.int i, p1]) = i := rfl
      rw [e, num_lt (by omega)]
      cases n2 : numB 1 1000000 u2 with
      | false => simp [upsB, fst1, n2]
      | true =>
        obtain ⟨j, rfl, j1, j2⟩ := num_i n2
        have e : upto (.tup [.int j, p2]) = j := rfl
        rw [e, num_lt (by omega)]
        cases n3 : numB 1 1000000 u3 with
        | false => simp [upsB, fst1, n3]
        | true =>
          obtain ⟨l, rfl, l1, l2⟩ := num_i n3
          have m1 : numB 1 1000000 (.int i) = true := n1
          have m2 : numB 1 1000000 (.int j) = true := n2
          have m3 : numB 1 1000000 (.int l) = true := n3
          simp only [upsB, fst1, List.map_cons, List.map_nil, List.getLast?_cons_cons, List.getLast?_singleton, Option.getD_some, List.dropLast_cons₂, List.dropLast_singleton, List.all_cons, List.all_nil, m1, m2, m3, List.drop_succ_cons, List.drop_zero, List.zipWith_cons_cons, List.zipWith_nil_right, id_eq, Bool.and_true, Bool.true_and]
          cases isNonD u4 <;> simp [Bool.and_comm]
  | [] => simp at h2
  | [_] => simp at h2
  | _ :: _ :: _ :: _ :: _ :: _ => simp at h4

end LW

namespace LW
open PySem PySem.Spec PyProof.Rows L2 RZ DL
local macro_rules | `(tactic| simp! only [$xs,*] $[$loc]?) => `(tactic| simp only [$xs,*, sem0,List.map_cons,List.map_nil,List.length_cons,List.length_nil,gSeq,gNext,gRet,gRetN,gIfS,gSet,gPar,gAsg,gDrop,gVar,gC,gBin,gUn,gB,gTru,gAnd,gOr,gNot,gAndV,gOrV,gNotV,gIf,gChain,gaNil,gaCons,DL.gTup,DL.gLst,gCB,gCall0,gAug,addD_i,addD_s,addD_l,addD_t,subD_i,mulD_i,mulD_l,fdivD_i,modD_i,powD_i,ltD_i,ltD_s,leD_i,gtD_i,geD_i,isD_n,isnotD_n,isNonD_non,isNonD_bl,isNonD_int,isNonD_str,isNonD_lst,isNonD_tup,negD_i,iaddD_i,truD_non,truD_bl,truD_int,truD_str,truD_lst,truD_tup,someK_some,ixD_l,ixD_t,fAbs_i,fInt_i,fInt_b,fMin2_i,fLen_l,fLen_t,fLen_s,fList_l,fList_t,fTuple_l,fTuple_t,optBK_some,fIsi_non,fIsi_bl,fIsi_int,fIsi_str,fIsi_lst,fIsi_tup,List.getElem?_cons_zero,List.getElem?_cons_succ,List.set_cons_zero,List.set_cons_succ,DL.ggName,ggNil0,ggCons1,ggTup2,ggTup3,gFor,giSeq,gLc,gYes,wipeR,true_and,and_true,at_0,at_1,at_2,kit_int_int,kit_bool_int,kit_str_int,kit_non_int,kit_list_int,kit_tuple_int,kit_int_bool,kit_bool_bool,kit_str_bool,kit_non_bool,kit_list_bool,kit_tuple_bool,kit_int_str,kit_bool_str,kit_str_str,kit_non_str,kit_list_str,kit_tuple_str,kit_int_list,kit_bool_list,kit_str_list,kit_non_list,kit_list_list,kit_tuple_list,kit_int_tuple,kit_bool_tuple,kit_str_tuple,kit_non_tuple,kit_list_tuple,kit_tuple_tuple,eqD_i,neD_i,eqD_s,neD_s,eqD_f,neD_f,Nat.zero_add,Nat.reduceAdd,nc0,nc1,nc2,nc3,nc4,nc5,nc6,nc7,nc8,nc9,eq_self,decide_true,decide_false,Int.reduceEq,Int.reduceLT,Int.reduceLE,Int.reduceNeg,Bool.not_true,Bool.not_false,Bool.false_eq_true,if_true,if_false,↓reduceIte,false_and,and_false,List.all_cons,List.all_nil,List.any_cons,List.any_nil,id_eq,Bool.and_true,Bool.true_and,Bool.or_false,Bool.false_or,Bool.and_false,Bool.false_and,gCut,eqD_b,neD_b,giZip,reduceCtorEq,Bool.true_eq_false,Bool.false_eq_true,gRevL,gSl,goNone,goSome,slD_l,ne_eq,not_false_eq_true,not_true_eq_false,gBM,isTy_l,isTy_s,new_at,new_set,isTy_new,cellK_new,append_new,popAt_new,gFrz_eq,frzK_new,fLen_new,fTuple_new,ixD_new,slA_l,slA_t,slA_new,addTD_t,addCD_l,mulCD_l,isbD_b,isnotbD_b,mSplitC_s,gLstC,gTr,ggSub,lstK_l,lstK_r,addLD_eq] $[$loc]?)


theorem cut_mid {α : Type} (xs : List α) (v : α) : DL.cutD (xs ++ [v]) (some 1) (some (-1)) = xs.drop 1 := by
  unfold DL.cutD
  have e2 : HT.sIx (xs ++ [v]).length (xs ++ [v]).length (some (-1)) = xs.length := by
    show (if (-1 : Int) < 0 then ((-1 : Int) + ((xs ++ [v]).length : Int)).toNat else min (-1 : Int).toNat (xs ++ [v]).length) = _
    rw [if_pos (by decide), List.length_append, List.length_singleton]
    omega
  have e1 : HT.sIx (xs ++ [v]).length 0 (some 1) = 1 := by
    have q := HT.sIx_nat (xs ++ [v]).length 0 1
    rw [show (some ((1 : Nat) : Int)) = some (1 : Int) from rfl] at q
    rw [q, List.length_append, List.length_singleton]
    omega
  rw [e1, e2]
  cases xs with
  | nil => rfl
  | cons x xs =>
    show ((xs ++ [v]).take (xs.length + 1 - 1)) = xs
    rw [Nat.add_sub_cancel, List.take_left]
theorem zip_init {α β γ : Type} (f : α → β → γ) : ∀ (xs : List α) (v : α) (ys : List β), ys.length ≤ xs.length → List.zipWith f (xs ++ [v]) ys = List.zipWith f xs ys
  | xs, v, [], _ => by simp
  | [], v, y :: ys, h => by simp at h
  | x :: xs, v, y :: ys, h => by
    rw [List.cons_append, List.zipWith_cons_cons, List.zipWith_cons_cons, zip_init f xs v ys (by simpa using h)]
theorem ints_of : ∀ {us : List D}, us.all (numB 1 1000000) = true → ∃ is : List Int, us = is.map D.int
  | [], _ => ⟨[], rfl⟩
  | u :: us, h => by
    rw [List.all_cons, Bool.and_eq_true] at h
    obtain ⟨i, rfl, _⟩ := num_i h.1
    obtain ⟨is, rfl⟩ := ints_of h.2
    exact ⟨i :: is, rfl⟩
theorem zip_ints (is js : List Int) : zipD (is.map D.int) (js.map D.int) = (is.zip js).map fun p => .tup [.int p.1, .int p.2] := by
  unfold zipD
  induction is generalizing js with
  | nil => rfl
  | cons i is ih =>
    cases js with
    | nil => rfl
    | cons j js =>
      rw [List.map_cons, List.map_cons, List.zipWith_cons_cons, ih, List.zip_cons_cons, List.map_cons]
theorem all_zip (is js : List Int) : (List.zipWith (fun x y => (match x, y with | .int a, .int b => decide (a < b) | _, _ => false)) (is.map D.int) (js.map D.int)).all id = (is.zip js).all fun p => decide (p.1 < p.2) := by
  induction is generalizing js with
  | nil => rfl
  | cons i is ih =>
    cases js with
    | nil => rfl
    | cons j js =>
      rw [List.map_cons, List.map_cons, List.zipWith_cons_cons, List.all_cons, ih, List.zip_cons_cons, List.all_cons]
      rfl
theorem notin234 {n : Nat} {w : Wd} {k : KD} (hk : k (.bl (!(decide (2 ≤ n) && decide (n ≤ 4)))) w) : notinCD (.int n) (.tup [.int 2, .int 3, .int 4]) w k := by
  refine ⟨[2, 3, 4], rfl, ?_⟩
  have e : decide ((n : Int) ∈ ([2, 3, 4] : List Int)) = (decide (2 ≤ n) && decide (n ≤ 4)) := by
    rw [Bool.eq_iff_iff, Bool.and_eq_true, decide_eq_true_iff, decide_eq_true_iff, decide_eq_true_iff]
    simp only [List.mem_cons, List.not_mem_nil, or_false]
    omega
  rw [e]
  exact hk
def sp__law_are_rates : GF := fun ds w _ k => ∃ x : D, ds = [x] ∧ anyD w.M x = true ∧ k (.bl (ratesB x)) w
abbrev s__law_are_rates : Stmt := topS 30
theorem sc__law_are_rates : FnScope ["_law_thing", "_law_uptos", "_law_rate", "_law_one", "_law_other", "_law_upto"] ["_law_thing"] (defScope s__law_are_rates) := ⟨rfl, rfl, rfl, by decide +kernel, rfl, by decide +kernel, by decide +kernel⟩
def g__law_are_rates : GS := (gSeq (gIfS (gOr (gNot (gTru (gCB fIsi (gaCons (gVar 0) (gaCons (gC (.ob (.ty "tuple"))) gaNil))))) (gB (gBin notinCD (gCB fLen (gaCons (gVar 0) gaNil)) (gTup (gaCons (gC (.int 2)) (gaCons (gC (.int 3)) (gaCons (gC (.int 4)) gaNil))))))) (gRet (gC (.bl false))) gNext)
  (gSeq (gIfS (gNot (gTru (gCB fAll (gaCons (gLc (giSeq (gVar 0)) (ggName 2) gYes (gAndV (gCB fIsi (gaCons (gVar 2) (gaCons (gC (.ob (.ty "tuple"))) gaNil))) (gAndV (gBin eqD (gCB fLen (gaCons (gVar 2) gaNil)) (gC (.int 2))) (gCall0 1 sp__law_is_part (gaCons (gBin ixD (gVar 2) (gC (.int 1))) gaNil)))) [2]) gaNil)))) (gRet (gC (.bl false))) gNext)
  (gSeq (gSet 1 (gLc (giSeq (gVar 0)) (ggName 2) gYes (gBin ixD (gVar 2) (gC (.int 0))) [2]))
  (gSeq (gIfS (gOr (gB (gBin isnotD (gBin ixD (gVar 1) (gUn negD (gC (.int 1)))) (gC .non))) (gNot (gTru (gCB fAll (gaCons (gLc (giSeq (gSl slA (gVar 1) goNone (goSome (gUn negD (gC (.int 1)))))) (ggName 5) gYes (gCall0 3 sp__law_whole (gaCons (gVar 5) (gaCons (gC (.int 1)) (gaCons (gBin powD (gC (.int 10)) (gC (.int 6))) gaNil)))) [5]) gaNil))))) (gRet (gC (.bl false))) gNext)
  (gRet (gCB fAll (gaCons (gLc (giZip (gaCons (gVar 1) (gaCons (gSl slA (gVar 1) (goSome (gC (.int 1))) (goSome (gUn negD (gC (.int 1))))) gaNil))) (ggTup 2 (ggCons (ggName 3) (ggCons (ggName 4) ggNil))) gYes (gBin ltD (gVar 3) (gVar 4)) [3, 4]) gaNil)))))))
theorem w__law_are_rates {P : Program} {w : World} {K : PySem.W.Frag} {mg : Str → Option Value} {base : Heap} (T : DefAt K mg "_law_are_rates" s__law_are_rates ["_law_thing"]) (B : Blt mg) (F__law_is_part : FnAt P w K mg base CX0 2 "_law_is_part" 1 sp__law_is_part) (F__law_whole : FnAt P w K mg base CX0 1 "_law_whole" 3 sp__law_whole) : FnAt P w K mg base CX0 3 "_law_are_rates" 1 (sem0 6 g__law_are_rates) := by
  have nd := sc__law_are_rates.nd
  exact T.fn0 sc__law_are_rates (fun f cdv A outer s H E hr => (dss_cons (ds_if (dt_w (dw_or (dt_not (dt_truth (de_isi B (by rfl) (da_cons (de_var 0) (da_cons (de_type (by rfl) B.tuple_ (by decide +kernel)) da_nil))))) (dw_or1 (dt_notinC hr (de_len B (by rfl) (da_cons (de_var 0) da_nil)) (de_tup (da_cons de_int (da_cons de_int (da_cons de_int da_nil)))))))) (dss_one (ds_ret de_bl)) dss_nil)
  (dss_cons (ds_if (dt_not (dt_truth (de_all B rfl (by rfl) (da_cons (de_lc (own := [("_law_rate", 2)]) (us := [2]) rfl nd (di_seq (de_var 0)) (blkOk_by (N := ["_law_thing", "_law_uptos", "_law_rate", "_law_one", "_law_other", "_law_upto"]) (sc := defScope s__law_are_rates) (by decide +kernel)) (by decide) (fun _ _ _ _ _ => (dg_name (i := 2) nd rfl (by first | exact Or.inl rfl | exact Or.inr rfl))) (fun _ _ _ _ _ => dts_nil) (fun _ _ _ _ _ => (de_and (de_isi B (by rfl) (da_cons (de_var 2) (da_cons (de_type (by rfl) B.tuple_ (by decide +kernel)) da_nil))) (de_and (de_eq hr (de_len B (by rfl) (da_cons (de_var 2) da_nil)) de_int) (de_one (de_call0 F__law_is_part hr (by rfl) (da_cons (de_ix (de_var 2) de_int) da_nil))))))) da_nil)))) (dss_one (ds_ret de_bl)) dss_nil)
  (dss_cons (ds_setLc (i := 1) (own := [("_law_rate", 2)]) (us := [2]) rfl nd rfl rfl (sw_true rfl rfl rfl (by decide +kernel)) (di_seq (de_var 0)) (blkOk_by (N := ["_law_thing", "_law_uptos", "_law_rate", "_law_one", "_law_other", "_law_upto"]) (sc := defScope s__law_are_rates) (by decide +kernel)) (by decide) (fun _ _ _ _ _ => (dg_name (i := 2) nd rfl (by first | exact Or.inl rfl | exact Or.inr rfl))) (fun _ _ _ _ _ => dts_nil) (fun _ _ _ _ _ => (de_ix (de_var 2) de_int)))
  (dss_cons (ds_if (dt_w (dw_or (dt_isnot (de_ix (de_var 1) (de_neg de_int)) de_non) (dw_or1 (dt_not (dt_truth (de_all B rfl (by rfl) (da_cons (de_lc (own := [("_law_upto", 5)]) (us := [5]) rfl nd (di_seq (de_slA (de_var 1) do_none (do_some (de_neg de_int)))) (blkOk_by (N := ["_law_thing", "_law_uptos", "_law_rate", "_law_one", "_law_other", "_law_upto"]) (sc := defScope s__law_are_rates) (by decide +kernel)) (by decide) (fun _ _ _ _ _ => (dg_name (i := 5) nd rfl (by first | exact Or.inl rfl | exact Or.inr rfl))) (fun _ _ _ _ _ => dts_nil) (fun _ _ _ _ _ => (de_call0 F__law_whole hr (by rfl) (da_cons (de_var 5) (da_cons de_int (da_cons (de_pow de_int de_int) da_nil)))))) da_nil))))))) (dss_one (ds_ret de_bl)) dss_nil)
  (dss_one (ds_ret (de_all B rfl (by rfl) (da_cons (de_lc (own := [("_law_one", 3), ("_law_other", 4)]) (us := [3, 4]) rfl nd (di_zip B (by rfl) (da_cons (de_var 1) (da_cons (de_slA (de_var 1) (do_some de_int) (do_some (de_neg de_int))) da_nil))) (blkOk_by (N := ["_law_thing", "_law_uptos", "_law_rate", "_law_one", "_law_other", "_law_upto"]) (sc := defScope s__law_are_rates) (by decide +kernel)) (by decide) (fun _ _ _ _ _ => (dg_tup rfl (dgs_cons (dg_name (i := 3) nd rfl (by first | exact Or.inl rfl | exact Or.inr rfl)) (dgs_cons (dg_name (i := 4) nd rfl (by first | exact Or.inl rfl | exact Or.inr rfl)) dgs_nil)))) (fun _ _ _ _ _ => dts_nil) (fun _ _ _ _ _ => (de_lt (de_var 3) (de_var 4)))) da_nil)))))))))

theorem v__law_are_rates : ∀ ds w kx k, sp__law_are_rates ds w kx k → sem0 6 g__law_are_rates ds w kx k := by
  rintro ds w kx k ⟨x, rfl, h, hk⟩
  have e : rho 6 [x] = [some x, none, none, none, none, none] := rfl
  simp! only [g__law_are_rates, e, isi_tup h, sp__law_is_part, sp__law_whole]
  cases x with
  | tup xs =>
    obtain ⟨ha, hl⟩ := any_tup h
    have e1 : ratesB (.tup xs) = (decide (2 ≤ xs.length) && decide (xs.length ≤ 4) && goB 0 xs) := rfl
    rw [e1] at hk
    simp! only [isT]
    refine ⟨by decide, notin234 ?_⟩
    cases hd : decide (2 ≤ xs.length) && decide (xs.length ≤ 4) with
    | false =>
      rw [hd, Bool.false_and] at hk
      simp! only [id_eq]
      exact hk
    | true =>
      rw [hd, Bool.true_and] at hk
      rw [Bool.and_eq_true, decide_eq_true_eq, decide_eq_true_eq] at hd
      simp! only [id_eq]
      have q := fun (K : KD) (hK : K (.bl (xs.all pairP)) w) => lc_ty (gt := DL.ggName 2) (ge := gAndV (gCB fIsi (gaCons (gVar 2) (gaCons (gC (.ob (.ty "tuple"))) gaNil))) (gAndV (gBin eqD (gCB fLen (gaCons (gVar 2) gaNil)) (gC (.int 2))) (gCall0 1 sp__law_is_part (gaCons (gBin ixD (gVar 2) (gC (.int 1))) gaNil)))) (Ok := fun _ => True) (ρ := [some (.tup xs), none, none, none, none, none]) (k := fun x w1 => fAll [x] w1 K) (w := w) id (fun x => .bl (pairP x)) xs trivial (by omega) (fun x hx k' hk' => by
        have hx2 := ha x hx
        simp! only [id_eq]
        rw [isi_tup hx2]
        cases x with
        | tup zs =>
          simp! only [isT]
          by_cases h2 : (zs.length : Int) = 2
          · rw [decide_eq_true h2]
            obtain ⟨u, p, rfl⟩ := two_of h2
            simp! only [sp__law_is_part]
            exact ⟨p, rfl, (any_tup hx2).1 p (by simp), hk'⟩
          · rw [decide_eq_false h2]
            rw [pair_len h2] at hk'
            simp! only [id_eq]
            exact hk'
        | _ => simp! only [isT]; exact hk') (all_map hK)
      rw [List.map_id] at q
      refine q _ ?_
      cases hp : xs.all pairP with
      | false =>
        rw [go_no hp] at hk
        simp! only [id_eq]
        exact hk
      | true =>
        rw [List.all_eq_true] at hp
        rw [go_ups hd.1 hd.2 hp] at hk
        simp! only [id_eq]
        have q2 := fun (K : KD) (hK : K (.lst (xs.map fst1)) w) => lc_ty (gt := DL.ggName 2) (ge := gBin ixD (gVar 2) (gC (.int 0))) (Ok := fun _ => True) (ρ := [some (.tup xs), none, none, none, none, none]) (k := K) (w := w) id fst1 xs trivial (by omega) (fun x hx k' hk' => by
          obtain ⟨u, p, rfl, _⟩ := pairP_form (hp x hx)
          simp! only [id_eq]
          exact hk') hK
        rw [List.map_id] at q2
        refine q2 _ ?_
        obtain ⟨us, v, e2⟩ := split_last (xs := xs.map fst1) (by rw [List.length_map]; omega)
        have au : ∀ u ∈ us, anyD w.M u = true := fun u hu => by
          have : u ∈ xs.map fst1 := by rw [e2]; exact List.mem_append_left _ hu
          obtain ⟨x, hx, rfl⟩ := List.mem_map.mp this
          obtain ⟨u, p, rfl, _⟩ := pairP_form (hp x hx)
          exact (any_tup (ha _ hx)).1 u (by simp)
        have lu : us.length ≤ 3 := by
          have := congrArg List.length e2
          rw [List.length_map, List.length_append, List.length_singleton] at this
          omega
        rw [e2] at hk ⊢
        have e3 : upsB (us ++ [v]) = (isNonD v && us.all (numB 1 1000000) && (List.zipWith (fun x y => (match x, y with | .int a, .int b => decide (a < b) | _, _ => false)) us (us.drop 1)).all id) := by
          unfold upsB
          rw [List.dropLast_concat, List.getLast?_concat]
          rfl
        rw [e3] at hk
        simp! only [at_last1, cut_init, cut_mid]
        cases hv : isNonD v with
        | false =>
          rw [hv, Bool.false_and, Bool.false_and] at hk
          simp! only [id_eq]
          exact hk
        | true =>
          rw [hv, Bool.true_and] at hk
          simp! only [id_eq]
          have q3 := fun (K : KD) (r1 r2 : Option D) (hK : K (.bl (us.all (numB 1 1000000))) w) => lc_ty (gt := DL.ggName 5) (ge := gCall0 3 sp__law_whole (gaCons (gVar 5) (gaCons (gC (.int 1)) (gaCons (gBin powD (gC (.int 10)) (gC (.int 6))) gaNil)))) (Ok := fun _ => True) (ρ := [some (.tup xs), some (.lst (us ++ [v])), r1, none, none, none]) (k := fun x w1 => fAll [x] w1 K) (w := w) id (fun x => .bl (numB 1 1000000 x)) us trivial (by omega) (fun x hx k' hk' => by
            simp! only [sp__law_whole]
            exact ⟨⟨by decide, by decide, by decide⟩, x, 1, 1000000, rfl, au x hx, hk'⟩) (all_map hK)
          rw [List.map_id] at q3
          refine q3 _ _ none ?_
          cases hu : us.all (numB 1 1000000) with
          | false =>
            rw [hu, Bool.false_and] at hk
            simp! only [id_eq]
            exact hk
          | true =>
            rw [hu, Bool.true_and] at hk
            obtain ⟨is, rfl⟩ := ints_of hu
            simp! only [id_eq]
            have z1 : zipD (is.map D.int ++ [v]) ((is.map D.int).drop 1) = (is.zip (is.drop 1)).map fun p => .tup [.int p.1, .int p.2] := by
              have : zipD (is.map D.int ++ [v]) ((is.map D.int).drop 1) = zipD (is.map D.int) ((is.map D.int).drop 1) := zip_init _ _ _ _ (by rw [List.length_drop]; omega)
              rw [this, ← List.map_drop, zip_ints]
            rw [← List.map_drop, all_zip] at hk
            rw [z1]
            have l3 : (is.zip (is.drop 1)).length ≤ 3 := by
              rw [List.length_zip]
              rw [List.length_map] at lu
              omega
            refine lc_ty (fun p : Int × Int => .tup [.int p.1, .int p.2]) (fun p => .bl (decide (p.1 < p.2))) (is.zip (is.drop 1)) trivial (by omega) (fun p hp k' hk' => ?_) (all_map hk)
            simp! only [id_eq]
            exact hk'
  | _ => simp! only [isT]; exact hk
theorem ok__law_are_rates {P : Program} {w : World} {K : PySem.W.Frag} {mg : Str → Option Value} {base : Heap} (T : DefAt K mg "_law_are_rates" s__law_are_rates ["_law_thing"]) (B : Blt mg) (F__law_is_part : FnAt P w K mg base CX0 2 "_law_is_part" 1 sp__law_is_part) (F__law_whole : FnAt P w K mg base CX0 1 "_law_whole" 3 sp__law_whole) : FnAt P w K mg base CX0 3 "_law_are_rates" 1 sp__law_are_rates := (w__law_are_rates T B F__law_is_part F__law_whole).imp v__law_are_rates

def sp__law_is_row : GF := fun ds w _ k => ∃ x : D, ds = [x] ∧ anyD w.M x = true ∧ k (.bl (rowB x)) w
abbrev s__law_is_row : Stmt := topS 31
theorem sc__law_is_row : FnScope ["_law_thing", "_law_sign"] ["_law_thing"] (defScope s__law_is_row) := ⟨rfl, rfl, rfl, by decide +kernel, rfl, by decide +kernel, by decide +kernel⟩
def g__law_is_row : GS := (gSeq (gIfS (gOr (gNot (gTru (gCB fIsi (gaCons (gVar 0) (gaCons (gC (.ob (.ty "tuple"))) gaNil))))) (gB (gBin neD (gCB fLen (gaCons (gVar 0) gaNil)) (gC (.int 3))))) (gRet (gC (.bl false))) gNext)
  (gSeq (gIfS (gOr (gNot (gTru (gCB fIsi (gaCons (gBin ixD (gVar 0) (gC (.int 0))) (gaCons (gC (.ob (.ty "str"))) gaNil))))) (gNot (gTru (gCB fIsi (gaCons (gBin ixD (gVar 0) (gC (.int 1))) (gaCons (gC (.ob (.ty "str"))) gaNil)))))) (gRet (gC (.bl false))) gNext)
  (gSeq (gIfS (gOr (gB (gNotInR (gCB fLen (gaCons (gBin ixD (gVar 0) (gC (.int 1))) gaNil)) (gaCons (gC (.int 1)) (gaCons (gC (.int 9)) gaNil)))) (gNot (gTru (gCB fAll (gaCons (gLc (giStr (gBin ixD (gVar 0) (gC (.int 1)))) (ggName 1) gYes (gBin inSD (gVar 1) (gC (.str "abcdefghijklmnopqrstuvwxyz"))) [1]) gaNil))))) (gRet (gC (.bl false))) gNext)
  (gSeq (gIfS (gB (gBin eqD (gBin ixD (gVar 0) (gC (.int 0))) (gC (.str "length")))) (gRet (gCall0 3 sp__law_whole (gaCons (gBin ixD (gVar 0) (gC (.int 2))) (gaCons (gC (.int 1)) (gaCons (gC (.int 1000)) gaNil))))) gNext)
  (gSeq (gIfS (gB (gBin eqD (gBin ixD (gVar 0) (gC (.int 0))) (gC (.str "steps")))) (gRet (gCall0 1 sp__law_are_rates (gaCons (gBin ixD (gVar 0) (gC (.int 2))) gaNil))) gNext)
  (gRet (gAndV (gBin inCD (gBin ixD (gVar 0) (gC (.int 0))) (gTup (gaCons (gC (.str "of")) (gaCons (gC (.str "left")) gaNil)))) (gCall0 1 sp__law_is_part (gaCons (gBin ixD (gVar 0) (gC (.int 2))) gaNil)))))))))
theorem w__law_is_row {P : Program} {w : World} {K : PySem.W.Frag} {mg : Str → Option Value} {base : Heap} (T : DefAt K mg "_law_is_row" s__law_is_row ["_law_thing"]) (B : Blt mg) (F__law_whole : FnAt P w K mg base CX0 1 "_law_whole" 3 sp__law_whole) (F__law_are_rates : FnAt P w K mg base CX0 3 "_law_are_rates" 1 sp__law_are_rates) (F__law_is_part : FnAt P w K mg base CX0 2 "_law_is_part" 1 sp__law_is_part) : FnAt P w K mg base CX0 4 "_law_is_row" 1 (sem0 2 g__law_is_row) := by
  have nd := sc__law_is_row.nd
  exact T.fn0 sc__law_is_row (fun f cdv A outer s H E hr => (dss_cons (ds_if (dt_w (dw_or (dt_not (dt_truth (de_isi B (by rfl) (da_cons (de_var 0) (da_cons (de_type (by rfl) B.tuple_ (by decide +kernel)) da_nil))))) (dw_or1 (dt_ne hr (de_len B (by rfl) (da_cons (de_var 0) da_nil)) de_int)))) (dss_one (ds_ret de_bl)) dss_nil)
  (dss_cons (ds_if (dt_w (dw_or (dt_not (dt_truth (de_isi B (by rfl) (da_cons (de_ix (de_var 0) de_int) (da_cons (de_type (by rfl) B.str_ (by decide +kernel)) da_nil))))) (dw_or1 (dt_not (dt_truth (de_isi B (by rfl) (da_cons (de_ix (de_var 0) de_int) (da_cons (de_type (by rfl) B.str_ (by decide +kernel)) da_nil)))))))) (dss_one (ds_ret de_bl)) dss_nil)
  (dss_cons (ds_if (dt_w (dw_or (dt_notInR B (by rfl) (de_len B (by rfl) (da_cons (de_ix (de_var 0) de_int) da_nil)) (da_cons de_int (da_cons de_int da_nil))) (dw_or1 (dt_not (dt_truth (de_all B rfl (by rfl) (da_cons (de_lc (own := [("_law_sign", 1)]) (us := [1]) rfl nd (di_str (de_ix (de_var 0) de_int)) (blkOk_by (N := ["_law_thing", "_law_sign"]) (sc := defScope s__law_is_row) (by decide +kernel)) (by decide) (fun _ _ _ _ _ => (dg_name (i := 1) nd rfl (by first | exact Or.inl rfl | exact Or.inr rfl))) (fun _ _ _ _ _ => dts_nil) (fun _ _ _ _ _ => (de_inS (de_var 1) de_str))) da_nil))))))) (dss_one (ds_ret de_bl)) dss_nil)
  (dss_cons (ds_if (dt_eq hr (de_ix (de_var 0) de_int) de_str) (dss_one (ds_ret (de_call0 F__law_whole hr (by rfl) (da_cons (de_ix (de_var 0) de_int) (da_cons de_int (da_cons de_int da_nil)))))) dss_nil)
  (dss_cons (ds_if (dt_eq hr (de_ix (de_var 0) de_int) de_str) (dss_one (ds_ret (de_call0 F__law_are_rates hr (by rfl) (da_cons (de_ix (de_var 0) de_int) da_nil)))) dss_nil)
  (dss_one (ds_ret (de_and (de_inC hr (de_ix (de_var 0) de_int) (de_tup (da_cons de_str (da_cons de_str da_nil)))) (de_one (de_call0 F__law_is_part hr (by rfl) (da_cons (de_ix (de_var 0) de_int) da_nil))))))))))))

theorem row_no2 {a n t : D} (h : isS n = false) : rowB (.tup [a, n, t]) = false := by
  cases a with
  | str k =>
    rw [row_three]
    cases n <;> first | rfl | cases h
  | _ => rfl
theorem inof {s : Str} {w : Wd} {k : KD} (hk : k (.bl (decide (s = "of") || decide (s = "left"))) w) : inCD (.str s) (.tup [.str "of", .str "left"]) w k := by
  refine ⟨["of", "left"], rfl, ?_⟩
  have e : decide (s ∈ (["of", "left"] : List Str)) = (decide (s = "of") || decide (s = "left")) := by
    rw [Bool.eq_iff_iff, Bool.or_eq_true, decide_eq_true_iff, decide_eq_true_iff, decide_eq_true_iff]
    simp
  rw [e]
  exact hk
theorem v__law_is_row : ∀ ds w kx k, sp__law_is_row ds w kx k → sem0 2 g__law_is_row ds w kx k := by
  rintro ds w kx k ⟨x, rfl, h, hk⟩
  have e : rho 2 [x] = [some x, none] := rfl
  simp! only [g__law_is_row, e, isi_tup h, sp__law_is_part, sp__law_whole, sp__law_are_rates, giStr, gNotInR]
  cases x with
  | tup xs =>
    simp! only [isT]
    by_cases hl : (xs.length : Int) = 3
    · rw [decide_eq_true hl]
      obtain ⟨a, n, t, rfl⟩ := three_of hl
      have h := (any_tup h).1
      have ha := h a (by simp)
      have hn := h n (by simp)
      have ht := h t (by simp)
      simp! only [isi_str ha, isi_str hn]
      cases hs : isS a with
      | false =>
        rw [row_no hs] at hk
        simp! only [id_eq]
        exact hk
      | true =>
        simp! only [id_eq]
        cases hs2 : isS n with
        | false =>
          rw [row_no2 hs2] at hk
          simp! only [id_eq]
          exact hk
        | true =>
          obtain ⟨s, rfl⟩ : ∃ s, a = .str s := by cases a <;> first | exact ⟨_, rfl⟩ | cases hs
          obtain ⟨m, rfl⟩ : ∃ s, n = .str s := by cases n <;> first | exact ⟨_, rfl⟩ | cases hs2
          rw [row_three] at hk
          simp! only [notInRK]
          have hnm : nameB (.str m) = (decide (1 ≤ m.length) && decide (m.length ≤ 8) && m.cps.toList.all fun c => decide (c ∈ small.cps.toList)) := rfl
          have sl := (any_str hn).2
          have tail : k (.bl (told3 s t)) w → (gSeq (gIfS (gB (gBin eqD (gBin ixD (gVar 0) (gC (.int 0))) (gC (.str "length")))) (gRet (gCall0 3 sp__law_whole (gaCons (gBin ixD (gVar 0) (gC (.int 2))) (gaCons (gC (.int 1)) (gaCons (gC (.int 1000)) gaNil))))) gNext)
  (gSeq (gIfS (gB (gBin eqD (gBin ixD (gVar 0) (gC (.int 0))) (gC (.str "steps")))) (gRet (gCall0 1 sp__law_are_rates (gaCons (gBin ixD (gVar 0) (gC (.int 2))) gaNil))) gNext)
  (gRet (gAndV (gBin inCD (gBin ixD (gVar 0) (gC (.int 0))) (gTup (gaCons (gC (.str "of")) (gaCons (gC (.str "left")) gaNil)))) (gCall0 1 sp__law_is_part (gaCons (gBin ixD (gVar 0) (gC (.int 2))) gaNil)))))) { nx := fun _ w => k .non w, rt := k, ex := kx } [some (.tup [.str s, .str m, t]), none] w := fun hk => by
            unfold told3 at hk
            simp! only [sp__law_is_part, sp__law_whole, sp__law_are_rates]
            by_cases k1 : s = "length"
            · subst k1
              rw [if_neg (by decide), if_neg (by decide), decide_eq_true rfl, Bool.true_and] at hk
              rw [decide_eq_true rfl]
              simp! only [id_eq]
              exact ⟨t, 1, 1000, rfl, ht, hk⟩
            · rw [decide_eq_false k1]
              rw [decide_eq_false k1, Bool.false_and] at hk
              simp! only [id_eq]
              by_cases k2 : s = "steps"
              · subst k2
                rw [if_neg (by decide), if_pos rfl] at hk
                rw [decide_eq_true rfl]
                simp! only [id_eq]
                exact ⟨t, rfl, ht, hk⟩
              · rw [decide_eq_false k2]
                rw [if_neg k2] at hk
                simp! only [id_eq]
                refine ⟨by decide, inof ?_⟩
                by_cases k3 : s = "of" ∨ s = "left"
                · rw [if_pos k3] at hk
                  have : (decide (s = "of") || decide (s = "left")) = true := by
                    rw [Bool.or_eq_true, decide_eq_true_eq, decide_eq_true_eq]
                    exact k3
                  rw [this]
                  simp! only [id_eq]
                  exact ⟨t, rfl, ht, hk⟩
                · rw [if_neg k3] at hk
                  have : (decide (s = "of") || decide (s = "left")) = false := by
                    rw [Bool.or_eq_false_iff, decide_eq_false_iff_not, decide_eq_false_iff_not]
                    exact ⟨fun z => k3 (.inl z), fun z => k3 (.inr z)⟩
                  rw [this]
                  simp! only [id_eq]
                  exact hk
          simp! only [sp__law_is_part, sp__law_whole, sp__law_are_rates] at tail
          refine ⟨le_sl (by omega), ?_⟩
          by_cases h1 : (1 : Int) ≤ (m.length : Int) ∧ (m.length : Int) < 9
          · rw [decide_eq_true h1]
            have e1 : (decide (1 ≤ m.length) && decide (m.length ≤ 8)) = true := by
              rw [Bool.and_eq_true, decide_eq_true_eq, decide_eq_true_eq]
              omega
            rw [hnm, e1, Bool.true_and] at hk
            simp! only [id_eq]
            refine lc_ty (fun c => D.str ⟨#[c]⟩) (fun c => D.bl (decide (c ∈ small.cps.toList))) m.cps.toList trivial (by
              have : m.cps.toList.length = m.length := Array.length_toList
              omega) (fun c hc k' hk' => ?_) ?_
            · simp! only [inSD]
              exact ⟨c, rfl, hk'⟩
            · refine all_map ?_
              cases hb : (m.cps.toList.all fun c => decide (c ∈ small.cps.toList)) with
              | false =>
                rw [hb, Bool.false_and] at hk
                simp! only [id_eq]
                exact hk
              | true =>
                rw [hb, Bool.true_and] at hk
                simp! only [id_eq]
                exact tail hk
          · rw [decide_eq_false h1]
            have e1 : (decide (1 ≤ m.length) && decide (m.length ≤ 8)) = false := by
              rw [← Bool.not_eq_true, Bool.and_eq_true, decide_eq_true_eq, decide_eq_true_eq]
              omega
            rw [hnm, e1, Bool.false_and, Bool.false_and] at hk
            simp! only [id_eq]
            exact hk
    · rw [decide_eq_false hl]
      simp! only [id_eq]
      rw [row_len hl] at hk
      exact hk
  | _ => simp! only [isT]; exact hk
theorem ok__law_is_row {P : Program} {w : World} {K : PySem.W.Frag} {mg : Str → Option Value} {base : Heap} (T : DefAt K mg "_law_is_row" s__law_is_row ["_law_thing"]) (B : Blt mg) (F__law_whole : FnAt P w K mg base CX0 1 "_law_whole" 3 sp__law_whole) (F__law_are_rates : FnAt P w K mg base CX0 3 "_law_are_rates" 1 sp__law_are_rates) (F__law_is_part : FnAt P w K mg base CX0 2 "_law_is_part" 1 sp__law_is_part) : FnAt P w K mg base CX0 4 "_law_is_row" 1 sp__law_is_row := (w__law_is_row T B F__law_whole F__law_are_rates F__law_is_part).imp v__law_is_row

def sp__law_due : GF := fun ds w _ k => ∃ x : D, ds = [x] ∧ anyD w.M x = true ∧ k (.bl (rowsB x)) w
abbrev s__law_due : Stmt := topS 32
theorem sc__law_due : FnScope ["_law_thing", "_law_row_here"] ["_law_thing"] (defScope s__law_due) := ⟨rfl, rfl, rfl, by decide +kernel, rfl, by decide +kernel, by decide +kernel⟩
def g__law_due : GS := (gSeq (gIfS (gOr (gNot (gTru (gCB fIsi (gaCons (gVar 0) (gaCons (gC (.ob (.ty "tuple"))) gaNil))))) (gOr (gB (gBin gtD (gCB fLen (gaCons (gVar 0) gaNil)) (gC (.int 8)))) (gNot (gTru (gCB fAll (gaCons (gLc (giSeq (gVar 0)) (ggName 1) gYes (gCall0 1 sp__law_is_row (gaCons (gVar 1) gaNil)) [1]) gaNil)))))) (gRet (gC (.bl false))) gNext)
  (gRet (gBin ltD (gCB fLen (gaCons (gLc (giSeq (gVar 0)) (ggName 1) (gB (gBin eqD (gBin ixD (gVar 1) (gC (.int 0))) (gC (.str "left")))) (gVar 1) [1]) gaNil)) (gC (.int 4)))))
theorem w__law_due {P : Program} {w : World} {K : PySem.W.Frag} {mg : Str → Option Value} {base : Heap} (T : DefAt K mg "_law_due" s__law_due ["_law_thing"]) (B : Blt mg) (F__law_is_row : FnAt P w K mg base CX0 4 "_law_is_row" 1 sp__law_is_row) : FnAt P w K mg base CX0 5 "_law_due" 1 (sem0 2 g__law_due) := by
  have nd := sc__law_due.nd
  exact T.fn0 sc__law_due (fun f cdv A outer s H E hr => (dss_cons (ds_if (dt_w (dw_or (dt_not (dt_truth (de_isi B (by rfl) (da_cons (de_var 0) (da_cons (de_type (by rfl) B.tuple_ (by decide +kernel)) da_nil))))) (dw_or (dt_gt (de_len B (by rfl) (da_cons (de_var 0) da_nil)) de_int) (dw_or1 (dt_not (dt_truth (de_all B rfl (by rfl) (da_cons (de_lc (own := [("_law_row_here", 1)]) (us := [1]) rfl nd (di_seq (de_var 0)) (blkOk_by (N := ["_law_thing", "_law_row_here"]) (sc := defScope s__law_due) (by decide +kernel)) (by decide) (fun _ _ _ _ _ => (dg_name (i := 1) nd rfl (by first | exact Or.inl rfl | exact Or.inr rfl))) (fun _ _ _ _ _ => dts_nil) (fun _ _ _ _ _ => (de_call0 F__law_is_row hr (by rfl) (da_cons (de_var 1) da_nil)))) da_nil)))))))) (dss_one (ds_ret de_bl)) dss_nil)
  (dss_one (ds_ret (de_lt (de_len B (by rfl) (da_cons (de_lc (own := [("_law_row_here", 1)]) (us := [1]) rfl nd (di_seq (de_var 0)) (blkOk_by (N := ["_law_thing", "_law_row_here"]) (sc := defScope s__law_due) (by decide +kernel)) (by decide) (fun _ _ _ _ _ => (dg_name (i := 1) nd rfl (by first | exact Or.inl rfl | exact Or.inr rfl))) (fun _ _ _ _ _ => (dts_one (dt_eq hr (de_ix (de_var 1) de_int) de_str))) (fun _ _ _ _ _ => (de_var 1))) da_nil)) de_int)))))

theorem v__law_due : ∀ ds w kx k, sp__law_due ds w kx k → sem0 2 g__law_due ds w kx k := by
  rintro ds w kx k ⟨x, rfl, h, hk⟩
  have e : rho 2 [x] = [some x, none] := rfl
  simp! only [g__law_due, e, isi_tup h, sp__law_is_row]
  cases x with
  | tup xs =>
    obtain ⟨ha, hl⟩ := any_tup h
    have e1 : rowsB (.tup xs) = (decide (xs.length ≤ 8) && xs.all rowB && decide ((xs.filter (kindIs "left")).length ≤ 3)) := rfl
    rw [e1] at hk
    simp! only [isT]
    by_cases h8 : xs.length ≤ 8
    · rw [decide_eq_false (show ¬ (xs.length : Int) > 8 by omega)]
      rw [decide_eq_true h8, Bool.true_and] at hk
      simp! only [id_eq]
      refine rows_all hl (fun x hx k' hk' => ?_) ?_
      · simp! only [id_eq]
        exact ⟨x, rfl, ha x hx, hk'⟩
      cases hb : xs.all rowB with
      | false =>
        rw [hb, Bool.false_and] at hk
        simp! only [id_eq]
        exact hk
      | true =>
        rw [hb, Bool.true_and] at hk
        rw [List.all_eq_true] at hb
        simp! only [id_eq]
        have q := lc_tyf (gt := DL.ggName 1) (tt := gB (gBin eqD (gBin ixD (gVar 1) (gC (.int 0))) (gC (.str "left")))) (ge := gVar 1) (Ok := fun _ => True) (ρ := [some (.tup xs), none]) (k := fun x w1 => fLen [x] w1 fun d w2 => ltD d (.int 4) w2 k) (w := w) id id (kindIs "left") xs trivial (by omega) (fun x hx A B hA hB => ?_) (by
          rw [List.map_id]
          simp! only [id_eq]
          have e2 : decide (((xs.filter (kindIs "left")).length : Int) < 4) = decide ((xs.filter (kindIs "left")).length ≤ 3) := decide_eq_decide.mpr (by omega)
          rw [e2]
          exact hk)
        · rw [List.map_id] at q
          simpa only [sem0,List.map_cons,List.map_nil,List.length_cons,List.length_nil,gSeq,gNext,gRet,gRetN,gIfS,gSet,gPar,gAsg,gDrop,gVar,gC,gBin,gUn,gB,gTru,gAnd,gOr,gNot,gAndV,gOrV,gNotV,gIf,gChain,gaNil,gaCons,DL.gTup,DL.gLst,gCB,gCall0,gAug,addD_i,addD_s,addD_l,addD_t,subD_i,mulD_i,mulD_l,fdivD_i,modD_i,powD_i,ltD_i,ltD_s,leD_i,gtD_i,geD_i,isD_n,isnotD_n,isNonD_non,isNonD_bl,isNonD_int,isNonD_str,isNonD_lst,isNonD_tup,negD_i,iaddD_i,truD_non,truD_bl,truD_int,truD_str,truD_lst,truD_tup,someK_some,ixD_l,ixD_t,fAbs_i,fInt_i,fInt_b,fMin2_i,fLen_l,fLen_t,fLen_s,fList_l,fList_t,fTuple_l,fTuple_t,optBK_some,fIsi_non,fIsi_bl,fIsi_int,fIsi_str,fIsi_lst,fIsi_tup,List.getElem?_cons_zero,List.getElem?_cons_succ,List.set_cons_zero,List.set_cons_succ,DL.ggName,ggNil0,ggCons1,ggTup2,ggTup3,gFor,giSeq,gLc,gYes,wipeR,true_and,and_true,at_0,at_1,at_2,kit_int_int,kit_bool_int,kit_str_int,kit_non_int,kit_list_int,kit_tuple_int,kit_int_bool,kit_bool_bool,kit_str_bool,kit_non_bool,kit_list_bool,kit_tuple_bool,kit_int_str,kit_bool_str,kit_str_str,kit_non_str,kit_list_str,kit_tuple_str,kit_int_list,kit_bool_list,kit_str_list,kit_non_list,kit_list_list,kit_tuple_list,kit_int_tuple,kit_bool_tuple,kit_str_tuple,kit_non_tuple,kit_list_tuple,kit_tuple_tuple,eqD_i,neD_i,eqD_s,neD_s,eqD_f,neD_f,Nat.zero_add,Nat.reduceAdd,nc0,nc1,nc2,nc3,nc4,nc5,nc6,nc7,nc8,nc9,eq_self,decide_true,decide_false,Int.reduceEq,Int.reduceLT,Int.reduceLE,Int.reduceNeg,Bool.not_true,Bool.not_false,Bool.false_eq_true,if_true,if_false,↓reduceIte,false_and,and_false,List.all_cons,List.all_nil,List.any_cons,List.any_nil,id_eq,Bool.and_true,Bool.true_and,Bool.or_false,Bool.false_or,Bool.and_false,Bool.false_and,gCut,eqD_b,neD_b,giZip,reduceCtorEq,Bool.true_eq_false,Bool.false_eq_true,gRevL,gSl,goNone,goSome,slD_l,ne_eq,not_false_eq_true,not_true_eq_false,gBM,isTy_l,isTy_s,new_at,new_set,isTy_new,cellK_new,append_new,popAt_new,gFrz_eq,frzK_new,fLen_new,fTuple_new,ixD_new,slA_l,slA_t,slA_new,addTD_t,addCD_l,mulCD_l,isbD_b,isnotbD_b,mSplitC_s,gLstC,gTr,ggSub,lstK_l,lstK_r,addLD_eq] using q
        · obtain ⟨k0, n, t, rfl⟩ := row_form (hb x hx)
          have e1 : kindIs "left" (.tup [.str k0, n, t]) = decide (k0 = "left") := rfl
          rw [e1] at hA hB
          simp! only [id_eq]
          cases hd : decide (k0 = "left") with
          | true => exact hA hd
          | false => exact hB hd
    · rw [decide_eq_true (show (xs.length : Int) > 8 by omega)]
      rw [decide_eq_false h8, Bool.false_and, Bool.false_and] at hk
      simp! only [id_eq]
      exact hk
  | _ => simp! only [isT]; exact hk
theorem ok__law_due {P : Program} {w : World} {K : PySem.W.Frag} {mg : Str → Option Value} {base : Heap} (T : DefAt K mg "_law_due" s__law_due ["_law_thing"]) (B : Blt mg) (F__law_is_row : FnAt P w K mg base CX0 4 "_law_is_row" 1 sp__law_is_row) : FnAt P w K mg base CX0 5 "_law_due" 1 sp__law_due := (w__law_due T B F__law_is_row).imp v__law_due


end LW

namespace LW
open PySem PySem.Spec PyProof.Rows L2 RZ DL
local macro_rules | `(tactic| simp! only [$xs,*] $[$loc]?) => `(tactic| simp only [$xs,*, sem0,List.map_cons,List.map_nil,List.length_cons,List.length_nil,gSeq,gNext,gRet,gRetN,gIfS,gSet,gPar,gAsg,gDrop,gVar,gC,gBin,gUn,gB,gTru,gAnd,gOr,gNot,gAndV,gOrV,gNotV,gIf,gChain,gaNil,gaCons,DL.gTup,DL.gLst,gCB,gCall0,gAug,addD_i,addD_s,addD_l,addD_t,subD_i,mulD_i,mulD_l,fdivD_i,modD_i,powD_i,ltD_i,ltD_s,leD_i,gtD_i,geD_i,isD_n,isnotD_n,isNonD_non,isNonD_bl,isNonD_int,isNonD_str,isNonD_lst,isNonD_tup,negD_i,iaddD_i,truD_non,truD_bl,truD_int,truD_str,truD_lst,truD_tup,someK_some,ixD_l,ixD_t,fAbs_i,fInt_i,fInt_b,fMin2_i,fLen_l,fLen_t,fLen_s,fList_l,fList_t,fTuple_l,fTuple_t,optBK_some,fIsi_non,fIsi_bl,fIsi_int,fIsi_str,fIsi_lst,fIsi_tup,List.getElem?_cons_zero,List.getElem?_cons_succ,List.set_cons_zero,List.set_cons_succ,DL.ggName,ggNil0,ggCons1,ggTup2,ggTup3,gFor,giSeq,gLc,gYes,wipeR,true_and,and_true,at_0,at_1,at_2,kit_int_int,kit_bool_int,kit_str_int,kit_non_int,kit_list_int,kit_tuple_int,kit_int_bool,kit_bool_bool,kit_str_bool,kit_non_bool,kit_list_bool,kit_tuple_bool,kit_int_str,kit_bool_str,kit_str_str,kit_non_str,kit_list_str,kit_tuple_str,kit_int_list,kit_bool_list,kit_str_list,kit_non_list,kit_list_list,kit_tuple_list,kit_int_tuple,kit_bool_tuple,kit_str_tuple,kit_non_tuple,kit_list_tuple,kit_tuple_tuple,eqD_i,neD_i,eqD_s,neD_s,eqD_f,neD_f,Nat.zero_add,Nat.reduceAdd,nc0,nc1,nc2,nc3,nc4,nc5,nc6,nc7,nc8,nc9,eq_self,decide_true,decide_false,Int.reduceEq,Int.reduceLT,Int.reduceLE,Int.reduceNeg,Bool.not_true,Bool.not_false,Bool.false_eq_true,if_true,if_false,↓reduceIte,false_and,and_false,List.all_cons,List.all_nil,List.any_cons,List.any_nil,id_eq,Bool.and_true,Bool.true_and,Bool.or_false,Bool.false_or,Bool.and_false,Bool.false_and,gCut,eqD_b,neD_b,giZip,reduceCtorEq,Bool.true_eq_false,Bool.false_eq_true,gRevL,gSl,goNone,goSome,slD_l,ne_eq,not_false_eq_true,not_true_eq_false,gBM,isTy_l,isTy_s,new_at,new_set,isTy_new,cellK_new,append_new,popAt_new,gFrz_eq,frzK_new,fLen_new,fTuple_new,ixD_new,slA_l,slA_t,slA_new,addTD_t,addCD_l,mulCD_l,isbD_b,isnotbD_b,mSplitC_s,gLstC,gTr,ggSub,lstK_l,lstK_r,addLD_eq] $[$loc]?)


section
variable {w : Wd} {k : KD} {M : List Cell} {n : Option Nat} {a b c : Cell} {xs : List D} {d : D} {j : Int}
theorem at20 : (M ++ [a, b])[M.length]? = some a := by simp
theorem at21 : (M ++ [a, b])[M.length + 1]? = some b := by
  rw [List.getElem?_append_right (by omega), show M.length + 1 - M.length = 1 by omega]
  rfl
theorem set20 : (M ++ [a, b]).set M.length c = M ++ [c, b] := by
  rw [List.set_append_right (h := Nat.le_refl _), Nat.sub_self]
  rfl
theorem set21 : (M ++ [a, b]).set (M.length + 1) c = M ++ [a, c] := by
  rw [List.set_append_right (h := by omega), show M.length + 1 - M.length = 1 by omega]
  rfl
theorem cellK21 {f : List D → Prop} : cellK (M.length + 1) ⟨M ++ [a, .lst xs], n⟩ f = f xs := by
  unfold cellK
  simp only [at21]
theorem cellK20 {f : List D → Prop} : cellK M.length ⟨M ++ [.lst xs, b], n⟩ f = f xs := by
  unfold cellK
  simp only [at20]
theorem isTy20 {T : String} : isTy T (.rf M.length) ⟨M ++ [.lst xs, b], n⟩ = (T = "list") := by
  unfold isTy
  simp only [at20]
theorem isTy21 {T : String} : isTy T (.rf (M.length + 1)) ⟨M ++ [a, .lst xs], n⟩ = (T = "list") := by
  unfold isTy
  simp only [at21]
theorem append21 : mAppend (.rf (M.length + 1)) [d] ⟨M ++ [a, .lst xs], n⟩ k = (xs.length < sizeLine ∧ k .non ⟨M ++ [a, .lst (xs ++ [d])], n⟩) := by
  unfold mAppend
  simp only [cellK21, set21]
theorem popAt20 : mPopAt (.rf M.length) [.int j] ⟨M ++ [.lst xs, b], n⟩ k = (0 ≤ j ∧ j < xs.length ∧ j < 2 ^ 63 ∧ someK xs[j.toNat]? fun d => k d ⟨M ++ [.lst (xs.eraseIdx j.toNat), b], n⟩) := by
  unfold mPopAt
  simp only [cellK20, set20]
theorem fLen20 : fLen [.rf M.length] ⟨M ++ [.lst xs, b], n⟩ k = k (.int xs.length) ⟨M ++ [.lst xs, b], n⟩ := by
  simp [fLen, seqD, at20]
end

def Letter (s : Str) : Prop := s.length = 1 ∧ ∀ c ∈ s.cps.toList, c ∈ small.cps.toList
theorem ix_letter {r : Int} {w : Wd} {k : KD} (h0 : 0 ≤ r) (h1 : r < 26) (hk : ∀ s : Str, Letter s → k (.str s) w) : ixD (.str "abcdefghijklmnopqrstuvwxyz") (.int r) w k := by
  show small.length ≤ sizeLine ∧ _
  refine ⟨by decide, ?_⟩
  have hl : small.cps.toList.length = 26 := by decide +kernel
  have e : atI small.cps.toList r = some (small.cps.toList[r.toNat]'(by omega)) := by
    have := atI_nat (List.getElem?_eq_getElem (l := small.cps.toList) (i := r.toNat) (by omega))
    rwa [Int.toNat_of_nonneg h0] at this
  show (match atI small.cps.toList r with | some c => k (.str ⟨#[c]⟩) w | none => False)
  rw [e]
  refine hk _ ⟨rfl, fun c hc => ?_⟩
  have : c = small.cps.toList[r.toNat]'(by omega) := by simpa using hc
  rw [this]
  exact List.getElem_mem _
theorem joinL_nil : ∀ xs : List (List Nat), TL.joinL [] xs = xs.flatten
  | [] => rfl
  | [p] => by simp [TL.joinL]
  | p :: q :: r => by
    rw [TL.joinL, joinL_nil (q :: r)]
    rfl
theorem join_word {ss : List Str} (h : ∀ s ∈ ss, Letter s) : (Txt.join "" ss).length = ss.length ∧ ∀ c ∈ (Txt.join "" ss).cps.toList, c ∈ small.cps.toList := by
  have e : (Txt.join "" ss).cps.toList = (ss.map fun s => s.cps.toList).flatten := by
    rw [TL.join_eq]
    have := TL.tl_join "" ss
    have z : TL.tl "" = [] := rfl
    rw [z, joinL_nil] at this
    exact this
  have l : (Txt.join "" ss).length = (Txt.join "" ss).cps.toList.length := Array.length_toList.symm
  rw [l, e]
  clear l e
  induction ss with
  | nil => exact ⟨rfl, fun c hc => nomatch hc⟩
  | cons s ss ih =>
    obtain ⟨i1, i2⟩ := ih fun x hx => h x (List.mem_cons_of_mem _ hx)
    obtain ⟨h1, h2⟩ := h s List.mem_cons_self
    have h3 : s.cps.toList.length = 1 := by rw [Array.length_toList]; exact h1
    rw [List.map_cons, List.flatten_cons]
    refine ⟨by rw [List.length_append, i1, h3, List.length_cons]; omega, fun c hc => ?_⟩
    rcases List.mem_append.mp hc with hc | hc
    · exact h2 c hc
    · exact i2 c hc
theorem word_name {s : Str} (h1 : 1 ≤ s.length) (h2 : s.length ≤ 8) (h : ∀ c ∈ s.cps.toList, c ∈ small.cps.toList) : nameB (.str s) = true := by
  have hN : nameB (.str s) = (decide (1 ≤ s.length) && decide (s.length ≤ 8) && s.cps.toList.all fun c => decide (c ∈ small.cps.toList)) := rfl
  rw [hN, decide_eq_true h1, decide_eq_true h2, List.all_eq_true.mpr fun c hc => decide_eq_true (h c hc)]
  rfl
theorem len_app (a b : Str) : (a ++ b).length = a.length + b.length := by
  show (a.cps ++ b.cps).size = a.cps.size + b.cps.size
  exact Array.size_append
theorem nameB_ok {s : Str} (h : nameB (.str s) = true) : PyData.strOk s = true ∧ 1 ≤ s.length ∧ s.length ≤ 8 := by
  have hN : nameB (.str s) = (decide (1 ≤ s.length) && decide (s.length ≤ 8) && s.cps.toList.all fun c => decide (c ∈ small.cps.toList)) := rfl
  rw [hN, Bool.and_eq_true, Bool.and_eq_true, decide_eq_true_eq, decide_eq_true_eq, List.all_eq_true] at h
  refine ⟨?_, h.1.1, h.1.2⟩
  unfold PyData.strOk
  rw [Array.all_eq_true']
  intro c hc
  have := of_decide_eq_true (h.2 c (Array.mem_toList_iff.mpr hc))
  have q : ∀ c ∈ small.cps.toList, decide (c < 0x110000) = true := by decide +kernel
  exact q c this
theorem letters_sum : ∀ {ls : List Str}, (∀ s ∈ ls, Letter s) → (ls.map (·.length)).sum = ls.length
  | [], _ => rfl
  | a :: ls, h => by
    rw [List.map_cons, List.sum_cons, letters_sum fun x hx => h x (List.mem_cons_of_mem _ hx), (h a List.mem_cons_self).1, List.length_cons]
    omega

def sp__law_any_name : GF := fun ds w _ k => ∃ (c n : Nat), ds = [.st] ∧ (w.n = some c ∧ n + 10 ≤ c) ∧ ∀ (s : Str) c', nameB (.str s) = true → n ≤ c' → k (.str s) ⟨w.M, some c'⟩
abbrev s__law_any_name : Stmt := topS 23
theorem sc__law_any_name : FnScope ["_law_state", "_law_letters", "_law_k"] ["_law_state"] (defScope s__law_any_name) := ⟨rfl, rfl, rfl, by decide +kernel, rfl, by decide +kernel, by decide +kernel⟩
def g__law_any_name : GS := (gSeq (gSet 1 (gC (.str "abcdefghijklmnopqrstuvwxyz")))
  (gRet (gJoin "" (gLc (giRange1 (gaCons (gBin addD (gC (.int 1)) (gCall0 2 sp__law_take (gaCons (gVar 0) (gaCons (gC (.int 8)) gaNil)))) gaNil)) (ggName 2) gYes (gBin ixD (gVar 1) (gCall0 2 sp__law_take (gaCons (gVar 0) (gaCons (gC (.int 26)) gaNil)))) [2]))))
theorem w__law_any_name {P : Program} {w : World} {K : PySem.W.Frag} {mg : Str → Option Value} {base : Heap} (T : DefAt K mg "_law_any_name" s__law_any_name ["_law_state"]) (B : Blt mg) (F__law_take : FnAt P w K mg base CX0 1 "_law_take" 2 sp__law_take) : FnAt P w K mg base CX0 2 "_law_any_name" 1 (sem0 3 g__law_any_name) := by
  have nd := sc__law_any_name.nd
  exact T.fn0 sc__law_any_name (fun f cdv A outer s H E hr => (dss_cons (ds_set (i := 1) nd rfl (by first | exact Or.inl rfl | exact Or.inr rfl) de_str)
  (dss_one (ds_ret (de_join (de_lc (own := [("_law_k", 2)]) (us := [2]) rfl nd (di_range1 B (by rfl) (da_cons (de_add de_int (de_call0 F__law_take hr (by rfl) (da_cons (de_var 0) (da_cons de_int da_nil)))) da_nil)) (blkOk_by (N := ["_law_state", "_law_letters", "_law_k"]) (sc := defScope s__law_any_name) (by decide +kernel)) (by decide) (fun _ _ _ _ _ => (dg_name (i := 2) nd rfl (by first | exact Or.inl rfl | exact Or.inr rfl))) (fun _ _ _ _ _ => dts_nil) (fun _ _ _ _ _ => (de_ix (de_var 1) (de_call0 F__law_take hr (by rfl) (da_cons (de_var 0) (da_cons de_int da_nil)))))))))))

theorem v__law_any_name : ∀ ds w kx k, sp__law_any_name ds w kx k → sem0 3 g__law_any_name ds w kx k := by
  rintro ds w kx k ⟨c, n, rfl, ⟨hn, hc⟩, hk⟩
  have e : rho 3 [D.st] = [some .st, none, none] := rfl
  simp! only [g__law_any_name, e, giRange1, gJoin, sp__law_take]
  refine take_use (n + 8) hn (by omega) ⟨by decide, log_of (by decide)⟩ fun r c1 h0 h1 hc1 => ?_
  simp! only [id_eq]
  refine ⟨⟨by omega, by omega⟩, ?_⟩
  refine ⟨fun rem acc w' => ∃ (ls : List Str) (c' : Nat), acc = ls.map D.str ∧ (∀ s ∈ ls, Letter s) ∧ ls.length + rem.length = (1 + r).toNat ∧ n + rem.length ≤ c' ∧ w' = ⟨w.M, some c'⟩, ⟨[], c1, rfl, (fun _ h => nomatch h), ?_, ?_, rfl⟩, ?_, ?_⟩
  · rw [range_len]
    exact Nat.zero_add _
  · rw [range_len]
    omega
  · rintro acc w' ⟨ls, c', rfl, hl, h1, h2, rfl⟩
    refine ⟨trivial, ?_⟩
    have h1 : ls.length = (1 + r).toNat := by simpa using h1
    obtain ⟨j1, j2⟩ := join_word hl
    refine ⟨ls, .inl rfl, ?_, hk _ c' (word_name (by omega) (by omega) j2) (by simpa using h2)⟩
    rw [letters_sum hl]
    show ls.length + ls.length * 0 ≤ _
    omega
  · rintro x rem acc w' ⟨ls, c', rfl, hl, h1, h2, rfl⟩
    rw [List.length_cons] at h1 h2
    refine ⟨trivial, ?_⟩
    simp! only [sp__law_take]
    refine take_use (n + rem.length) rfl (by omega) ⟨by decide, log_of (by decide)⟩ fun r2 c2 g0 g1 hc2 => ?_
    refine ix_letter g0 g1 fun s hs => ?_
    refine ⟨lt_sl (by rw [List.length_map]; omega), ls ++ [s], c2, by simp, fun z hz => ?_, by rw [List.length_append, List.length_singleton]; omega, hc2, rfl⟩
    rcases List.mem_append.mp hz with hz | hz
    · exact hl z hz
    · rw [List.mem_singleton.mp hz]
      exact hs
theorem ok__law_any_name {P : Program} {w : World} {K : PySem.W.Frag} {mg : Str → Option Value} {base : Heap} (T : DefAt K mg "_law_any_name" s__law_any_name ["_law_state"]) (B : Blt mg) (F__law_take : FnAt P w K mg base CX0 1 "_law_take" 2 sp__law_take) : FnAt P w K mg base CX0 2 "_law_any_name" 1 sp__law_any_name := (w__law_any_name T B F__law_take).imp v__law_any_name

theorem any_use {w : Wd} {c : Nat} {kx : KX} {k : KD} (n : Nat) (hn : w.n = some c) (hc : n + 10 ≤ c) (h : ∀ (s : Str) c', nameB (.str s) = true → n ≤ c' → k (.str s) ⟨w.M, some c'⟩) : sp__law_any_name [.st] w kx k := ⟨c, n, rfl, ⟨hn, hc⟩, h⟩
def pool06 : List Str := Txt.split "b aa zebra c quartzes ab m knows d mm likes z ba abcdefgh y zz e x f g hh jj kk pave" " "
theorem pool06_len : pool06.length = 24 := by decide +kernel
theorem pool06_nm : ∀ s ∈ pool06, nameB (.str s) = true := by
  have : pool06.all (fun s => nameB (.str s)) = true := by decide +kernel
  exact List.all_eq_true.mp this
def NmInv (w : Wd) (m : Nat) (n : Nat) (rem : List D) (ρ : Rho) (w' : Wd) : Prop := ∃ (ss rest : List Str) (c' : Nat) (s4 s5 s6 : Option D), (∀ s ∈ ss, nameB (.str s) = true) ∧ (∀ s ∈ rest, nameB (.str s) = true) ∧ ss.length + rem.length = m ∧ ss.length + rest.length = 24 ∧ n + 12 * rem.length ≤ c' ∧
  w' = ⟨w.M ++ [.lst (rest.map D.str), .lst (ss.map D.str)], some c'⟩ ∧ ρ = [some .st, some (.int (m : Int)), some (.rf w.M.length), some (.rf (w.M.length + 1)), s4, s5, s6]
def sp__law_names : GF := fun ds w _ k => ∃ (m c n : Nat), ds = [.st, .int (m : Int)] ∧ (m ≤ 12 ∧ w.n = some c ∧ n + 12 * m ≤ c) ∧ ∀ (ss : List Str) c', ss.length = m → (∀ s ∈ ss, nameB (.str s) = true) → n ≤ c' → k (.lst (ss.map D.str)) ⟨w.M, some c'⟩
abbrev s__law_names : Stmt := topS 22
theorem sc__law_names : FnScope ["_law_state", "_law_many", "_law_some", "_law_found", "_law_turn", "_law_name", "_law_other"] ["_law_state", "_law_many"] (defScope s__law_names) := ⟨rfl, rfl, rfl, by decide +kernel, rfl, by decide +kernel, by decide +kernel⟩
def g__law_names : GS := (gSeq (gSet 2 (gBM "str" mSplitC (gC (.str "b aa zebra c quartzes ab m knows d mm likes z ba abcdefgh y zz e x f g hh jj kk pave")) (gaCons (gC (.str " ")) gaNil)))
  (gSeq (gSet 3 (gLstC gaNil))
  (gSeq (gFor (giRange1 (gaCons (gVar 1) gaNil)) (ggName 4) (gSeq (gPar 5 6 (gaCons (gBM "list" mPopAt (gVar 2) (gaCons (gCall0 2 sp__law_take (gaCons (gVar 0) (gaCons (gCB fLen (gaCons (gVar 2) gaNil)) gaNil))) gaNil)) (gaCons (gCall0 1 sp__law_any_name (gaCons (gVar 0) gaNil)) gaNil)))
  (gDrop (gBM "list" mAppend (gVar 3) (gaCons (gIf (gAnd (gB (gBin eqD (gCall0 2 sp__law_take (gaCons (gVar 0) (gaCons (gC (.int 2)) gaNil))) (gC (.int 0)))) (gB (gBin notinCD (gVar 6) (gBin addLD (gVar 3) (gVar 2))))) (gVar 6) (gVar 5)) gaNil)))))
  (gRet (gFrz (gVar 3))))))
theorem w__law_names {P : Program} {w : World} {K : PySem.W.Frag} {mg : Str → Option Value} {base : Heap} (T : DefAt K mg "_law_names" s__law_names ["_law_state", "_law_many"]) (B : Blt mg) (F__law_any_name : FnAt P w K mg base CX0 2 "_law_any_name" 1 sp__law_any_name) (F__law_take : FnAt P w K mg base CX0 1 "_law_take" 2 sp__law_take) : FnAt P w K mg base CX0 3 "_law_names" 2 (sem0 7 g__law_names) := by
  have nd := sc__law_names.nd
  exact T.fn0 sc__law_names (fun f cdv A outer s H E hr => (dss_cons (ds_set (i := 2) nd rfl (by first | exact Or.inl rfl | exact Or.inr rfl) (de_bm PySem.F.plainAttrs_str PySem.F.slot_str_split (by rfl) mt_split ok_splitC de_str (da_cons de_str da_nil) (by rfl) (by rfl) (by rfl) (by rfl) (by rfl)))
  (dss_cons (ds_set (i := 3) nd rfl (by first | exact Or.inl rfl | exact Or.inr rfl) (de_lstC da_nil))
  (dss_cons (ds_for PassesOwn.never rfl (di_range1 B (by rfl) (da_cons (de_var 1) da_nil)) (dg_name (i := 4) nd rfl (by first | exact Or.inl rfl | exact Or.inr rfl)) (dss_cons (ds_par (i := 5) (j := 6) rfl nd rfl rfl (by decide) rfl rfl (da_cons (de_bm PySem.F.plainAttrs_list PySem.F.slot_list_pop (by rfl) mt_popAt ok_popAt (de_var 2) (da_cons (de_call0 F__law_take hr (by rfl) (da_cons (de_var 0) (da_cons (de_len B (by rfl) (da_cons (de_var 2) da_nil)) da_nil))) da_nil) (by rfl) (by rfl) (by rfl) (by rfl) (by rfl)) (da_cons (de_call0 F__law_any_name hr (by rfl) (da_cons (de_var 0) da_nil)) da_nil)) (by rfl))
  (dss_one (ds_expr (de_bm PySem.F.plainAttrs_list PySem.F.slot_list_append (by rfl) mt_append ok_append (de_var 3) (da_cons (de_ifExp (dt_w (dw_and (dt_eq hr (de_call0 F__law_take hr (by rfl) (da_cons (de_var 0) (da_cons de_int da_nil))) de_int) (dw_and1 (dt_notinC hr (de_var 6) (de_addl (de_var 3) (de_var 2)))))) (de_var 6) (de_var 5)) da_nil) (by rfl) (by rfl) (by rfl) (by rfl) (by rfl))))))
  (dss_one (ds_ret (de_frz (de_var 3))))))))

theorem v__law_names : ∀ ds w kx k, sp__law_names ds w kx k → gTr (sem0 7 g__law_names) ds w kx k := by
  rintro ds w kx k ⟨m, c, n, rfl, ⟨hm, hn, hc⟩, hk⟩
  have e : rho 7 [D.st, D.int (m : Int)] = [some .st, some (.int m), none, none, none, none, none] := rfl
  simp! only [g__law_names, e, giRange1, sp__law_take, sp__law_any_name]
  refine ⟨by decide +kernel, by decide +kernel, by decide, ⟨by omega, by omega⟩, ?_⟩
  refine ⟨NmInv w m n, ⟨[], pool06, c, none, none, none, (fun _ h => nomatch h), pool06_nm, ?_, ?_, ?_, ?_, ?_⟩, ?_, ?_⟩
  · rw [Int.toNat_natCast, range_len]
    exact Nat.zero_add _
  · rw [pool06_len]
    rfl
  · rw [Int.toNat_natCast, range_len]
    exact hc
  · rw [hn, List.append_assoc]
    rfl
  · simp
  · rintro ρ w' ⟨ss, rest, c', s4, s5, s6, h1, h2, h3, h4, h5, rfl, rfl⟩
    refine ⟨trivial, ?_⟩
    have h3 : ss.length = m := by simpa using h3
    simp only [sem0,List.map_cons,List.map_nil,List.length_cons,List.length_nil,gSeq,gNext,gRet,gRetN,gIfS,gSet,gPar,gAsg,gDrop,gVar,gC,gBin,gUn,gB,gTru,gAnd,gOr,gNot,gAndV,gOrV,gNotV,gIf,gChain,gaNil,gaCons,DL.gTup,DL.gLst,gCB,gCall0,gAug,addD_i,addD_s,addD_l,addD_t,subD_i,mulD_i,mulD_l,fdivD_i,modD_i,powD_i,ltD_i,ltD_s,leD_i,gtD_i,geD_i,isD_n,isnotD_n,isNonD_non,isNonD_bl,isNonD_int,isNonD_str,isNonD_lst,isNonD_tup,negD_i,iaddD_i,truD_non,truD_bl,truD_int,truD_str,truD_lst,truD_tup,someK_some,ixD_l,ixD_t,fAbs_i,fInt_i,fInt_b,fMin2_i,fLen_l,fLen_t,fLen_s,fList_l,fList_t,fTuple_l,fTuple_t,optBK_some,fIsi_non,fIsi_bl,fIsi_int,fIsi_str,fIsi_lst,fIsi_tup,List.getElem?_cons_zero,List.getElem?_cons_succ,List.set_cons_zero,List.set_cons_succ,DL.ggName,ggNil0,ggCons1,ggTup2,ggTup3,gFor,giSeq,gLc,gYes,wipeR,true_and,and_true,at_0,at_1,at_2,kit_int_int,kit_bool_int,kit_str_int,kit_non_int,kit_list_int,kit_tuple_int,kit_int_bool,kit_bool_bool,kit_str_bool,kit_non_bool,kit_list_bool,kit_tuple_bool,kit_int_str,kit_bool_str,kit_str_str,kit_non_str,kit_list_str,kit_tuple_str,kit_int_list,kit_bool_list,kit_str_list,kit_non_list,kit_list_list,kit_tuple_list,kit_int_tuple,kit_bool_tuple,kit_str_tuple,kit_non_tuple,kit_list_tuple,kit_tuple_tuple,eqD_i,neD_i,eqD_s,neD_s,eqD_f,neD_f,Nat.zero_add,Nat.reduceAdd,nc0,nc1,nc2,nc3,nc4,nc5,nc6,nc7,nc8,nc9,eq_self,decide_true,decide_false,Int.reduceEq,Int.reduceLT,Int.reduceLE,Int.reduceNeg,Bool.not_true,Bool.not_false,Bool.false_eq_true,if_true,if_false,↓reduceIte,false_and,and_false,List.all_cons,List.all_nil,List.any_cons,List.any_nil,id_eq,Bool.and_true,Bool.true_and,Bool.or_false,Bool.false_or,Bool.and_false,Bool.false_and,gCut,eqD_b,neD_b,giZip,reduceCtorEq,Bool.true_eq_false,Bool.false_eq_true,gRevL,gSl,goNone,goSome,slD_l,ne_eq,not_false_eq_true,not_true_eq_false,gBM,isTy_l,isTy_s,new_at,new_set,isTy_new,cellK_new,append_new,popAt_new,gFrz_eq,frzK_new,fLen_new,fTuple_new,ixD_new,slA_l,slA_t,slA_new,addTD_t,addCD_l,mulCD_l,isbD_b,isnotbD_b,mSplitC_s,gLstC,gTr,ggSub,lstK_l,lstK_r,addLD_eq, frzK, at21, set21]
    refine ⟨⟨_, rfl⟩, lows_of fun x hx => ?_, hk ss c' h3 h1 (by simpa using h5)⟩
    obtain ⟨s, _, rfl⟩ := List.mem_map.mp hx
    rfl
  · rintro x rem ρ w' ⟨ss, rest, c', s4, s5, s6, h1, h2, h3, h4, h5, rfl, rfl⟩
    rw [List.length_cons] at h3 h5
    refine ⟨trivial, ?_⟩
    simp! only [isTy20, popAt20, fLen20]
    refine take_use (n + 12 * rem.length + 11) rfl (by omega) ⟨by rw [List.length_map]; omega, log_of (by rw [List.length_map]; exact Nat.lt_of_le_of_lt (show rest.length ≤ 24 by omega) (by decide))⟩ fun r c2 g0 g1 hc2 => ?_
    rw [List.length_map] at g1
    have hl : r.toNat < rest.length := by omega
    rw [popAt20]
    refine ⟨g0, by rw [List.length_map]; exact g1, by omega, ?_⟩
    rw [List.getElem?_map, List.getElem?_eq_getElem hl, Option.map_some, someK_some, erase_map]
    refine any_use (n + 12 * rem.length + 1) rfl (by omega) fun s c3 hs hc3 => ?_
    rw [isTy21]
    refine ⟨rfl, take_use (n + 12 * rem.length) rfl (by omega) ⟨by decide, log_of (by decide)⟩ fun r2 c4 u0 u1 hc4 => ?_⟩
    rw [eqD_i]
    have l1 : (rest.eraseIdx r.toNat).length + 1 = rest.length := by rw [List.length_eraseIdx, if_pos hl]; omega
    have fin : ∀ {z : Str}, nameB (.str z) = true → mAppend (D.rf (w.M.length + 1)) [.str z] ⟨w.M ++ [Cell.lst ((rest.eraseIdx r.toNat).map D.str), Cell.lst (ss.map D.str)], some c4⟩ fun _ w1 =>
        NmInv w m n rem [some D.st, some (D.int ↑m), some (D.rf w.M.length), some (D.rf (w.M.length + 1)), some x, some (.str rest[r.toNat]), some (.str s)] w1 := fun {z} hz => by
      rw [append21]
      refine ⟨lt_sl (by rw [List.length_map]; omega), ss ++ [z], rest.eraseIdx r.toNat, c4, _, _, _, fun y hy => ?_, fun y hy => h2 y (List.mem_of_mem_eraseIdx hy), by rw [List.length_append, List.length_singleton]; omega, by rw [List.length_append, List.length_singleton]; omega, hc4, by rw [List.map_append]; rfl, rfl⟩
      rcases List.mem_append.mp hy with hy | hy
      · exact h1 y hy
      · rw [List.mem_singleton.mp hy]
        exact hz
    have hr := h2 _ (List.getElem_mem hl)
    refine ite2 (fun _ => ?_) (fun _ => fin hr)
    rw [cellK21, cellK20]
    refine ⟨le_sl (by rw [List.length_map, List.length_map]; omega), ?_⟩
    rw [← List.map_append]
    refine ⟨_, allStr_map _, ?_⟩
    exact ite2 (fun _ => fin hs) (fun _ => fin hr)
theorem ok__law_names {P : Program} {w : World} {K : PySem.W.Frag} {mg : Str → Option Value} {base : Heap} (T : DefAt K mg "_law_names" s__law_names ["_law_state", "_law_many"]) (B : Blt mg) (F__law_any_name : FnAt P w K mg base CX0 2 "_law_any_name" 1 sp__law_any_name) (F__law_take : FnAt P w K mg base CX0 1 "_law_take" 2 sp__law_take) : FnAt P w K mg base CX0 3 "_law_names" 2 sp__law_names := (w__law_names T B F__law_any_name F__law_take).trunc.imp v__law_names


end LW

namespace LW
open PySem PySem.Spec PyProof.Rows L2 RZ DL
local macro_rules | `(tactic| simp! only [$xs,*] $[$loc]?) => `(tactic| simp only [$xs,*, sem0,List.map_cons,List.map_nil,List.length_cons,List.length_nil,gSeq,gNext,gRet,gRetN,gIfS,gSet,gPar,gAsg,gDrop,gVar,gC,gBin,gUn,gB,gTru,gAnd,gOr,gNot,gAndV,gOrV,gNotV,gIf,gChain,gaNil,gaCons,DL.gTup,DL.gLst,gCB,gCall0,gAug,addD_i,addD_s,addD_l,addD_t,subD_i,mulD_i,mulD_l,fdivD_i,modD_i,powD_i,ltD_i,ltD_s,leD_i,gtD_i,geD_i,isD_n,isnotD_n,isNonD_non,isNonD_bl,isNonD_int,isNonD_str,isNonD_lst,isNonD_tup,negD_i,iaddD_i,truD_non,truD_bl,truD_int,truD_str,truD_lst,truD_tup,someK_some,ixD_l,ixD_t,fAbs_i,fInt_i,fInt_b,fMin2_i,fLen_l,fLen_t,fLen_s,fList_l,fList_t,fTuple_l,fTuple_t,optBK_some,fIsi_non,fIsi_bl,fIsi_int,fIsi_str,fIsi_lst,fIsi_tup,List.getElem?_cons_zero,List.getElem?_cons_succ,List.set_cons_zero,List.set_cons_succ,DL.ggName,ggNil0,ggCons1,ggTup2,ggTup3,gFor,giSeq,gLc,gYes,wipeR,true_and,and_true,at_0,at_1,at_2,kit_int_int,kit_bool_int,kit_str_int,kit_non_int,kit_list_int,kit_tuple_int,kit_int_bool,kit_bool_bool,kit_str_bool,kit_non_bool,kit_list_bool,kit_tuple_bool,kit_int_str,kit_bool_str,kit_str_str,kit_non_str,kit_list_str,kit_tuple_str,kit_int_list,kit_bool_list,kit_str_list,kit_non_list,kit_list_list,kit_tuple_list,kit_int_tuple,kit_bool_tuple,kit_str_tuple,kit_non_tuple,kit_list_tuple,kit_tuple_tuple,eqD_i,neD_i,eqD_s,neD_s,eqD_f,neD_f,Nat.zero_add,Nat.reduceAdd,nc0,nc1,nc2,nc3,nc4,nc5,nc6,nc7,nc8,nc9,eq_self,decide_true,decide_false,Int.reduceEq,Int.reduceLT,Int.reduceLE,Int.reduceNeg,Bool.not_true,Bool.not_false,Bool.false_eq_true,if_true,if_false,↓reduceIte,false_and,and_false,List.all_cons,List.all_nil,List.any_cons,List.any_nil,id_eq,Bool.and_true,Bool.true_and,Bool.or_false,Bool.false_or,Bool.and_false,Bool.false_and,gCut,eqD_b,neD_b,giZip,reduceCtorEq,Bool.true_eq_false,Bool.false_eq_true,gRevL,gSl,goNone,goSome,slD_l,ne_eq,not_false_eq_true,not_true_eq_false,gBM,isTy_l,isTy_s,new_at,new_set,isTy_new,cellK_new,append_new,popAt_new,gFrz_eq,frzK_new,fLen_new,fTuple_new,ixD_new,slA_l,slA_t,slA_new,addTD_t,addCD_l,mulCD_l,isbD_b,isnotbD_b,mSplitC_s,gLstC,gTr,ggSub,lstK_l,lstK_r,addLD_eq] $[$loc]?)


abbrev Rate := Option Int × Qp
def optD : Option Int → D
  | none => .non
  | some i => .int i
def rateD (r : Rate) : D := .tup [optD r.1, fD r.2]
inductive Row where
  | of (n : Str) (p : Qp)
  | steps (n : Str) (rs : List Rate)
  | left (n : Str) (p : Qp)
  | length (n : Str) (m : Int)
def rowD : Row → D
  | .of n p => .tup [.str "of", .str n, fD p]
  | .steps n rs => .tup [.str "steps", .str n, .tup (rs.map rateD)]
  | .left n p => .tup [.str "left", .str n, fD p]
  | .length n m => .tup [.str "length", .str n, .int m]
def kindS : Row → Str
  | .of _ _ => "of"
  | .steps _ _ => "steps"
  | .left _ _ => "left"
  | .length _ _ => "length"
structure Part (p : Qp) : Prop where
  fr : Fr p
  lt : Lt2 12 p
  pos : 0 < p.1
def Rates (rs : List Rate) : Prop := rs.length ≤ 8 ∧ (∀ r ∈ rs, Part r.2) ∧ ∃ q, (none, q) ∈ rs
def RowOk : Row → Prop
  | .of _ p => Part p
  | .steps _ rs => Rates rs
  | .left _ p => Part p
  | .length _ m => 0 < m ∧ m ≤ 1000
theorem low_rate {n : Nat} (r : Rate) : low n (rateD r) = true := by
  obtain ⟨u, p⟩ := r
  cases u <;> rfl
theorem low_row {n : Nat} (r : Row) : low n (rowD r) = true := by
  cases r with
  | steps s rs =>
    show (true && (true && (lows n (rs.map rateD) && true))) = true
    rw [lows_of fun x hx => ?_]
    · rfl
    · obtain ⟨r, _, rfl⟩ := List.mem_map.mp hx
      exact low_rate r
  | _ => rfl
theorem low_rows {n : Nat} (rs : List Row) : lows n (rs.map rowD) = true := lows_of fun x hx => by
  obtain ⟨r, _, rfl⟩ := List.mem_map.mp hx
  exact low_row r
section
variable {w : Wd} {k : KD} {r : Row} {n : Str} {p : Qp} {rs : List Rate} {m : Int} {t : Rate}
theorem row0 : ixD (rowD r) (.int 0) w k = k (.str (kindS r)) w := by cases r <;> rfl
end
def ofP : Row → Option Qp
  | .of _ p => some p
  | _ => none
def stP : Row → Option (List Rate)
  | .steps _ rs => some rs
  | _ => none
def great : List Rate → Qp → Qp
  | [], g => g
  | r :: rs, g => great rs (if g.1 * r.2.2 < r.2.1 * g.2 then r.2 else g)
def ofs (rs : List Row) : List Qp := rs.filterMap ofP
def sts (rs : List Row) : List Qp := (rs.filterMap stP).map fun r => great r (0, 1)
def partsOf (rs : List Row) : List Qp := ofs rs ++ sts rs
structure Pt0 (p : Qp) : Prop where
  fr : Fr p
  lt : Lt2 12 p
  pos : 0 ≤ p.1
theorem Part.pt0 {p : Qp} (h : Part p) : Pt0 p := ⟨h.fr, h.lt, Int.le_of_lt h.pos⟩
theorem pt00 : Pt0 (0, 1) := ⟨⟨by decide, by decide⟩, ⟨by decide, by decide⟩, by decide⟩
theorem great_ok : ∀ {rs : List Rate} {g : Qp}, (∀ r ∈ rs, Part r.2) → Pt0 g → Pt0 (great rs g)
  | [], _, _, h => h
  | r :: rs, g, hr, h => by
    unfold great
    refine great_ok (fun x hx => hr x (List.mem_cons_of_mem _ hx)) ?_
    split
    · exact (hr r List.mem_cons_self).pt0
    · exact h
theorem ofs_ok {rs : List Row} (h : ∀ r ∈ rs, RowOk r) : ∀ p ∈ ofs rs, Pt0 p := fun p hp => by
  obtain ⟨r, hr, e⟩ := List.mem_filterMap.mp hp
  have := h r hr
  cases r with
  | of n q =>
    cases e
    exact Part.pt0 this
  | _ => cases e
theorem sts_ok {rs : List Row} (h : ∀ r ∈ rs, RowOk r) : ∀ p ∈ sts rs, Pt0 p := fun p hp => by
  obtain ⟨q, hq, rfl⟩ := List.mem_map.mp hp
  obtain ⟨r, hr, e⟩ := List.mem_filterMap.mp hq
  have := h r hr
  cases r with
  | steps n q =>
    cases e
    exact great_ok this.2.1 pt00
  | _ => cases e
def Wt (ps : List Qp) (m : Int) : Prop := 60 * Nt ps ≤ m * Pb ps
theorem wt_nil {m : Int} (h : 0 ≤ m) : Wt [] m := by
  show 60 * 0 ≤ m * 1
  omega
theorem wt_app {xs ys : List Qp} {m n : Int} (fx : ∀ x ∈ xs, Fr x) (fy : ∀ x ∈ ys, Fr x) (h1 : Wt xs m) (h2 : Wt ys n) : Wt (xs ++ ys) (m + n) := by
  unfold Wt at *
  rw [Nt_app, Pb_app]
  have p1 := Pb_pos fx
  have p2 := Pb_pos fy
  have a := Int.mul_le_mul_of_nonneg_right h1 (Int.le_of_lt p2)
  have b := Int.mul_le_mul_of_nonneg_right h2 (Int.le_of_lt p1)
  have e1 : 60 * (Nt xs * Pb ys) = 60 * Nt xs * Pb ys := by ac_rfl
  have e2 : 60 * (Pb xs * Nt ys) = 60 * Nt ys * Pb xs := by ac_rfl
  have e3 : m * (Pb xs * Pb ys) = m * Pb xs * Pb ys := by ac_rfl
  have e4 : n * (Pb xs * Pb ys) = n * Pb ys * Pb xs := by ac_rfl
  rw [Int.mul_add, Int.add_mul, e1, e2, e3, e4]
  exact Int.add_le_add a b
theorem wt_one {p : Qp} {m : Int} (h : 60 * p.1 ≤ m * p.2) : Wt [p] m := by
  show 60 * (p.1 * 1 + p.2 * 0) ≤ m * (p.2 * 1)
  rw [Int.mul_one, Int.mul_one, Int.mul_zero, Int.add_zero]
  exact h
theorem great_le {m : Int} : ∀ {rs : List Rate} {g : Qp}, (∀ r ∈ rs, 60 * r.2.1 ≤ m * r.2.2) → 60 * g.1 ≤ m * g.2 → 60 * (great rs g).1 ≤ m * (great rs g).2
  | [], _, _, h => h
  | r :: rs, g, hr, h => by
    unfold great
    refine great_le (fun x hx => hr x (List.mem_cons_of_mem _ hx)) ?_
    split
    · exact hr r List.mem_cons_self
    · exact h
def RowsW (rs : List Row) (m : Int) : Prop := ∃ a b : Int, Wt (ofs rs) a ∧ Wt (sts rs) b ∧ a + b ≤ m
def RowW : Row → Int → Prop
  | .of _ p, m => 60 * p.1 ≤ m * p.2
  | .steps _ rs, m => ∀ r ∈ rs, 60 * r.2.1 ≤ m * r.2.2
  | _, _ => True
theorem ofs_app (xs ys : List Row) : ofs (xs ++ ys) = ofs xs ++ ofs ys := by
  unfold ofs
  rw [List.filterMap_append]
theorem sts_app (xs ys : List Row) : sts (xs ++ ys) = sts xs ++ sts ys := by
  unfold sts
  rw [List.filterMap_append, List.map_append]
theorem rowsW_add {rs : List Row} {r : Row} {m t : Int} (hs : ∀ x ∈ rs, RowOk x) (hr : RowOk r) (h : RowsW rs m) (ht : 0 ≤ t) (hw : RowW r t) : RowsW (rs ++ [r]) (m + t) := by
  obtain ⟨a, b, h1, h2, h3⟩ := h
  unfold RowsW
  rw [ofs_app, sts_app]
  have f1 : ∀ x ∈ ofs rs, Fr x := fun x hx => (ofs_ok hs x hx).fr
  have f2 : ∀ x ∈ sts rs, Fr x := fun x hx => (sts_ok hs x hx).fr
  have g1 : ∀ x ∈ ofs [r], Fr x := fun x hx => (ofs_ok (rs := [r]) (fun y hy => by rw [List.mem_singleton] at hy; subst hy; exact hr) x hx).fr
  have g2 : ∀ x ∈ sts [r], Fr x := fun x hx => (sts_ok (rs := [r]) (fun y hy => by rw [List.mem_singleton] at hy; subst hy; exact hr) x hx).fr
  cases r with
  | of n p => exact ⟨a + t, b + 0, wt_app f1 g1 h1 (wt_one hw), wt_app f2 g2 h2 (wt_nil (by decide)), by omega⟩
  | steps n qs =>
    refine ⟨a + 0, b + t, wt_app f1 g1 h1 (wt_nil (by decide)), wt_app f2 g2 h2 (wt_one (great_le hw ?_)), by omega⟩
    show 60 * 0 ≤ t * 1
    omega
  | left n p => exact ⟨a + 0, b + 0, wt_app f1 g1 h1 (wt_nil (by decide)), wt_app f2 g2 h2 (wt_nil (by decide)), by omega⟩
  | length n p => exact ⟨a + 0, b + 0, wt_app f1 g1 h1 (wt_nil (by decide)), wt_app f2 g2 h2 (wt_nil (by decide)), by omega⟩
structure RowsOk (rs : List Row) (m : Nat) : Prop where
  len : rs.length ≤ m
  ok : ∀ r ∈ rs, RowOk r

def sp__law_part : GF := fun ds w _ k => ∃ c n : Nat, ds = [.st] ∧ (w.n = some c ∧ n + 3 ≤ c) ∧ ∀ p c', Part p → p.1 ≤ p.2 → p.2 ≤ 60 → n ≤ c' → k (fD p) ⟨w.M, some c'⟩
theorem lt212 {p : Qp} (h : p.1.natAbs ≤ 4000 ∧ p.2.natAbs ≤ 4000) : Lt2 12 p := ⟨Nat.lt_of_le_of_lt h.1 (by decide), Nat.lt_of_le_of_lt h.2 (by decide)⟩
theorem part_norm {t b : Int} (ht : 0 < t) (hb : 0 < b) (h1 : t ≤ 4000) (h2 : b ≤ 4000) : Part (norm t b) ∧ (norm t b).1 ≤ t ∧ (norm t b).2 ≤ b ∧ (norm t b).1 * b = t * (norm t b).2 := by
  have b0 : b ≠ 0 := by omega
  have f := fr_norm (t := t) b0
  have l := fr_le (t := t) b0
  have e := norm_eq (t := t) b0
  have fp := f.pos
  have p1 : 0 < (norm t b).1 := by
    have : 0 < (norm t b).1 * b := by
      rw [e]
      exact Int.mul_pos ht fp
    exact Int.pos_of_mul_pos_left this hb
  have l1 : (norm t b).1.natAbs ≤ t.natAbs := l.1
  have l2 : (norm t b).2.natAbs ≤ b.natAbs := l.2
  exact ⟨⟨f, lt212 ⟨by omega, by omega⟩, p1⟩, by omega, by omega, e⟩
theorem small_big {x : Int} (h : x.natAbs ≤ 100000) : Big x := Nat.lt_of_le_of_lt h (by decide +kernel)
theorem low_use {t b : Int} {w : Wd} {kx : KX} {k : KD} (ht : 0 < t) (hb : 0 < b) (h1 : t ≤ 4000) (h2 : b ≤ 4000) (h : ∀ p, Part p → p.1 ≤ t → p.2 ≤ b → p.1 * b = t * p.2 → k (fD p) w) : sp__law_lowest [.int t, .int b] w kx k := by
  obtain ⟨a1, a2, a3, a4⟩ := part_norm ht hb h1 h2
  exact ⟨t, b, rfl, ⟨by omega, small_big (by omega), small_big (by omega)⟩, h _ a1 a2 a3 a4⟩
theorem log_int {m : Int} (h0 : 0 ≤ m) (h : m ≤ 1000000000) : m.natAbs.log2 < 9000 := log_of (Nat.lt_of_le_of_lt (show m.natAbs ≤ 1000000000 by omega) (by decide))
abbrev s__law_part : Stmt := topS 24
theorem sc__law_part : FnScope ["_law_state", "_law_below"] ["_law_state"] (defScope s__law_part) := ⟨rfl, rfl, rfl, by decide +kernel, rfl, by decide +kernel, by decide +kernel⟩
def g__law_part : GS := (gSeq (gSet 1 (gBin ixD (DL.gLst (gaCons (gC (.int 2)) (gaCons (gC (.int 3)) (gaCons (gC (.int 4)) (gaCons (gC (.int 5)) (gaCons (gC (.int 10)) (gaCons (gBin addD (gC (.int 1)) (gCall0 2 sp__law_take (gaCons (gVar 0) (gaCons (gC (.int 60)) gaNil)))) gaNil))))))) (gCall0 2 sp__law_take (gaCons (gVar 0) (gaCons (gC (.int 6)) gaNil)))))
  (gRet (gCall0 2 sp__law_lowest (gaCons (gBin addD (gC (.int 1)) (gCall0 2 sp__law_take (gaCons (gVar 0) (gaCons (gVar 1) gaNil)))) (gaCons (gVar 1) gaNil)))))
theorem w__law_part {P : Program} {w : World} {K : PySem.W.Frag} {mg : Str → Option Value} {base : Heap} (T : DefAt K mg "_law_part" s__law_part ["_law_state"]) (B : Blt mg) (F__law_lowest : FnAt P w K mg base CX0 1 "_law_lowest" 2 sp__law_lowest) (F__law_take : FnAt P w K mg base CX0 1 "_law_take" 2 sp__law_take) : FnAt P w K mg base CX0 2 "_law_part" 1 (sem0 2 g__law_part) := by
  have nd := sc__law_part.nd
  exact T.fn0 sc__law_part (fun f cdv A outer s H E hr => (dss_cons (ds_set (i := 1) nd rfl (by first | exact Or.inl rfl | exact Or.inr rfl) (de_ix (de_lst (da_cons de_int (da_cons de_int (da_cons de_int (da_cons de_int (da_cons de_int (da_cons (de_add de_int (de_call0 F__law_take hr (by rfl) (da_cons (de_var 0) (da_cons de_int da_nil)))) da_nil))))))) (de_call0 F__law_take hr (by rfl) (da_cons (de_var 0) (da_cons de_int da_nil)))))
  (dss_one (ds_ret (de_call0 F__law_lowest hr (by rfl) (da_cons (de_add de_int (de_call0 F__law_take hr (by rfl) (da_cons (de_var 0) (da_cons (de_var 1) da_nil)))) (da_cons (de_var 1) da_nil)))))))

theorem v__law_part : ∀ ds w kx k, sp__law_part ds w kx k → sem0 2 g__law_part ds w kx k := by
  rintro ds w kx k ⟨c, n, rfl, ⟨hn, hc⟩, hk⟩
  have e : rho 2 [D.st] = [some .st, none] := rfl
  simp! only [g__law_part, e, sp__law_take]
  refine take_use (n + 2) hn (by omega) ⟨by decide, log_of (by decide)⟩ fun r1 c1 h0 h1 hc1 => ⟨by decide, take_use (n + 1) rfl (by omega) ⟨by decide, log_of (by decide)⟩ fun r2 c2 h2 h3 hc2 => ?_⟩
  refine ix_all (fun d => ∃ b : Int, d = .int b ∧ 0 < b ∧ b ≤ 60) h2 h3 (all_cons ⟨_, rfl, by decide, by decide⟩ (all_cons ⟨_, rfl, by decide, by decide⟩ (all_cons ⟨_, rfl, by decide, by decide⟩ (all_cons ⟨_, rfl, by decide, by decide⟩ (all_cons ⟨_, rfl, by decide, by decide⟩ (all_cons ⟨_, rfl, by omega, by omega⟩ all_nil)))))) ?_
  rintro d ⟨b, rfl, hb0, hb⟩
  simp! only [id_eq]
  refine take_use n rfl (by omega) ⟨hb0, log_int (by omega) (by omega)⟩ fun r3 c3 h4 h5 hc3 => ?_
  simp! only [id_eq]
  refine low_use (by omega) hb0 (by omega) (by omega) fun p hp p1 p2 p3 => hk p c3 hp ?_ (by omega) hc3
  have fp := hp.fr.pos
  have : p.1 * b ≤ p.2 * b := by
    rw [p3, Int.mul_comm]
    exact Int.mul_le_mul_of_nonneg_left (by omega) (by omega)
  exact Int.le_of_mul_le_mul_right this hb0
theorem part_use {w : Wd} {c : Nat} {kx : KX} {k : KD} (n : Nat) (hn : w.n = some c) (hc : n + 3 ≤ c) (h : ∀ p c', Part p → p.1 ≤ p.2 → p.2 ≤ 60 → n ≤ c' → k (fD p) ⟨w.M, some c'⟩) : sp__law_part [.st] w kx k := ⟨c, n, rfl, ⟨hn, hc⟩, h⟩
theorem ok__law_part {P : Program} {w : World} {K : PySem.W.Frag} {mg : Str → Option Value} {base : Heap} (T : DefAt K mg "_law_part" s__law_part ["_law_state"]) (B : Blt mg) (F__law_lowest : FnAt P w K mg base CX0 1 "_law_lowest" 2 sp__law_lowest) (F__law_take : FnAt P w K mg base CX0 1 "_law_take" 2 sp__law_take) : FnAt P w K mg base CX0 2 "_law_part" 1 sp__law_part := (w__law_part T B F__law_lowest F__law_take).imp v__law_part


end LW

namespace LW
open PySem PySem.Spec PyProof.Rows L2 RZ DL
local macro_rules | `(tactic| simp! only [$xs,*] $[$loc]?) => `(tactic| simp only [$xs,*, sem0,List.map_cons,List.map_nil,List.length_cons,List.length_nil,gSeq,gNext,gRet,gRetN,gIfS,gSet,gPar,gAsg,gDrop,gVar,gC,gBin,gUn,gB,gTru,gAnd,gOr,gNot,gAndV,gOrV,gNotV,gIf,gChain,gaNil,gaCons,DL.gTup,DL.gLst,gCB,gCall0,gAug,addD_i,addD_s,addD_l,addD_t,subD_i,mulD_i,mulD_l,fdivD_i,modD_i,powD_i,ltD_i,ltD_s,leD_i,gtD_i,geD_i,isD_n,isnotD_n,isNonD_non,isNonD_bl,isNonD_int,isNonD_str,isNonD_lst,isNonD_tup,negD_i,iaddD_i,truD_non,truD_bl,truD_int,truD_str,truD_lst,truD_tup,someK_some,ixD_l,ixD_t,fAbs_i,fInt_i,fInt_b,fMin2_i,fLen_l,fLen_t,fLen_s,fList_l,fList_t,fTuple_l,fTuple_t,optBK_some,fIsi_non,fIsi_bl,fIsi_int,fIsi_str,fIsi_lst,fIsi_tup,List.getElem?_cons_zero,List.getElem?_cons_succ,List.set_cons_zero,List.set_cons_succ,DL.ggName,ggNil0,ggCons1,ggTup2,ggTup3,gFor,giSeq,gLc,gYes,wipeR,true_and,and_true,at_0,at_1,at_2,kit_int_int,kit_bool_int,kit_str_int,kit_non_int,kit_list_int,kit_tuple_int,kit_int_bool,kit_bool_bool,kit_str_bool,kit_non_bool,kit_list_bool,kit_tuple_bool,kit_int_str,kit_bool_str,kit_str_str,kit_non_str,kit_list_str,kit_tuple_str,kit_int_list,kit_bool_list,kit_str_list,kit_non_list,kit_list_list,kit_tuple_list,kit_int_tuple,kit_bool_tuple,kit_str_tuple,kit_non_tuple,kit_list_tuple,kit_tuple_tuple,eqD_i,neD_i,eqD_s,neD_s,eqD_f,neD_f,Nat.zero_add,Nat.reduceAdd,nc0,nc1,nc2,nc3,nc4,nc5,nc6,nc7,nc8,nc9,eq_self,decide_true,decide_false,Int.reduceEq,Int.reduceLT,Int.reduceLE,Int.reduceNeg,Bool.not_true,Bool.not_false,Bool.false_eq_true,if_true,if_false,↓reduceIte,false_and,and_false,List.all_cons,List.all_nil,List.any_cons,List.any_nil,id_eq,Bool.and_true,Bool.true_and,Bool.or_false,Bool.false_or,Bool.and_false,Bool.false_and,gCut,eqD_b,neD_b,giZip,reduceCtorEq,Bool.true_eq_false,Bool.false_eq_true,gRevL,gSl,goNone,goSome,slD_l,ne_eq,not_false_eq_true,not_true_eq_false,gBM,isTy_l,isTy_s,new_at,new_set,isTy_new,cellK_new,append_new,popAt_new,gFrz_eq,frzK_new,fLen_new,fTuple_new,ixD_new,slA_l,slA_t,slA_new,addTD_t,addCD_l,mulCD_l,isbD_b,isnotbD_b,mSplitC_s,gLstC,gTr,ggSub,lstK_l,lstK_r,addLD_eq] $[$loc]?)


def nameOf : Row → Str
  | .of n _ => n
  | .steps n _ => n
  | .left n _ => n
  | .length n _ => n
structure Pt (p : Qp) : Prop where
  pt : Part p
  le : p.1 ≤ p.2
  b : p.2 ≤ 60
def Ups : Int → List Rate → Prop
  | _, [] => False
  | l, r :: rs => (r.1 = none ∧ rs = []) ∨ ∃ u, r.1 = some u ∧ l < u ∧ u ≤ 1000000 ∧ Ups u rs
def UpTo : Int → List Rate → Int → Prop
  | l, [], u => u = l
  | l, r :: rs, u => ∃ v, r.1 = some v ∧ l < v ∧ v ≤ u ∧ UpTo v rs u
theorem upTo_snoc {v : Int} {p : Qp} : ∀ {rs : List Rate} {l u : Int}, UpTo l rs u → u < v → UpTo l (rs ++ [(some v, p)]) v
  | [], l, u, h, hv => ⟨v, rfl, by
    have h : u = l := h
    omega, Int.le_refl _, rfl⟩
  | r :: rs, l, u, ⟨w, h1, h2, h3, h4⟩, hv => ⟨w, h1, h2, by omega, upTo_snoc h4 hv⟩
theorem ups_of {p : Qp} : ∀ {rs : List Rate} {l u : Int}, UpTo l rs u → u ≤ 1000000 → Ups l (rs ++ [(none, p)])
  | [], _, _, _, _ => .inl ⟨rfl, rfl⟩
  | r :: rs, l, u, ⟨w, h1, h2, h3, h4⟩, hu => .inr ⟨w, h1, h2, by omega, ups_of h4 hu⟩
theorem ups_none : ∀ {rs : List Rate} {l : Int}, Ups l rs → ∃ q, (none, q) ∈ rs
  | [], _, h => h.elim
  | r :: rs, _, .inl ⟨h, _⟩ => ⟨r.2, by rw [← h]; exact List.mem_cons_self⟩
  | r :: rs, _, .inr ⟨u, _, _, _, h⟩ => by
    obtain ⟨q, hq⟩ := ups_none h
    exact ⟨q, List.mem_cons_of_mem _ hq⟩
def RowS : Row → Prop
  | .of _ p => Pt p
  | .steps _ rs => 2 ≤ rs.length ∧ rs.length ≤ 4 ∧ (∀ r ∈ rs, Pt r.2) ∧ Ups 0 rs
  | .left _ p => Pt p
  | .length _ m => 0 < m ∧ m ≤ 1000
theorem RowS.ok {r : Row} (h : RowS r) : RowOk r := by
  cases r with
  | of n p => exact Pt.pt h
  | steps n rs => exact ⟨by have := h.2.1; omega, fun x hx => (h.2.2.1 x hx).pt, ups_none h.2.2.2⟩
  | left n p => exact Pt.pt h
  | length n m => exact h
theorem pt_low {p : Qp} {t : Int} (hp : Part p) (p2 : p.2 ≤ 60) (p3 : p.1 * 60 = t * p.2) (ht : t ≤ 60) : Pt p := by
  refine ⟨hp, ?_, p2⟩
  have fp := hp.fr.pos
  have : p.1 * 60 ≤ p.2 * 60 := by
    rw [p3, Int.mul_comm p.2]
    exact Int.mul_le_mul_of_nonneg_right ht (by omega)
  omega
def sp__law_row : GF := fun ds w _ k => ∃ (s : Str) (room : Int) (c n : Nat), ds = [.st, .str s, .int room] ∧ ((0 ≤ room ∧ room ≤ 60) ∧ w.n = some c ∧ n + 20 ≤ c) ∧ ∀ r t c', RowS r → nameOf r = s → RowW r t → 0 ≤ t → t ≤ room → n ≤ c' → k (.tup [rowD r, .int t]) ⟨w.M, some c'⟩
theorem sixty {p : Qp} {m t : Int} (h : p.1 * 60 = t * p.2) (hp : 0 < p.2) (l : t ≤ m) : 60 * p.1 ≤ m * p.2 := by
  rw [Int.mul_comm, h]
  exact Int.mul_le_mul_of_nonneg_right l (by omega)
abbrev s__law_row : Stmt := topS 25
theorem sc__law_row : FnScope ["_law_state", "_law_name", "_law_room", "_law_way", "_law_most", "_law_rates", "_law_upto", "_law_turn"] ["_law_state", "_law_name", "_law_room"] (defScope s__law_row) := ⟨rfl, rfl, rfl, by decide +kernel, rfl, by decide +kernel, by decide +kernel⟩
def g__law_row : GS := (gSeq (gSet 3 (gCall0 2 sp__law_take (gaCons (gVar 0) (gaCons (gC (.int 8)) gaNil))))
  (gSeq (gIfS (gB (gBin gtD (gVar 3) (gC (.int 5)))) (gRet (gTup (gaCons (gTup (gaCons (gC (.str "length")) (gaCons (gVar 1) (gaCons (gBin addD (gC (.int 1)) (gCall0 2 sp__law_take (gaCons (gVar 0) (gaCons (gBin ixD (DL.gLst (gaCons (gC (.int 5)) (gaCons (gC (.int 1000)) gaNil))) (gCall0 2 sp__law_take (gaCons (gVar 0) (gaCons (gC (.int 2)) gaNil)))) gaNil)))) gaNil)))) (gaCons (gC (.int 0)) gaNil)))) gNext)
  (gSeq (gIfS (gOr (gB (gBin gtD (gVar 3) (gC (.int 3)))) (gB (gBin eqD (gVar 2) (gC (.int 0))))) (gRet (gTup (gaCons (gTup (gaCons (gC (.str "left")) (gaCons (gVar 1) (gaCons (gCall0 1 sp__law_part (gaCons (gVar 0) gaNil)) gaNil)))) (gaCons (gC (.int 0)) gaNil)))) gNext)
  (gSeq (gSet 4 (gBin addD (gC (.int 1)) (gCall0 2 sp__law_take (gaCons (gVar 0) (gaCons (gCB fMin2 (gaCons (gVar 2) (gaCons (gBin ixD (DL.gLst (gaCons (gC (.int 12)) (gaCons (gC (.int 60)) gaNil))) (gBin fdivD (gCall0 2 sp__law_take (gaCons (gVar 0) (gaCons (gC (.int 3)) gaNil))) (gC (.int 2)))) gaNil))) gaNil)))))
  (gSeq (gIfS (gB (gBin gtD (gVar 3) (gC (.int 1)))) (gRet (gTup (gaCons (gTup (gaCons (gC (.str "of")) (gaCons (gVar 1) (gaCons (gCall0 2 sp__law_lowest (gaCons (gVar 4) (gaCons (gC (.int 60)) gaNil))) gaNil)))) (gaCons (gVar 4) gaNil)))) gNext)
  (gSeq (gSet 5 (gLstC gaNil))
  (gSeq (gSet 6 (gC (.int 0)))
  (gSeq (gFor (giRange1 (gaCons (gBin addD (gC (.int 1)) (gCall0 2 sp__law_take (gaCons (gVar 0) (gaCons (gC (.int 3)) gaNil)))) gaNil)) (ggName 7) (gSeq (gSet 6 (gBin addD (gBin addD (gVar 6) (gC (.int 1))) (gCall0 2 sp__law_take (gaCons (gVar 0) (gaCons (gBin ixD (DL.gLst (gaCons (gC (.int 3)) (gaCons (gC (.int 9)) gaNil))) (gCall0 2 sp__law_take (gaCons (gVar 0) (gaCons (gC (.int 2)) gaNil)))) gaNil)))))
  (gDrop (gBM "list" mAppend (gVar 5) (gaCons (gTup (gaCons (gVar 6) (gaCons (gCall0 2 sp__law_lowest (gaCons (gBin addD (gC (.int 1)) (gCall0 2 sp__law_take (gaCons (gVar 0) (gaCons (gVar 4) gaNil)))) (gaCons (gC (.int 60)) gaNil))) gaNil))) gaNil)))))
  (gSeq (gDrop (gBM "list" mAppend (gVar 5) (gaCons (gTup (gaCons (gC .non) (gaCons (gCall0 2 sp__law_lowest (gaCons (gBin addD (gC (.int 1)) (gCall0 2 sp__law_take (gaCons (gVar 0) (gaCons (gVar 4) gaNil)))) (gaCons (gC (.int 60)) gaNil))) gaNil))) gaNil)))
  (gRet (gTup (gaCons (gTup (gaCons (gC (.str "steps")) (gaCons (gVar 1) (gaCons (gCB fTuple (gaCons (gVar 5) gaNil)) gaNil)))) (gaCons (gVar 4) gaNil)))))))))))))
theorem w__law_row {P : Program} {w : World} {K : PySem.W.Frag} {mg : Str → Option Value} {base : Heap} (T : DefAt K mg "_law_row" s__law_row ["_law_state", "_law_name", "_law_room"]) (B : Blt mg) (F__law_take : FnAt P w K mg base CX0 1 "_law_take" 2 sp__law_take) (F__law_lowest : FnAt P w K mg base CX0 1 "_law_lowest" 2 sp__law_lowest) (F__law_part : FnAt P w K mg base CX0 2 "_law_part" 1 sp__law_part) : FnAt P w K mg base CX0 3 "_law_row" 3 (sem0 8 g__law_row) := by
  have nd := sc__law_row.nd
  exact T.fn0 sc__law_row (fun f cdv A outer s H E hr => (dss_cons (ds_set (i := 3) nd rfl (by first | exact Or.inl rfl | exact Or.inr rfl) (de_call0 F__law_take hr (by rfl) (da_cons (de_var 0) (da_cons de_int da_nil))))
  (dss_cons (ds_if (dt_gt (de_var 3) de_int) (dss_one (ds_ret (de_tup (da_cons (de_tup (da_cons de_str (da_cons (de_var 1) (da_cons (de_add de_int (de_call0 F__law_take hr (by rfl) (da_cons (de_var 0) (da_cons (de_ix (de_lst (da_cons de_int (da_cons de_int da_nil))) (de_call0 F__law_take hr (by rfl) (da_cons (de_var 0) (da_cons de_int da_nil)))) da_nil)))) da_nil)))) (da_cons de_int da_nil))))) dss_nil)
  (dss_cons (ds_if (dt_w (dw_or (dt_gt (de_var 3) de_int) (dw_or1 (dt_eq hr (de_var 2) de_int)))) (dss_one (ds_ret (de_tup (da_cons (de_tup (da_cons de_str (da_cons (de_var 1) (da_cons (de_call0 F__law_part hr (by rfl) (da_cons (de_var 0) da_nil)) da_nil)))) (da_cons de_int da_nil))))) dss_nil)
  (dss_cons (ds_set (i := 4) nd rfl (by first | exact Or.inl rfl | exact Or.inr rfl) (de_add de_int (de_call0 F__law_take hr (by rfl) (da_cons (de_var 0) (da_cons (de_min2 B rfl (by rfl) (da_cons (de_var 2) (da_cons (de_ix (de_lst (da_cons de_int (da_cons de_int da_nil))) (de_fdiv (de_call0 F__law_take hr (by rfl) (da_cons (de_var 0) (da_cons de_int da_nil))) de_int)) da_nil))) da_nil)))))
  (dss_cons (ds_if (dt_gt (de_var 3) de_int) (dss_one (ds_ret (de_tup (da_cons (de_tup (da_cons de_str (da_cons (de_var 1) (da_cons (de_call0 F__law_lowest hr (by rfl) (da_cons (de_var 4) (da_cons de_int da_nil))) da_nil)))) (da_cons (de_var 4) da_nil))))) dss_nil)
  (dss_cons (ds_set (i := 5) nd rfl (by first | exact Or.inl rfl | exact Or.inr rfl) (de_lstC da_nil))
  (dss_cons (ds_set (i := 6) nd rfl (by first | exact Or.inl rfl | exact Or.inr rfl) de_int)
  (dss_cons (ds_for PassesOwn.never rfl (di_range1 B (by rfl) (da_cons (de_add de_int (de_call0 F__law_take hr (by rfl) (da_cons (de_var 0) (da_cons de_int da_nil)))) da_nil)) (dg_name (i := 7) nd rfl (by first | exact Or.inl rfl | exact Or.inr rfl)) (dss_cons (ds_set (i := 6) nd rfl (by first | exact Or.inl rfl | exact Or.inr rfl) (de_add (de_add (de_var 6) de_int) (de_call0 F__law_take hr (by rfl) (da_cons (de_var 0) (da_cons (de_ix (de_lst (da_cons de_int (da_cons de_int da_nil))) (de_call0 F__law_take hr (by rfl) (da_cons (de_var 0) (da_cons de_int da_nil)))) da_nil)))))
  (dss_one (ds_expr (de_bm PySem.F.plainAttrs_list PySem.F.slot_list_append (by rfl) mt_append ok_append (de_var 5) (da_cons (de_tup (da_cons (de_var 6) (da_cons (de_call0 F__law_lowest hr (by rfl) (da_cons (de_add de_int (de_call0 F__law_take hr (by rfl) (da_cons (de_var 0) (da_cons (de_var 4) da_nil)))) (da_cons de_int da_nil))) da_nil))) da_nil) (by rfl) (by rfl) (by rfl) (by rfl) (by rfl))))))
  (dss_cons (ds_expr (de_bm PySem.F.plainAttrs_list PySem.F.slot_list_append (by rfl) mt_append ok_append (de_var 5) (da_cons (de_tup (da_cons de_non (da_cons (de_call0 F__law_lowest hr (by rfl) (da_cons (de_add de_int (de_call0 F__law_take hr (by rfl) (da_cons (de_var 0) (da_cons (de_var 4) da_nil)))) (da_cons de_int da_nil))) da_nil))) da_nil) (by rfl) (by rfl) (by rfl) (by rfl) (by rfl)))
  (dss_one (ds_ret (de_tup (da_cons (de_tup (da_cons de_str (da_cons (de_var 1) (da_cons (de_tuple B (by rfl) (da_cons (de_var 5) da_nil)) da_nil)))) (da_cons (de_var 4) da_nil)))))))))))))))

theorem v__law_row : ∀ ds w kx k, sp__law_row ds w kx k → gTr (sem0 8 g__law_row) ds w kx k := by
  rintro ds w kx k ⟨s, room, c, n, rfl, ⟨⟨hr0, hr1⟩, hn, hc⟩, hk⟩
  have e : rho 8 [D.st, D.str s, D.int room] = [some .st, some (.str s), some (.int room), none, none, none, none, none] := rfl
  have lw : ∀ {m : Nat} (r : Row) (t : Int), low m (.tup [rowD r, .int t]) = true := fun r t => by
    show (low _ (rowD r) && (true && true)) = true
    rw [low_row]
    rfl
  simp! only [g__law_row, e, sp__law_take]
  refine take_use (n + 19) hn (by omega) ⟨by decide, log_of (by decide)⟩ fun way c1 h0 h1 hc1 => ?_
  simp! only [id_eq]
  refine ite2 (fun _ => ?_) (fun _ => ?_)
  · refine ⟨by decide, take_use (n + 18) rfl (by omega) ⟨by decide, log_of (by decide)⟩ fun r1 c2 h2 h3 hc2 => ?_⟩
    refine ix_all (fun d => ∃ b : Int, d = .int b ∧ 0 < b ∧ b ≤ 1000) h2 h3 (all_cons ⟨_, rfl, by decide, by decide⟩ (all_cons ⟨_, rfl, by decide, by decide⟩ all_nil)) ?_
    rintro d ⟨b, rfl, hb0, hb⟩
    refine take_use n rfl (by omega) ⟨hb0, log_int (by omega) (by omega)⟩ fun r2 c3 h4 h5 hc3 => ?_
    simp! only [id_eq]
    exact ⟨by decide, by decide, ⟨_, (List.append_nil _).symm⟩, lw (.length s (1 + r2)) 0, hk (.length s (1 + r2)) 0 c3 ⟨by omega, by omega⟩ rfl trivial (Int.le_refl _) hr0 hc3⟩
  have end_left : ∀ w', w' = (⟨w.M, some c1⟩ : Wd) → sp__law_part [.st] w' noX fun x w1 => 3 ≤ sizeLine ∧ 2 ≤ sizeLine ∧ (∃ r, w1.M = w.M ++ r) ∧ low w.M.length (.tup [.tup [.str "left", .str s, x], .int 0]) = true ∧ k (.tup [.tup [.str "left", .str s, x], .int 0]) ⟨w.M, w1.n⟩ := by
    rintro w' rfl
    exact part_use n rfl (by omega) fun p c2 hp pa pb hc2 => ⟨by decide, by decide, ⟨_, (List.append_nil _).symm⟩, lw (.left s p) 0, hk (.left s p) 0 c2 ⟨hp, pa, pb⟩ rfl trivial (Int.le_refl _) hr0 hc2⟩
  refine ite2 (fun _ => end_left _ rfl) (fun _ => ite2 (fun _ => end_left _ rfl) (fun hr => ?_))
  have hroom : 0 < room := by
    have : room ≠ 0 := by simpa using hr
    omega
  refine ⟨by decide, take_use (n + 18) rfl (by omega) ⟨by decide, log_of (by decide)⟩ fun r1 c2 h2 h3 hc2 => ?_⟩
  have h23 : 0 ≤ r1.fdiv 2 ∧ r1.fdiv 2 < 2 := by
    rw [Int.fdiv_eq_ediv_of_nonneg _ (by decide)]
    omega
  refine ⟨⟨by decide, by decide⟩, ?_⟩
  refine ix_all (fun d => ∃ b : Int, d = .int b ∧ 0 < b ∧ b ≤ 60) h23.1 h23.2 (all_cons ⟨_, rfl, by decide, by decide⟩ (all_cons ⟨_, rfl, by decide, by decide⟩ all_nil)) ?_
  rintro d ⟨b, rfl, hb0, hb⟩
  simp! only [id_eq]
  have hmin : 0 < (if b < room then b else room) ∧ (if b < room then b else room) ≤ room ∧ (if b < room then b else room) ≤ 60 := by
    split <;> omega
  refine take_use (n + 17) rfl (by omega) ⟨hmin.1, log_int (by omega) (by omega)⟩ fun r2 c3 h4 h5 hc3 => ?_
  simp! only [id_eq]
  obtain ⟨most, hmost⟩ : ∃ most, most = 1 + r2 := ⟨_, rfl⟩
  rw [← hmost]
  have m1 : 0 < most := by omega
  have m2 : most ≤ room := by omega
  refine ite2 (fun _ => ?_) (fun _ => ?_)
  · exact low_use m1 (by decide) (by omega) (by decide) fun p hp p1 p2 p3 => ⟨by decide, by decide, ⟨_, (List.append_nil _).symm⟩, lw (.of s p) most, hk (.of s p) most c3 (pt_low hp p2 p3 (by omega)) rfl (sixty p3 hp.fr.pos (Int.le_refl _)) (by omega) m2 (by omega)⟩
  · simp! only [giRange1]
    refine ⟨by decide, take_use (n + 16) rfl (by omega) ⟨by decide, log_of (by decide)⟩ fun r3 c4 h6 h7 hc4 => ?_⟩
    simp! only [id_eq]
    refine ⟨by omega, fun rem ρ w' => ∃ (rs : List Rate) (u : Int) (x : Option D) (c' : Nat), ρ = [some .st, some (.str s), some (.int room), some (.int way), some (.int most), some (.rf w.M.length), some (.int u), x] ∧ w' = ⟨w.M ++ [.lst (rs.map rateD)], some c'⟩ ∧
      (rs.length + rem.length ≤ 3 ∧ 1 ≤ rs.length + rem.length) ∧ (UpTo 0 rs u ∧ u ≤ 100001 * rs.length) ∧ (∀ r ∈ rs, Pt r.2 ∧ 60 * r.2.1 ≤ most * r.2.2) ∧ n + 4 + 4 * rem.length ≤ c', ⟨[], 0, none, c4, rfl, rfl, ?_, ⟨rfl, by decide⟩, (by intro r hr; cases hr), ?_⟩, ?_, ?_⟩
    · rw [range_len]
      simp
      omega
    · rw [range_len]
      omega
    · rintro ρ w' ⟨rs, u, x, c5, rfl, rfl, hl, ⟨hu, hu2⟩, hrs, hc5⟩
      rw [List.length_nil] at hl hc5
      refine ⟨trivial, ?_⟩
      simp! only [id_eq]
      refine take_use (n + 3) rfl (by omega) ⟨m1, log_int (by omega) (by omega)⟩ fun r4 c6 h8 h9 hc6 => ?_
      simp! only [id_eq]
      refine low_use (by omega) (by decide) (by omega) (by decide) fun p hp p1 p2 p3 => ?_
      have h60 := sixty p3 hp.fr.pos (show 1 + r4 ≤ most by omega)
      simp! only [id_eq]
      refine ⟨by decide, lt_sl (by rw [List.length_map]; omega), by decide, by decide, ⟨_, rfl⟩, ?_, ?_⟩
      · have := lw (m := w.M.length) (.steps s (rs ++ [(none, p)])) most
        rw [rowD, List.map_append] at this
        exact this
      · have := hk (.steps s (rs ++ [(none, p)])) most c6 ⟨by rw [List.length_append]; simp; omega, by rw [List.length_append]; simp; omega, fun r hr => ?_, ups_of hu (by omega)⟩ rfl (fun r hr => ?_) (by omega) m2 (by omega)
        · rw [rowD, List.map_append] at this
          exact this
        · rcases List.mem_append.mp hr with hr | hr
          · exact (hrs r hr).1
          · rw [List.mem_singleton.mp hr]
            exact pt_low hp p2 p3 (by omega)
        · rcases List.mem_append.mp hr with hr | hr
          · exact (hrs r hr).2
          · rw [List.mem_singleton.mp hr]
            exact h60
    · rintro z xs ρ w' ⟨rs, u, x, c5, rfl, rfl, hl, ⟨hu, hu2⟩, hrs, hc5⟩
      rw [List.length_cons] at hl hc5
      refine ⟨trivial, ?_⟩
      simp! only [id_eq]
      refine ⟨by decide, take_use (n + 4 + 4 * xs.length + 2) rfl (by omega) ⟨by decide, log_of (by decide)⟩ fun r4 c6 h8 h9 hc6 => ?_⟩
      refine ix_all (fun d => ∃ b : Int, d = .int b ∧ 0 < b ∧ b ≤ 100000) h8 h9 (all_cons ⟨_, rfl, by decide, by decide⟩ (all_cons ⟨_, rfl, by decide, by decide⟩ all_nil)) ?_
      rintro d ⟨b2, rfl, hb20, hb2⟩
      refine take_use (n + 4 + 4 * xs.length + 1) rfl (by omega) ⟨hb20, log_int (by omega) (by omega)⟩ fun r5 c7 h10 h11 hc7 => ?_
      simp! only [id_eq]
      refine take_use (n + 4 + 4 * xs.length) rfl (by omega) ⟨m1, log_int (by omega) (by omega)⟩ fun r6 c8 h12 h13 hc8 => ?_
      simp! only [id_eq]
      refine low_use (by omega) (by decide) (by omega) (by decide) fun p hp p1 p2 p3 => ?_
      have h60 := sixty p3 hp.fr.pos (show 1 + r6 ≤ most by omega)
      simp! only [id_eq]
      refine ⟨by decide, lt_sl (by rw [List.length_map]; omega), rs ++ [(some (u + 1 + r5), p)], u + 1 + r5, _, c8, rfl, by rw [List.map_append]; rfl, by rw [List.length_append]; simp; omega, ⟨upTo_snoc hu (by omega), by rw [List.length_append, List.length_singleton]; omega⟩, fun r hr => ?_, hc8⟩
      rcases List.mem_append.mp hr with hr | hr
      · exact hrs r hr
      · rw [List.mem_singleton.mp hr]
        exact ⟨pt_low hp p2 p3 (by omega), h60⟩
theorem ok__law_row {P : Program} {w : World} {K : PySem.W.Frag} {mg : Str → Option Value} {base : Heap} (T : DefAt K mg "_law_row" s__law_row ["_law_state", "_law_name", "_law_room"]) (B : Blt mg) (F__law_take : FnAt P w K mg base CX0 1 "_law_take" 2 sp__law_take) (F__law_lowest : FnAt P w K mg base CX0 1 "_law_lowest" 2 sp__law_lowest) (F__law_part : FnAt P w K mg base CX0 2 "_law_part" 1 sp__law_part) : FnAt P w K mg base CX0 3 "_law_row" 3 sp__law_row := (w__law_row T B F__law_take F__law_lowest F__law_part).trunc.imp v__law_row


end LW

namespace LW
open PySem PySem.Spec PyProof.Rows L2 RZ DL
local macro_rules | `(tactic| simp! only [$xs,*] $[$loc]?) => `(tactic| simp only [$xs,*, sem0,List.map_cons,List.map_nil,List.length_cons,List.length_nil,gSeq,gNext,gRet,gRetN,gIfS,gSet,gPar,gAsg,gDrop,gVar,gC,gBin,gUn,gB,gTru,gAnd,gOr,gNot,gAndV,gOrV,gNotV,gIf,gChain,gaNil,gaCons,DL.gTup,DL.gLst,gCB,gCall0,gAug,addD_i,addD_s,addD_l,addD_t,subD_i,mulD_i,mulD_l,fdivD_i,modD_i,powD_i,ltD_i,ltD_s,leD_i,gtD_i,geD_i,isD_n,isnotD_n,isNonD_non,isNonD_bl,isNonD_int,isNonD_str,isNonD_lst,isNonD_tup,negD_i,iaddD_i,truD_non,truD_bl,truD_int,truD_str,truD_lst,truD_tup,someK_some,ixD_l,ixD_t,fAbs_i,fInt_i,fInt_b,fMin2_i,fLen_l,fLen_t,fLen_s,fList_l,fList_t,fTuple_l,fTuple_t,optBK_some,fIsi_non,fIsi_bl,fIsi_int,fIsi_str,fIsi_lst,fIsi_tup,List.getElem?_cons_zero,List.getElem?_cons_succ,List.set_cons_zero,List.set_cons_succ,DL.ggName,ggNil0,ggCons1,ggTup2,ggTup3,gFor,giSeq,gLc,gYes,wipeR,true_and,and_true,at_0,at_1,at_2,kit_int_int,kit_bool_int,kit_str_int,kit_non_int,kit_list_int,kit_tuple_int,kit_int_bool,kit_bool_bool,kit_str_bool,kit_non_bool,kit_list_bool,kit_tuple_bool,kit_int_str,kit_bool_str,kit_str_str,kit_non_str,kit_list_str,kit_tuple_str,kit_int_list,kit_bool_list,kit_str_list,kit_non_list,kit_list_list,kit_tuple_list,kit_int_tuple,kit_bool_tuple,kit_str_tuple,kit_non_tuple,kit_list_tuple,kit_tuple_tuple,eqD_i,neD_i,eqD_s,neD_s,eqD_f,neD_f,Nat.zero_add,Nat.reduceAdd,nc0,nc1,nc2,nc3,nc4,nc5,nc6,nc7,nc8,nc9,eq_self,decide_true,decide_false,Int.reduceEq,Int.reduceLT,Int.reduceLE,Int.reduceNeg,Bool.not_true,Bool.not_false,Bool.false_eq_true,if_true,if_false,↓reduceIte,false_and,and_false,List.all_cons,List.all_nil,List.any_cons,List.any_nil,id_eq,Bool.and_true,Bool.true_and,Bool.or_false,Bool.false_or,Bool.and_false,Bool.false_and,gCut,eqD_b,neD_b,giZip,reduceCtorEq,Bool.true_eq_false,Bool.false_eq_true,gRevL,gSl,goNone,goSome,slD_l,ne_eq,not_false_eq_true,not_true_eq_false,gBM,isTy_l,isTy_s,new_at,new_set,isTy_new,cellK_new,append_new,popAt_new,gFrz_eq,frzK_new,fLen_new,fTuple_new,ixD_new,slA_l,slA_t,slA_new,addTD_t,addCD_l,mulCD_l,isbD_b,isnotbD_b,mSplitC_s,gLstC,gTr,ggSub,lstK_l,lstK_r,addLD_eq] $[$loc]?)


theorem row_use {w : Wd} {c : Nat} {kx : KX} {k : KD} {s : Str} {room : Int} (n : Nat) (hn : w.n = some c) (hc : n + 20 ≤ c) (hr : 0 ≤ room ∧ room ≤ 60) (h : ∀ r t c', RowS r → nameOf r = s → RowW r t → 0 ≤ t → t ≤ room → n ≤ c' → k (.tup [rowD r, .int t]) ⟨w.M, some c'⟩) : sp__law_row [.st, .str s, .int room] w kx k := ⟨s, room, c, n, rfl, ⟨hr, hn, hc⟩, h⟩
theorem deps_strs : ∀ ss : List Str, deps (ss.map D.str) = 0
  | [] => rfl
  | s :: ss => by
    show max 0 (deps (ss.map D.str)) = 0
    rw [deps_strs ss]
    rfl
theorem lays_strs : ∀ {ss : List Str}, (∀ s ∈ ss, PyData.strOk s = true) → lays (ss.map D.str) = true
  | [], _ => rfl
  | s :: ss, h => by
    have := h s List.mem_cons_self
    show (PyData.strOk s && lays (ss.map D.str)) = true
    rw [this, lays_strs fun x hx => h x (List.mem_cons_of_mem _ hx)]
    rfl
theorem ne_nil {ss : List Str} {w : Wd} {k : KD} (h : ∀ s ∈ ss, PyData.strOk s = true) (h0 : 0 < ss.length) (hk : k (.bl true) w) : neD (.lst (ss.map D.str)) (.lst []) w k := by
  obtain ⟨ps, h1, h2, h3⟩ := lays_pd (lays_strs h)
  show neD0 _ _ w k
  unfold neD0
  have e1 : toPD (.lst (ss.map D.str)) = some (.list ps) := by
    rw [toPD, h1]
    rfl
  have e2 : toPD (.lst []) = some (.list []) := rfl
  rw [e1, e2]
  have d0 : PyData.depth (.list ps) = 1 := by
    show PyData.depthAll ps + 1 = 1
    rw [h3, deps_strs]
  have s1 : SeqAt.shaped (.list ps) = true := by
    unfold SeqAt.shaped
    rw [show PyData.canLay0 (.list ps) = PyData.canLayAll0 ps from rfl, h2, d0]
    rfl
  refine ⟨s1, rfl, ?_⟩
  have ne : ps ≠ [] := by
    cases ss with
    | nil => cases h0
    | cons s r =>
      rintro rfl
      rw [List.map_cons, toPDs] at h1
      revert h1
      cases toPD (.str s) <;> cases toPDs (r.map D.str) <;> intro h1 <;> cases h1
  cases ps with
  | nil => exact absurd rfl ne
  | cons p r => exact hk
def rowK : D → D
  | .tup (s :: _) => s
  | _ => .non
theorem rowK_row (r : Row) : rowK (rowD r) = .str (kindS r) := by cases r <;> rfl
theorem rowK_rows (rs : List Row) : (rs.map rowD).map rowK = (rs.map kindS).map D.str := by
  rw [List.map_map, List.map_map]
  exact List.map_congr_left fun r _ => rowK_row r
theorem rowsW_mono {rs : List Row} {m n : Int} (h : RowsW rs m) (l : m ≤ n) : RowsW rs n := by
  obtain ⟨a, b, h1, h2, h3⟩ := h
  exact ⟨a, b, h1, h2, by omega⟩
theorem rowsW_nil {m : Int} (h : 0 ≤ m) : RowsW [] m := ⟨0, 0, wt_nil (by decide), wt_nil (by decide), by omega⟩
def lefts (rs : List Row) : Nat := (rs.map kindS).count ("left" : Str)
structure RowsS (rs : List Row) (ss : List Str) (m : Nat) : Prop where
  len : rs.length ≤ m
  ok : ∀ r ∈ rs, RowS r
  nm : ∀ r ∈ rs, nameOf r ∈ ss
  w : RowsW rs 60
  lf : lefts rs ≤ 3
theorem RowsS.rows {rs : List Row} {ss : List Str} {m n : Nat} (h : RowsS rs ss m) (hn : m ≤ n) : RowsOk rs n := ⟨Nat.le_trans h.len hn, fun r hr => (h.ok r hr).ok⟩
theorem lefts_snoc (rs : List Row) (r : Row) : lefts (rs ++ [r]) = lefts rs + if kindS r = "left" then 1 else 0 := by
  unfold lefts
  rw [List.map_append, List.count_append, List.map_singleton, List.count_singleton]
  by_cases h : kindS r = "left"
  · rw [if_pos h, if_pos (by rw [h]; exact beq_self_eq_true _)]
  · rw [if_neg h, if_neg (by rw [beq_iff_eq]; exact h)]
def sp__law_rows : GF := fun ds w _ k => ∃ (ss : List Str) (m c n : Nat), ds = [.st, .lst (ss.map D.str), .int (m : Int)] ∧ ((0 < ss.length ∧ ss.length ≤ 30 ∧ m ≤ 8 ∧ (∀ s ∈ ss, PyData.strOk s = true)) ∧ w.n = some c ∧ n + 21 * m ≤ c) ∧ ∀ rs c', RowsS rs ss m → n ≤ c' → k (.tup (rs.map rowD)) ⟨w.M, some c'⟩
abbrev s__law_rows : Stmt := topS 26
theorem sc__law_rows : FnScope ["_law_state", "_law_names_here", "_law_many", "_law_room", "_law_found", "_law_turn", "_law_row_here", "_law_taken", "_law_one"] ["_law_state", "_law_names_here", "_law_many"] (defScope s__law_rows) := ⟨rfl, rfl, rfl, by decide +kernel, rfl, by decide +kernel, by decide +kernel⟩
def g__law_rows : GS := (gSeq (gSet 3 (gC (.int 60)))
  (gSeq (gSet 4 (gLstC gaNil))
  (gSeq (gFor (giRange1 (gaCons (gBin mulD (gVar 2) (gCB fInt (gaCons (gBin neD (gVar 1) (DL.gLst gaNil)) gaNil))) gaNil)) (ggName 5) (gSeq (gAsg (gCall0 3 sp__law_row (gaCons (gVar 0) (gaCons (gBin ixD (gVar 1) (gCall0 2 sp__law_take (gaCons (gVar 0) (gaCons (gCB fLen (gaCons (gVar 1) gaNil)) gaNil)))) (gaCons (gVar 3) gaNil)))) (ggTup 2 (ggCons (ggName 6) (ggCons (ggName 7) ggNil))))
  (gSeq (gSet 3 (gBin subD (gVar 3) (gVar 7)))
  (gIfS (gOr (gB (gBin neD (gBin ixD (gVar 6) (gC (.int 0))) (gC (.str "left")))) (gB (gBin ltD (gBM "list" mCountS (gLc (giSeq (gVar 4)) (ggName 8) gYes (gBin ixD (gVar 8) (gC (.int 0))) [8]) (gaCons (gC (.str "left")) gaNil)) (gC (.int 3))))) (gDrop (gBM "list" mAppend (gVar 4) (gaCons (gVar 6) gaNil))) gNext))))
  (gRet (gCB fTuple (gaCons (gVar 4) gaNil))))))
theorem w__law_rows {P : Program} {w : World} {K : PySem.W.Frag} {mg : Str → Option Value} {base : Heap} (T : DefAt K mg "_law_rows" s__law_rows ["_law_state", "_law_names_here", "_law_many"]) (B : Blt mg) (F__law_row : FnAt P w K mg base CX0 3 "_law_row" 3 sp__law_row) (F__law_take : FnAt P w K mg base CX0 1 "_law_take" 2 sp__law_take) : FnAt P w K mg base CX0 4 "_law_rows" 3 (sem0 9 g__law_rows) := by
  have nd := sc__law_rows.nd
  exact T.fn0 sc__law_rows (fun f cdv A outer s H E hr => (dss_cons (ds_set (i := 3) nd rfl (by first | exact Or.inl rfl | exact Or.inr rfl) de_int)
  (dss_cons (ds_set (i := 4) nd rfl (by first | exact Or.inl rfl | exact Or.inr rfl) (de_lstC da_nil))
  (dss_cons (ds_for PassesOwn.never rfl (di_range1 B (by rfl) (da_cons (de_mul (de_var 2) (de_toint B (by rfl) (da_cons (de_ne hr (de_var 1) (de_lst da_nil)) da_nil))) da_nil)) (dg_name (i := 5) nd rfl (by first | exact Or.inl rfl | exact Or.inr rfl)) (dss_cons (ds_asg (de_call0 F__law_row hr (by rfl) (da_cons (de_var 0) (da_cons (de_ix (de_var 1) (de_call0 F__law_take hr (by rfl) (da_cons (de_var 0) (da_cons (de_len B (by rfl) (da_cons (de_var 1) da_nil)) da_nil)))) (da_cons (de_var 3) da_nil)))) (dg_tup rfl (dgs_cons (dg_name (i := 6) nd rfl (by first | exact Or.inl rfl | exact Or.inr rfl)) (dgs_cons (dg_name (i := 7) nd rfl (by first | exact Or.inl rfl | exact Or.inr rfl)) dgs_nil))))
  (dss_cons (ds_set (i := 3) nd rfl (by first | exact Or.inl rfl | exact Or.inr rfl) (de_sub (de_var 3) (de_var 7)))
  (dss_one (ds_if (dt_w (dw_or (dt_ne hr (de_ix (de_var 6) de_int) de_str) (dw_or1 (dt_lt (de_bm PySem.F.plainAttrs_list PySem.F.slot_list_count (by rfl) mt_countV ok_countS (de_lc (own := [("_law_one", 8)]) (us := [8]) rfl nd (di_seq (de_var 4)) (blkOk_by (N := ["_law_state", "_law_names_here", "_law_many", "_law_room", "_law_found", "_law_turn", "_law_row_here", "_law_taken", "_law_one"]) (sc := defScope s__law_rows) (by decide +kernel)) (by decide) (fun _ _ _ _ _ => (dg_name (i := 8) nd rfl (by first | exact Or.inl rfl | exact Or.inr rfl))) (fun _ _ _ _ _ => dts_nil) (fun _ _ _ _ _ => (de_ix (de_var 8) de_int))) (da_cons de_str da_nil) (by rfl) (by rfl) (by rfl) (by rfl) (by rfl)) de_int)))) (dss_one (ds_expr (de_bm PySem.F.plainAttrs_list PySem.F.slot_list_append (by rfl) mt_append ok_append (de_var 4) (da_cons (de_var 6) da_nil) (by rfl) (by rfl) (by rfl) (by rfl) (by rfl)))) dss_nil)))))
  (dss_one (ds_ret (de_tuple B (by rfl) (da_cons (de_var 4) da_nil))))))))

theorem v__law_rows : ∀ ds w kx k, sp__law_rows ds w kx k → gTr (sem0 9 g__law_rows) ds w kx k := by
  rintro ds w kx k ⟨ss, m, c, n, rfl, ⟨⟨hs0, hs1, hm, hss⟩, hn, hc⟩, hk⟩
  have e : rho 9 [D.st, D.lst (ss.map D.str), D.int (m : Int)] = [some .st, some (.lst (ss.map D.str)), some (.int m), none, none, none, none, none, none] := rfl
  simp! only [g__law_rows, e, giRange1, sp__law_take]
  refine ⟨by decide, by decide, ne_nil hss hs0 ?_⟩
  simp! only [id_eq]
  refine ⟨mulx_ok (a := 10) (b := 1) (Nat.lt_of_le_of_lt (show (m : Int).natAbs ≤ 8 by omega) (by decide)) (by decide) (by decide), ⟨by omega, by omega⟩, ?_⟩
  have em : ((m : Int) * 1).toNat = m := by omega
  rw [em]
  refine ⟨fun rem ρ w' => ∃ (rs : List Row) (room : Int) (x5 x6 x7 x8 : Option D) (c' : Nat), ρ = [some .st, some (.lst (ss.map D.str)), some (.int m), some (.int room), some (.rf w.M.length), x5, x6, x7, x8] ∧ w' = ⟨w.M ++ [.lst (rs.map rowD)], some c'⟩ ∧
    rs.length + rem.length ≤ m ∧ ((∀ r ∈ rs, RowS r ∧ nameOf r ∈ ss) ∧ RowsW rs (60 - room) ∧ lefts rs ≤ 3) ∧ (0 ≤ room ∧ room ≤ 60) ∧ n + 21 * rem.length ≤ c', ⟨[], 60, none, none, none, none, c, rfl, by rw [hn]; rfl, ?_, ⟨(by intro r hr; cases hr), rowsW_nil (by decide), by decide⟩, by decide, ?_⟩, ?_, ?_⟩
  · rw [range_len]
    simp
  · rw [range_len]
    exact hc
  · rintro ρ w' ⟨rs, room, x5, x6, x7, x8, c', rfl, rfl, h1, ⟨h2, h3, hlf⟩, h4, h5⟩
    rw [List.length_nil] at h1 h5
    refine ⟨trivial, ?_⟩
    simp! only [id_eq]
    exact ⟨⟨_, rfl⟩, low_rows rs, hk rs c' ⟨h1, fun r hr => (h2 r hr).1, fun r hr => (h2 r hr).2, rowsW_mono h3 (by omega), hlf⟩ h5⟩
  · rintro z xs ρ w' ⟨rs, room, x5, x6, x7, x8, c', rfl, rfl, h1, ⟨h2, h3, hlf⟩, ⟨h4, h4'⟩, h5⟩
    rw [List.length_cons] at h1 h5
    refine ⟨trivial, ?_⟩
    simp! only [id_eq]
    have hlen : ((ss.map D.str).length : Int) = ss.length := by rw [List.length_map]
    refine take_use (n + 21 * xs.length + 20) rfl (by omega) ⟨by omega, log_int (by omega) (by omega)⟩ fun r1 c1 g0 g1 hc1 => ?_
    refine ix_all (fun d => ∃ s : Str, d = .str s ∧ s ∈ ss) g0 g1 (fun x hx => ?_) ?_
    · obtain ⟨s, hs, rfl⟩ := List.mem_map.mp hx
      exact ⟨s, rfl, hs⟩
    rintro d ⟨s, rfl, hsm⟩
    refine row_use (n + 21 * xs.length) rfl (by omega) ⟨h4, h4'⟩ fun r t c2 g2 gn g3 g4 g5 hc2 => ?_
    simp! only [row0]
    have more : (kindS r ≠ "left" ∨ lefts rs < 3) → ∃ (rs' : List Row) (room' : Int) (y5 y6 y7 y8 : Option D) (c' : Nat), ([some .st, some (.lst (ss.map D.str)), some (.int m), some (.int (room - t)), some (.rf w.M.length), some z, some (rowD r), some (.int t), x8] : Rho) = [some .st, some (.lst (ss.map D.str)), some (.int m), some (.int room'), some (.rf w.M.length), y5, y6, y7, y8] ∧ (⟨w.M ++ [.lst ((rs ++ [r]).map rowD)], some c2⟩ : Wd) = ⟨w.M ++ [.lst (rs'.map rowD)], some c'⟩ ∧
      rs'.length + xs.length ≤ m ∧ ((∀ r ∈ rs', RowS r ∧ nameOf r ∈ ss) ∧ RowsW rs' (60 - room') ∧ lefts rs' ≤ 3) ∧ (0 ≤ room' ∧ room' ≤ 60) ∧ n + 21 * xs.length ≤ c' := by
      intro hkl
      refine ⟨rs ++ [r], room - t, _, _, _, _, c2, rfl, rfl, by rw [List.length_append]; simp; omega, ⟨fun q hq => ?_, ?_, ?_⟩, ⟨by omega, by omega⟩, hc2⟩
      · rcases List.mem_append.mp hq with hq | hq
        · exact h2 q hq
        · rw [List.mem_singleton.mp hq]
          exact ⟨g2, by rw [gn]; exact hsm⟩
      · have := rowsW_add (fun q hq => (h2 q hq).1.ok) g2.ok h3 g4 g3
        rw [show 60 - (room - t) = 60 - room + t by omega]
        exact this
      · rw [lefts_snoc]
        split
        · rcases hkl with z | z
          · exact absurd ‹_› z
          · omega
        · omega
    have less : ∃ (rs' : List Row) (room' : Int) (y5 y6 y7 y8 : Option D) (c' : Nat), ([some .st, some (.lst (ss.map D.str)), some (.int m), some (.int (room - t)), some (.rf w.M.length), some z, some (rowD r), some (.int t), x8] : Rho) = [some .st, some (.lst (ss.map D.str)), some (.int m), some (.int room'), some (.rf w.M.length), y5, y6, y7, y8] ∧ (⟨w.M ++ [.lst (rs.map rowD)], some c2⟩ : Wd) = ⟨w.M ++ [.lst (rs'.map rowD)], some c'⟩ ∧
      rs'.length + xs.length ≤ m ∧ ((∀ r ∈ rs', RowS r ∧ nameOf r ∈ ss) ∧ RowsW rs' (60 - room') ∧ lefts rs' ≤ 3) ∧ (0 ≤ room' ∧ room' ≤ 60) ∧ n + 21 * xs.length ≤ c' :=
      ⟨rs, room - t, _, _, _, _, c2, rfl, rfl, by omega, ⟨h2, rowsW_mono h3 (by omega), hlf⟩, ⟨by omega, by omega⟩, hc2⟩
    rw [List.map_append] at more
    have hl : (rs.map rowD).length ≤ 100000 := by rw [List.length_map]; omega
    refine ite2 (fun hkd => ⟨lt_sl hl, more (.inl (by simpa using hkd))⟩) (fun _ => ?_)
    refine lc_map rowK new_at hl (fun x hx k' hk' => ?_) ?_
    · obtain ⟨q, _, rfl⟩ := List.mem_map.mp hx
      rw [rowK_row] at hk'
      simp! only [row0]
      exact hk'
    · rw [rowK_rows]
      refine ⟨rfl, rs.map kindS, rfl, ?_⟩
      simp! only [id_eq]
      exact ite2 (fun hc => ⟨lt_sl hl, more (.inr (by have := of_decide_eq_true hc; show (rs.map kindS).count ("left" : Str) < 3; omega))⟩) (fun _ => less)
theorem ok__law_rows {P : Program} {w : World} {K : PySem.W.Frag} {mg : Str → Option Value} {base : Heap} (T : DefAt K mg "_law_rows" s__law_rows ["_law_state", "_law_names_here", "_law_many"]) (B : Blt mg) (F__law_row : FnAt P w K mg base CX0 3 "_law_row" 3 sp__law_row) (F__law_take : FnAt P w K mg base CX0 1 "_law_take" 2 sp__law_take) : FnAt P w K mg base CX0 4 "_law_rows" 3 sp__law_rows := (w__law_rows T B F__law_row F__law_take).trunc.imp v__law_rows


end LW

namespace LW
open PySem PySem.Spec PyProof.Rows L2 RZ DL


def sp__law_some_rows : GF := fun ds w _ k => ∃ c n : Nat, ds = [.st] ∧ (w.n = some c ∧ n + 340 ≤ c) ∧ ∀ rs ss c', RowsS rs ss 8 → (∀ s ∈ ss, nameB (.str s) = true) → n ≤ c' → k (.tup (rs.map rowD)) ⟨w.M, some c'⟩
theorem names_use6 {w : Wd} {c : Nat} {kx : KX} {k : KD} {m : Int} (n : Nat) (hn : w.n = some c) (hc : n + 144 ≤ c) (hm : 0 ≤ m ∧ m ≤ 12) (h : ∀ (ss : List Str) c', (ss.length : Int) = m → (∀ s ∈ ss, nameB (.str s) = true) → n ≤ c' → k (.lst (ss.map D.str)) ⟨w.M, some c'⟩) : sp__law_names [.st, .int m] w kx k :=
  ⟨m.toNat, c, n, by rw [Int.toNat_of_nonneg hm.1], ⟨by omega, hn, by omega⟩, fun ss c' h1 h2 h3 => h ss c' (by omega) h2 h3⟩
abbrev s__law_some_rows : Stmt := topS 27
theorem sc__law_some_rows : FnScope ["_law_state", "_law_many"] ["_law_state"] (defScope s__law_some_rows) := ⟨rfl, rfl, rfl, by decide +kernel, rfl, by decide +kernel, by decide +kernel⟩
def g__law_some_rows : GS := (gSeq (gSet 1 (gBin ixD (DL.gLst (gaCons (gCall0 2 sp__law_take (gaCons (gVar 0) (gaCons (gC (.int 5)) gaNil))) (gaCons (gCall0 2 sp__law_take (gaCons (gVar 0) (gaCons (gC (.int 9)) gaNil))) gaNil))) (gCB fInt (gaCons (gBin eqD (gCall0 2 sp__law_take (gaCons (gVar 0) (gaCons (gC (.int 6)) gaNil))) (gC (.int 0))) gaNil))))
  (gRet (gCall0 3 sp__law_rows (gaCons (gVar 0) (gaCons (gCall0 2 sp__law_names (gaCons (gVar 0) (gaCons (gBin addD (gC (.int 1)) (gCall0 2 sp__law_take (gaCons (gVar 0) (gaCons (gC (.int 5)) gaNil)))) gaNil))) (gaCons (gVar 1) gaNil))))))
theorem w__law_some_rows {P : Program} {w : World} {K : PySem.W.Frag} {mg : Str → Option Value} {base : Heap} (T : DefAt K mg "_law_some_rows" s__law_some_rows ["_law_state"]) (B : Blt mg) (F__law_rows : FnAt P w K mg base CX0 4 "_law_rows" 3 sp__law_rows) (F__law_names : FnAt P w K mg base CX0 3 "_law_names" 2 sp__law_names) (F__law_take : FnAt P w K mg base CX0 1 "_law_take" 2 sp__law_take) : FnAt P w K mg base CX0 5 "_law_some_rows" 1 (sem0 2 g__law_some_rows) := by
  have nd := sc__law_some_rows.nd
  exact T.fn0 sc__law_some_rows (fun f cdv A outer s H E hr => (dss_cons (ds_set (i := 1) nd rfl (by first | exact Or.inl rfl | exact Or.inr rfl) (de_ix (de_lst (da_cons (de_call0 F__law_take hr (by rfl) (da_cons (de_var 0) (da_cons de_int da_nil))) (da_cons (de_call0 F__law_take hr (by rfl) (da_cons (de_var 0) (da_cons de_int da_nil))) da_nil))) (de_toint B (by rfl) (da_cons (de_eq hr (de_call0 F__law_take hr (by rfl) (da_cons (de_var 0) (da_cons de_int da_nil))) de_int) da_nil))))
  (dss_one (ds_ret (de_call0 F__law_rows hr (by rfl) (da_cons (de_var 0) (da_cons (de_call0 F__law_names hr (by rfl) (da_cons (de_var 0) (da_cons (de_add de_int (de_call0 F__law_take hr (by rfl) (da_cons (de_var 0) (da_cons de_int da_nil)))) da_nil))) (da_cons (de_var 1) da_nil))))))))

theorem v__law_some_rows : ∀ ds w kx k, sp__law_some_rows ds w kx k → sem0 2 g__law_some_rows ds w kx k := by
  rintro ds w kx k ⟨c, n, rfl, ⟨hn, hc⟩, hk⟩
  have e : rho 2 [D.st] = [some .st, none] := rfl
  simp only [g__law_some_rows, e, sp__law_take, sem0,List.map_cons,List.map_nil,List.length_cons,List.length_nil,gSeq,gNext,gRet,gRetN,gIfS,gSet,gPar,gAsg,gDrop,gVar,gC,gBin,gUn,gB,gTru,gAnd,gOr,gNot,gAndV,gOrV,gNotV,gIf,gChain,gaNil,gaCons,DL.gTup,DL.gLst,gCB,gCall0,gAug,addD_i,addD_s,addD_l,addD_t,subD_i,mulD_i,mulD_l,fdivD_i,modD_i,powD_i,ltD_i,ltD_s,leD_i,gtD_i,geD_i,isD_n,isnotD_n,isNonD_non,isNonD_bl,isNonD_int,isNonD_str,isNonD_lst,isNonD_tup,negD_i,iaddD_i,truD_non,truD_bl,truD_int,truD_str,truD_lst,truD_tup,someK_some,ixD_l,ixD_t,fAbs_i,fInt_i,fInt_b,fMin2_i,fLen_l,fLen_t,fLen_s,fList_l,fList_t,fTuple_l,fTuple_t,optBK_some,fIsi_non,fIsi_bl,fIsi_int,fIsi_str,fIsi_lst,fIsi_tup,List.getElem?_cons_zero,List.getElem?_cons_succ,List.set_cons_zero,List.set_cons_succ,DL.ggName,ggNil0,ggCons1,ggTup2,ggTup3,gFor,giSeq,gLc,gYes,wipeR,true_and,and_true,at_0,at_1,at_2,kit_int_int,kit_bool_int,kit_str_int,kit_non_int,kit_list_int,kit_tuple_int,kit_int_bool,kit_bool_bool,kit_str_bool,kit_non_bool,kit_list_bool,kit_tuple_bool,kit_int_str,kit_bool_str,kit_str_str,kit_non_str,kit_list_str,kit_tuple_str,kit_int_list,kit_bool_list,kit_str_list,kit_non_list,kit_list_list,kit_tuple_list,kit_int_tuple,kit_bool_tuple,kit_str_tuple,kit_non_tuple,kit_list_tuple,kit_tuple_tuple,eqD_i,neD_i,eqD_s,neD_s,eqD_f,neD_f,Nat.zero_add,Nat.reduceAdd,nc0,nc1,nc2,nc3,nc4,nc5,nc6,nc7,nc8,nc9,eq_self,decide_true,decide_false,Int.reduceEq,Int.reduceLT,Int.reduceLE,Int.reduceNeg,Bool.not_true,Bool.not_false,Bool.false_eq_true,if_true,if_false,↓reduceIte,false_and,and_false,List.all_cons,List.all_nil,List.any_cons,List.any_nil,id_eq,Bool.and_true,Bool.true_and,Bool.or_false,Bool.false_or,Bool.and_false,Bool.false_and,gCut,eqD_b,neD_b,giZip,reduceCtorEq,Bool.true_eq_false,Bool.false_eq_true,gRevL,gSl,goNone,goSome,slD_l,ne_eq,not_false_eq_true,not_true_eq_false,gBM,isTy_l,isTy_s,new_at,new_set,isTy_new,cellK_new,append_new,popAt_new,gFrz_eq,frzK_new,fLen_new,fTuple_new,ixD_new,slA_l,slA_t,slA_new,addTD_t,addCD_l,mulCD_l,isbD_b,isnotbD_b,mSplitC_s,gLstC,gTr,ggSub,lstK_l,lstK_r,addLD_eq]
  refine take_use (n + 339) hn (by omega) ⟨by decide, log_of (by decide)⟩ fun r1 c1 a0 a1 hc1 => ?_
  refine take_use (n + 338) rfl (by omega) ⟨by decide, log_of (by decide)⟩ fun r2 c2 a2 a3 hc2 => ⟨by decide, take_use (n + 337) rfl (by omega) ⟨by decide, log_of (by decide)⟩ fun r3 c3 a4 a5 hc3 => ?_⟩
  rw [eqD_i, fInt_b]
  have hi : 0 ≤ (if decide (r3 = 0) = true then (1 : Int) else 0) ∧ (if decide (r3 = 0) = true then (1 : Int) else 0) < 2 := by split <;> decide
  refine ix_all (fun d => ∃ b : Int, d = .int b ∧ 0 ≤ b ∧ b ≤ 8) hi.1 hi.2 (all_cons ⟨_, rfl, by omega, by omega⟩ (all_cons ⟨_, rfl, by omega, by omega⟩ all_nil)) ?_
  rintro d ⟨b, rfl, hb0, hb⟩
  refine take_use (n + 336) rfl (by omega) ⟨by decide, log_of (by decide)⟩ fun r4 c4 a6 a7 hc4 => ?_
  rw [addD_i]
  refine names_use6 (n + 170) rfl (by omega) ⟨by omega, by omega⟩ fun ss c5 b1 b2 hc5 => ?_
  refine ⟨ss, b.toNat, c5, n, by rw [Int.toNat_of_nonneg hb0], ⟨⟨by omega, by omega, by omega, fun s hs => (nameB_ok (b2 s hs)).1⟩, rfl, by omega⟩, fun rs c6 b3 hc6 => hk rs ss c6 ⟨Nat.le_trans b3.len (by omega), b3.ok, b3.nm, b3.w, b3.lf⟩ b2 hc6⟩
theorem ok__law_some_rows {P : Program} {w : World} {K : PySem.W.Frag} {mg : Str → Option Value} {base : Heap} (T : DefAt K mg "_law_some_rows" s__law_some_rows ["_law_state"]) (B : Blt mg) (F__law_rows : FnAt P w K mg base CX0 4 "_law_rows" 3 sp__law_rows) (F__law_names : FnAt P w K mg base CX0 3 "_law_names" 2 sp__law_names) (F__law_take : FnAt P w K mg base CX0 1 "_law_take" 2 sp__law_take) : FnAt P w K mg base CX0 5 "_law_some_rows" 1 sp__law_some_rows := (w__law_some_rows T B F__law_rows F__law_names F__law_take).imp v__law_some_rows

theorem any_tl' {M : List Cell} {xs : List D} (h : ∀ x ∈ xs, anyD M x = true) (l : xs.length ≤ 1000) : anyD M (.tup xs) = true := by
  rw [anyD, anyDs_iff.mpr h, decide_eq_true l]
  rfl
theorem any_ll' {M : List Cell} {xs : List D} (h : ∀ x ∈ xs, anyD M x = true) (l : xs.length ≤ 1000) : anyD M (.lst xs) = true := by
  rw [anyD, anyDs_iff.mpr h, decide_eq_true l]
  rfl
structure Pu (z n : Nat) (d : D) : Prop where
  any : ∀ M, anyD M d = true
  fit : ∀ M, fitM M d = true
  nr : nrf d = true
  nl : nls d = true
  sz : szM d ≤ z
  dep : depM d ≤ n
structure Th (M : List Cell) (z n : Nat) (d : D) : Prop where
  any : anyD M d = true
  fit : fitM M d = true
  one : nrf d = true ∨ nls d = true
  sz : szM d ≤ z
  dep : depM d ≤ n
theorem Pu.th {M : List Cell} {z n : Nat} {d : D} (h : Pu z n d) : Th M z n d := ⟨h.any M, h.fit M, .inl h.nr, h.sz, h.dep⟩
theorem Pu.up {z n y m : Nat} {d : D} (h : Pu z n d) (a : z ≤ y) (b : n ≤ m) : Pu y m d := ⟨h.any, h.fit, h.nr, h.nl, Nat.le_trans h.sz a, Nat.le_trans h.dep b⟩
theorem Th.up {M : List Cell} {z n y m : Nat} {d : D} (h : Th M z n d) (a : z ≤ y) (b : n ≤ m) : Th M y m d := ⟨h.any, h.fit, h.one, Nat.le_trans h.sz a, Nat.le_trans h.dep b⟩
theorem fitMs_iff {M : List Cell} : ∀ {xs : List D}, fitMs M xs = true ↔ ∀ x ∈ xs, fitM M x = true
  | [] => by simp [fitMs]
  | x :: xs => by rw [fitMs, Bool.and_eq_true, fitMs_iff, List.forall_mem_cons]
theorem nrfs_iff : ∀ {xs : List D}, nrfs xs = true ↔ ∀ x ∈ xs, nrf x = true
  | [] => by simp [nrfs]
  | x :: xs => by rw [nrfs, Bool.and_eq_true, nrfs_iff, List.forall_mem_cons]
theorem nlss_iff : ∀ {xs : List D}, nlss xs = true ↔ ∀ x ∈ xs, nls x = true
  | [] => by simp [nlss]
  | x :: xs => by rw [nlss, Bool.and_eq_true, nlss_iff, List.forall_mem_cons]
theorem szMs_le {z : Nat} : ∀ {xs : List D}, (∀ x ∈ xs, szM x ≤ z) → szMs xs ≤ xs.length * z
  | [], _ => by simp [szMs]
  | x :: xs, h => by
    rw [szMs, List.length_cons, Nat.succ_mul]
    have := szMs_le (z := z) fun y hy => h y (List.mem_cons_of_mem _ hy)
    have := h x List.mem_cons_self
    omega
theorem szMs_app : ∀ {xs ys : List D}, szMs (xs ++ ys) = szMs xs + szMs ys
  | [], ys => by simp [szMs]
  | x :: xs, ys => by
    rw [List.cons_append, szMs, szMs, szMs_app]
    omega
theorem depMs_le {n : Nat} : ∀ {xs : List D}, (∀ x ∈ xs, depM x ≤ n) → depMs xs ≤ n
  | [], _ => by simp [depMs]
  | x :: xs, h => by
    rw [depMs]
    have := depMs_le (n := n) fun y hy => h y (List.mem_cons_of_mem _ hy)
    have := h x List.mem_cons_self
    omega
theorem pu_tup {z n m : Nat} {xs : List D} (h : ∀ x ∈ xs, Pu z n x) (l : xs.length ≤ m) (hm : m ≤ 1000) : Pu (1 + m * z) (n + 1) (.tup xs) where
  any M := any_tl' (fun x hx => (h x hx).any M) (by omega)
  fit M := by rw [fitM]; exact fitMs_iff.mpr fun x hx => (h x hx).fit M
  nr := by rw [nrf]; exact nrfs_iff.mpr fun x hx => (h x hx).nr
  nl := by rw [nls]; exact nlss_iff.mpr fun x hx => (h x hx).nl
  sz := by
    rw [szM]
    have := szMs_le fun x hx => (h x hx).sz
    have := Nat.mul_le_mul_right z l
    omega
  dep := by
    rw [depM]
    have := depMs_le fun x hx => (h x hx).dep
    omega
theorem th_lst {M : List Cell} {z n m : Nat} {xs : List D} (h : ∀ x ∈ xs, Pu z n x) (l : xs.length ≤ m) (hm : m ≤ 1000) : Th M (1 + m * z) (n + 1) (.lst xs) where
  any := any_ll' (fun x hx => (h x hx).any M) (by omega)
  fit := by rw [fitM]; exact fitMs_iff.mpr fun x hx => (h x hx).fit M
  one := .inl (by rw [nrf]; exact nrfs_iff.mpr fun x hx => (h x hx).nr)
  sz := by
    rw [szM]
    have := szMs_le fun x hx => (h x hx).sz
    have := Nat.mul_le_mul_right z l
    omega
  dep := by
    rw [depM]
    have := depMs_le fun x hx => (h x hx).dep
    omega
theorem th_ins {M : List Cell} {z n m y : Nat} {xs ys : List D} {o : D} (hx : ∀ x ∈ xs, Pu z n x) (ho : Th M y n o) (hy : ∀ x ∈ ys, Pu z n x) (l : xs.length + ys.length ≤ m) (hm : m ≤ 900) : Th M (1 + m * z + y) (n + 1) (.tup (xs ++ [o] ++ ys)) where
  any := any_tl' (fun x h => by
    rcases List.mem_append.mp h with h | h
    · rcases List.mem_append.mp h with h | h
      · exact (hx x h).any M
      · rw [List.mem_singleton.mp h]; exact ho.any
    · exact (hy x h).any M) (by rw [List.length_append, List.length_append, List.length_singleton]; omega)
  fit := by
    rw [fitM]
    refine fitMs_iff.mpr fun x h => ?_
    rcases List.mem_append.mp h with h | h
    · rcases List.mem_append.mp h with h | h
      · exact (hx x h).fit M
      · rw [List.mem_singleton.mp h]; exact ho.fit
    · exact (hy x h).fit M
  one := by
    rcases ho.one with q | q
    · left
      rw [nrf]
      refine nrfs_iff.mpr fun x h => ?_
      rcases List.mem_append.mp h with h | h
      · rcases List.mem_append.mp h with h | h
        · exact (hx x h).nr
        · rw [List.mem_singleton.mp h]; exact q
      · exact (hy x h).nr
    · right
      rw [nls]
      refine nlss_iff.mpr fun x h => ?_
      rcases List.mem_append.mp h with h | h
      · rcases List.mem_append.mp h with h | h
        · exact (hx x h).nl
        · rw [List.mem_singleton.mp h]; exact q
      · exact (hy x h).nl
  sz := by
    rw [szM, szMs_app, szMs_app]
    have a := szMs_le fun x h => (hx x h).sz
    have b := szMs_le fun x h => (hy x h).sz
    have c : szMs [o] = szM o := by simp [szMs]
    have d := ho.sz
    have e := Nat.mul_le_mul_right z l
    rw [Nat.add_mul] at e
    omega
  dep := by
    rw [depM]
    have : depMs (xs ++ [o] ++ ys) ≤ n := depMs_le fun x h => by
      rcases List.mem_append.mp h with h | h
      · rcases List.mem_append.mp h with h | h
        · exact (hx x h).dep
        · rw [List.mem_singleton.mp h]; exact ho.dep
      · exact (hy x h).dep
    omega
theorem pu_non {n : Nat} : Pu 1 n .non := ⟨fun _ => rfl, fun _ => rfl, rfl, rfl, Nat.le_refl _, Nat.zero_le _⟩
theorem pu_int {i : Int} {n : Nat} (h : i.natAbs < 2 ^ 150) : Pu 1 n (.int i) := ⟨fun _ => decide_eq_true (nat_mono h (by decide)), fun _ => decide_eq_true h, rfl, rfl, Nat.le_refl _, Nat.zero_le _⟩
theorem pu_str {s : Str} {n : Nat} (h : (PyData.strOk s && decide (s.length ≤ 100)) = true) : Pu 1 n (.str s) := ⟨fun _ => h, fun _ => by
  rw [Bool.and_eq_true, decide_eq_true_eq] at h
  rw [fitM, h.1, decide_eq_true (show s.length ≤ 150 by omega)]
  rfl, rfl, rfl, Nat.le_refl _, Nat.zero_le _⟩
theorem th_rf {M : List Cell} {i n : Nat} {l : List (Str × Int)} (h : M[i]? = some (.dk (cntKD l))) (hl : cntFitB l = true) : Th M 200 (n + 1) (.rf i) where
  any := by rw [anyD, h]
  fit := by
    have e : cntOf (cntKD l) = some l := by
      clear h hl
      induction l with
      | nil => rfl
      | cons q l ih =>
        show (cntOf (cntKD l)).map ((q.1, q.2) :: ·) = _
        rw [ih]
        rfl
    rw [fitM, h]
    simp only [e]
    exact hl
  one := .inr rfl
  sz := Nat.le_refl _
  dep := Nat.le_add_left _ _

end LW

namespace LW
open PySem PySem.Spec PyProof.Rows L2 RZ DL


theorem partB_of {p : Qp} (h : Pt p) : partB (fD p) = true := by
  have f := h.pt.fr
  have a := h.pt.pos
  show (decide (1 ≤ p.2) && decide (p.2 ≤ 60) && (decide (1 ≤ p.1) && decide (p.1 ≤ p.2)) && decide (Int.gcd p.1 p.2 = 1)) = true
  rw [decide_eq_true (show 1 ≤ p.2 from f.pos), decide_eq_true h.b, decide_eq_true (show 1 ≤ p.1 from a), decide_eq_true h.le, decide_eq_true f.cop]
  rfl
theorem go_of : ∀ {rs : List Rate} {l : Int}, 0 ≤ l → Ups l rs → (∀ r ∈ rs, Pt r.2) → goB l (rs.map rateD) = true
  | [], _, _, h, _ => h.elim
  | r :: rs, l, h0, .inl ⟨e, e2⟩, hp => by
    subst e2
    obtain ⟨o, p⟩ := r
    have e : o = none := e
    subst e
    show rateB l true (.tup [.non, fD p]) = true
    rw [rate_okT (partB_of (hp _ List.mem_cons_self))]
    rfl
  | r :: rs, l, h0, .inr ⟨u, e, h1, h2, h3⟩, hp => by
    obtain ⟨o, p⟩ := r
    have e : o = some u := e
    subst e
    have hp1 := hp _ List.mem_cons_self
    have ih := go_of (l := u) (by omega) h3 fun x hx => hp x (List.mem_cons_of_mem _ hx)
    cases rs with
    | nil => exact h3.elim
    | cons r2 rs =>
      show (rateB l false (.tup [.int u, fD p]) && goB u ((r2 :: rs).map rateD)) = true
      rw [ih, rate_okF (partB_of hp1), Bool.and_true, numB_i, decide_eq_true (show l + 1 ≤ u by omega), decide_eq_true h2]
      rfl
theorem rowB_of {r : Row} (h : RowS r) (hn : nameB (.str (nameOf r)) = true) : rowB (rowD r) = true := by
  cases r with
  | of n p =>
    show (nameB (.str n) && told3 "of" (fD p)) = true
    have hn : nameB (.str n) = true := hn
    rw [hn]
    unfold told3
    rw [if_pos (.inl rfl)]
    exact partB_of h
  | steps n rs =>
    show (nameB (.str n) && told3 "steps" (.tup (rs.map rateD))) = true
    have hn : nameB (.str n) = true := hn
    rw [hn]
    unfold told3
    rw [if_neg (by decide), if_pos rfl]
    show (decide (2 ≤ (rs.map rateD).length) && decide ((rs.map rateD).length ≤ 4) && goB 0 (rs.map rateD)) = true
    rw [List.length_map, decide_eq_true h.1, decide_eq_true h.2.1, go_of (by decide) h.2.2.2 h.2.2.1]
    rfl
  | left n p =>
    show (nameB (.str n) && told3 "left" (fD p)) = true
    have hn : nameB (.str n) = true := hn
    rw [hn]
    unfold told3
    rw [if_pos (.inr rfl)]
    exact partB_of h
  | length n m =>
    show (nameB (.str n) && told3 "length" (.int m)) = true
    have hn : nameB (.str n) = true := hn
    have h : 0 < m ∧ m ≤ 1000 := h
    rw [hn]
    unfold told3
    rw [if_neg (by decide), if_neg (by decide), decide_eq_true rfl, numB_i, decide_eq_true (show 1 ≤ m by omega), decide_eq_true h.2]
    rfl
theorem kindIs_row {r : Row} {s : Str} : kindIs s (rowD r) = decide (kindS r = s) := by cases r <;> rfl
theorem rowsB_of {rs : List Row} {ss : List Str} (h : RowsS rs ss 8) (hs : ∀ s ∈ ss, nameB (.str s) = true) : rowsB (.tup (rs.map rowD)) = true := by
  show (decide ((rs.map rowD).length ≤ 8) && (rs.map rowD).all rowB && decide (((rs.map rowD).filter (kindIs "left")).length ≤ 3)) = true
  have e1 : (rs.map rowD).all rowB = true := List.all_eq_true.mpr fun x hx => by
    obtain ⟨r, hr, rfl⟩ := List.mem_map.mp hx
    exact rowB_of (h.ok r hr) (hs _ (h.nm r hr))
  have e2 : ((rs.map rowD).filter (kindIs "left")).length ≤ 3 := by
    have := h.lf
    unfold lefts at this
    rw [List.count_eq_length_filter, List.filter_map, List.length_map] at this
    rw [List.filter_map, List.length_map]
    refine Nat.le_trans (Nat.le_of_eq ?_) this
    congr 2
    funext r
    show kindIs "left" (rowD r) = (kindS r == "left")
    rw [kindIs_row]
    rfl
  rw [List.length_map, decide_eq_true h.len, e1, decide_eq_true e2]
  rfl
theorem pu_fr {p : Qp} (h : Pt p) {n : Nat} : Pu 3 (n + 1) (fD p) := by
  have f := h.pt.fr.pos
  have a := h.pt.pos
  have b := h.b
  have c := h.le
  have d : (60 : Nat) < 2 ^ 150 := by decide
  exact (pu_tup (m := 2) (all_cons (pu_int (by omega)) (all_cons (pu_int (by omega)) all_nil)) (by simp) (by decide)).up (by decide) (Nat.le_refl _)
theorem pu_name {s : Str} (h : nameB (.str s) = true) {n : Nat} : Pu 1 n (.str s) := by
  obtain ⟨a, b, c⟩ := nameB_ok h
  exact pu_str (by rw [a, decide_eq_true (show s.length ≤ 100 by omega)]; rfl)
theorem pu_rate : ∀ {rs : List Rate} {l : Int}, 0 ≤ l → Ups l rs → (∀ r ∈ rs, Pt r.2) → ∀ x ∈ rs.map rateD, ∃ u p, x = .tup [u, p] ∧ Pu 1 1 u ∧ Pu 3 1 p
  | [], _, _, h, _ => h.elim
  | r :: rs, l, h0, .inl ⟨e, e2⟩, hp => by
    subst e2
    obtain ⟨o, p⟩ := r
    have e : o = none := e
    subst e
    exact all_cons ⟨.non, fD p, rfl, pu_non, pu_fr (hp _ List.mem_cons_self)⟩ all_nil
  | r :: rs, l, h0, .inr ⟨u, e, h1, h2, h3⟩, hp => by
    obtain ⟨o, p⟩ := r
    have e : o = some u := e
    subst e
    have d : (1000000 : Nat) < 2 ^ 150 := by decide
    exact all_cons ⟨.int u, fD p, rfl, pu_int (by omega), pu_fr (hp _ List.mem_cons_self)⟩ (pu_rate (l := u) (by omega) h3 fun x hx => hp x (List.mem_cons_of_mem _ hx))
theorem pu_pair {u p : D} (h : Pu 1 1 u) (g : Pu 3 1 p) : Pu 5 2 (.tup [u, p]) where
  any M := any_tl' (all_cons (h.any M) (all_cons (g.any M) all_nil)) (by simp)
  fit M := by rw [fitM]; exact fitMs_iff.mpr (all_cons (h.fit M) (all_cons (g.fit M) all_nil))
  nr := by rw [nrf]; exact nrfs_iff.mpr (all_cons h.nr (all_cons g.nr all_nil))
  nl := by rw [nls]; exact nlss_iff.mpr (all_cons h.nl (all_cons g.nl all_nil))
  sz := by
    have := h.sz
    have := g.sz
    simp only [szM, szMs]
    omega
  dep := by
    have := h.dep
    have := g.dep
    simp only [depM, depMs]
    omega
structure RowP (x : D) : Prop where
  form : ∃ k n t, x = .tup [.str k, .str n, t] ∧ PyData.strOk k = true ∧ k.length ≤ 6 ∧ nameB (.str n) = true ∧ Pu 21 3 t ∧ (k = "steps" → ∃ rs, t = .tup rs ∧ 2 ≤ rs.length ∧ rs.length ≤ 4 ∧ ∀ x ∈ rs, ∃ u p, x = .tup [u, p] ∧ Pu 1 1 u ∧ Pu 3 1 p)
theorem rowP_of {r : Row} (h : RowS r) (hn : nameB (.str (nameOf r)) = true) : RowP (rowD r) := by
  cases r with
  | of n p => exact ⟨"of", n, fD p, rfl, by decide +kernel, by decide, hn, (pu_fr h (n := 0)).up (by decide) (by decide), fun z => absurd z (by decide)⟩
  | steps n rs =>
    have q := pu_rate (rs := rs) (l := 0) (by decide) h.2.2.2 h.2.2.1
    refine ⟨"steps", n, .tup (rs.map rateD), rfl, by decide +kernel, by decide, hn, ?_, fun _ => ⟨_, rfl, by rw [List.length_map]; exact h.1, by rw [List.length_map]; exact h.2.1, q⟩⟩
    refine (pu_tup (z := 5) (n := 2) (m := 4) (fun x hx => ?_) (by rw [List.length_map]; exact h.2.1) (by decide)).up (by decide) (by decide)
    obtain ⟨u, p, rfl, a, b⟩ := q x hx
    exact pu_pair a b
  | left n p => exact ⟨"left", n, fD p, rfl, by decide +kernel, by decide, hn, (pu_fr h (n := 0)).up (by decide) (by decide), fun z => absurd z (by decide)⟩
  | length n m =>
    have h : 0 < m ∧ m ≤ 1000 := h
    have d : (1000000 : Nat) < 2 ^ 150 := by decide
    exact ⟨"length", n, .int m, rfl, by decide +kernel, by decide, hn, (pu_int (n := 0) (by omega)).up (by decide) (by decide), fun z => absurd z (by decide)⟩
theorem pu_three {a b t : D} {y z n : Nat} (h1 : Pu 1 n a) (h2 : Pu 1 n b) (h3 : Pu z n t) : Pu (z + 3) (n + 1) (.tup [a, b, t]) where
  any M := any_tl' (all_cons (h1.any M) (all_cons (h2.any M) (all_cons (h3.any M) all_nil))) (by simp)
  fit M := by rw [fitM]; exact fitMs_iff.mpr (all_cons (h1.fit M) (all_cons (h2.fit M) (all_cons (h3.fit M) all_nil)))
  nr := by rw [nrf]; exact nrfs_iff.mpr (all_cons h1.nr (all_cons h2.nr (all_cons h3.nr all_nil)))
  nl := by rw [nls]; exact nlss_iff.mpr (all_cons h1.nl (all_cons h2.nl (all_cons h3.nl all_nil)))
  sz := by
    have := h1.sz
    have := h2.sz
    have := h3.sz
    simp only [szM, szMs]
    omega
  dep := by
    have := h1.dep
    have := h2.dep
    have := h3.dep
    simp only [depM, depMs]
    omega
theorem RowP.pu {x : D} (h : RowP x) : Pu 24 4 x := by
  obtain ⟨k, n, t, rfl, a, b, c, d, _⟩ := h.form
  exact pu_three (y := 0) (pu_str (by rw [a, decide_eq_true (show k.length ≤ 100 by omega)]; rfl)) (pu_name c) d

end LW

namespace LW
open PySem PySem.Spec PyProof.Rows L2 RZ DL


def EvX (ge : GE) (ρ : Rho) (w : Wd) (d : D) (w' : Wd) : Prop := ∀ (kx : KX) (k : KD), k d w' → ge ρ w kx k
def EvXA (ga : GA) (ρ : Rho) (w : Wd) (ds : List D) (w' : Wd) : Prop := ∀ (kx : KX) (k : KA), k ds w' → ga ρ w kx k
section
variable {ρ : Rho} {w w1 w2 : Wd}
theorem evx_nil : EvXA gaNil ρ w [] w := fun _ _ h => h
theorem evx_cons {g : GE} {r : GA} {d : D} {ds : List D} (h1 : EvX g ρ w d w1) (h2 : EvXA r ρ w1 ds w2) : EvXA (gaCons g r) ρ w (d :: ds) w2 := fun kx _ h => h1 kx _ (h2 kx _ h)
theorem evx_consP {g : GE} {r : GA} {d : D} {ds : List D} (h1 : EvX g ρ w d w) (h2 : EvXA r ρ w ds w2) : EvXA (gaCons g r) ρ w (d :: ds) w2 := fun kx _ h => h1 kx _ (h2 kx _ h)
theorem evx_lst {ga : GA} {ds : List D} (h : EvXA ga ρ w ds w1) (hl : ds.length ≤ 1000) : EvX (DL.gLst ga) ρ w (.lst ds) w1 := fun kx _ hk => h kx _ ⟨le_sl (by omega), hk⟩
theorem evx_tup {ga : GA} {ds : List D} (h : EvXA ga ρ w ds w1) (hl : ds.length ≤ 1000) : EvX (DL.gTup ga) ρ w (.tup ds) w1 := fun kx _ hk => h kx _ ⟨le_sl (by omega), hk⟩
theorem evx_c {d : D} : EvX (DL.gC d) ρ w d w := fun _ _ h => h
theorem evx_var {i : Nat} {d : D} (h : ρ[i]? = some (some d)) : EvX (gVar i) ρ w d w := fun _ _ hk => by
  unfold gVar
  rw [h]
  exact hk
theorem evx_neg {i : Int} : EvX (gUn negD (DL.gC (.int i))) ρ w (.int (-i)) w := fun _ _ hk => hk
theorem evx_pow {i : Int} {n : Nat} (h : CPow i n) : EvX (gBin powD (DL.gC (.int i)) (DL.gC (.int n))) ρ w (.int (i ^ n)) w := fun _ _ hk => ⟨h, hk⟩
theorem evx_addI {a b : GE} {i j : Int} (h1 : EvX a ρ w (.int i) w1) (h2 : EvX b ρ w1 (.int j) w2) : EvX (gBin addD a b) ρ w (.int (i + j)) w2 := fun kx _ hk => h1 kx _ (h2 kx _ hk)
theorem evx_addL {a b : GE} {xs ys : List D} (h1 : EvX a ρ w (.lst xs) w1) (h2 : EvX b ρ w1 (.lst ys) w2) (hl : xs.length + ys.length ≤ 1000) : EvX (gBin addD a b) ρ w (.lst (xs ++ ys)) w2 := fun kx _ hk => h1 kx _ (h2 kx _ ⟨le_sl (by omega), hk⟩)
theorem evx_addT {a b : GE} {xs ys : List D} (h1 : EvX a ρ w (.tup xs) w1) (h2 : EvX b ρ w1 (.tup ys) w2) (hl : xs.length + ys.length ≤ 1000) : EvX (gBin addTD a b) ρ w (.tup (xs ++ ys)) w2 := fun kx _ hk => h1 kx _ (h2 kx _ (by
  rw [addTD_t]
  exact ⟨le_sl (by omega), hk⟩))
theorem evx_ixT {a b : GE} {xs : List D} {i : Int} {d : D} (h1 : EvX a ρ w (.tup xs) w1) (h2 : EvX b ρ w1 (.int i) w2) (h : atI xs i = some d) : EvX (gBin ixD a b) ρ w d w2 := fun kx _ hk => h1 kx _ (h2 kx _ (by
  rw [ixD_t, h]
  exact hk))
theorem evx_slT {a : GE} {l h : GO} {xs : List D} {lo hi : Option Int} (h1 : EvX a ρ w (.tup xs) w) (hlo : ∀ (kx : KX) (k : Option Int → Wd → Prop), k lo w → l ρ w kx k) (hhi : ∀ (kx : KX) (k : Option Int → Wd → Prop), k hi w → h ρ w kx k) : EvX (gSl slA a l h) ρ w (.tup (DL.cutD xs lo hi)) w := fun kx _ hk => h1 kx _ (hlo kx _ (hhi kx _ (by
  rw [slA_t]
  exact hk)))
theorem evx_listT {a : GE} {xs : List D} (h1 : EvX a ρ w (.tup xs) w1) : EvX (gCB fList (gaCons a gaNil)) ρ w (.lst xs) w1 := fun kx _ hk => h1 kx _ hk
theorem evx_dnew : EvX gDNew ρ w (.rf w.M.length) ⟨w.M ++ [.dk []], w.n⟩ := fun _ _ hk => hk
theorem evx_disp1 {s : Str} {d : D} : EvX (gDisp [(s, DL.gC d)]) ρ w (.rf w.M.length) ⟨w.M ++ [.dk [(Sum.inr s, d)]], w.n⟩ := fun kx k hk => by
  show (w.M ++ [Cell.dk []])[w.M.length]? = some (.dk []) ∧ k (.rf w.M.length) ⟨(w.M ++ [Cell.dk []]).set w.M.length (.dk [(Sum.inr s, d)]), w.n⟩
  rw [new_set]
  exact ⟨by simp, hk⟩
theorem evx_seqset {i : Nat} {ge : GE} {b : GS} {F : DEnds} {d : D} (h : EvX ge ρ w d w1) (hb : b F (ρ.set i (some d)) w1) : gSeq (gSet i ge) b F ρ w := h F.ex _ hb
end

abbrev oddA : List D := [.non, .bl true, .bl false, .int 0, .int 1, .int (-1), .int 61, .int 1001, .int (10 ^ 6 + 1), .int (10 ^ 20), .str "", .str "a", .str "A", .str "a b", .str "abcdefghi", .str "of", .tup []]
abbrev oddB : List D := [.tup [.int 1, .int 2], .lst [.int 1, .int 2], .tup [.int 2, .int 4], .tup [.int 0, .int 1], .tup [.int 1, .int 1], .tup [.int 3, .int 2], .tup [.int 1, .int 61], .tup [.int 60, .int 60], .tup [.bl true, .int 1], .tup [.int 1, .bl true], .tup [.int 1, .int 2, .int 3]]
abbrev oddC (a b : Nat) : List D := [.tup [.str "of", .str "a", .tup [.int 1, .int 2]], .lst [.str "of", .str "a", .tup [.int 1, .int 2]], .rf a, .rf b, .tup [.tup [.int 3, .tup [.int 1, .int 2]], .tup [.non, .tup [.int 1, .int 2]]], .lst [.lst []]]
abbrev oddE : List D := [.tup [.str "1", .int 2], .tup [.non, .int 2], .tup [.int 1, .str "2"], .tup [.int 1, .non], .tup [.lst [.int 1], .int 2], .tup [.tup [.int 1], .int 2], .tup [.int 1, .lst [.int 2]]]
def oddL (a b : Nat) : List D := oddA ++ oddB ++ oddC a b ++ oddE
theorem oddL_len {a b : Nat} : (oddL a b).length = 41 := rfl
mutual
theorem any_nr {M : List Cell} : ∀ {d : D}, nrf d = true → anyD [] d = true → anyD M d = true
  | .non, _, _ => rfl
  | .bl _, _, _ => rfl
  | .int i, _, q => by rw [anyD] at q ⊢; exact q
  | .str s, _, q => by rw [anyD] at q ⊢; exact q
  | .lst xs, h, q => by
    rw [nrf] at h
    rw [anyD, Bool.and_eq_true] at q ⊢
    exact ⟨anys_nr h q.1, q.2⟩
  | .tup xs, h, q => by
    rw [nrf] at h
    rw [anyD, Bool.and_eq_true] at q ⊢
    exact ⟨anys_nr h q.1, q.2⟩
  | .rf i, h, q => by cases h
  | .st, _, q => by cases q
  | .ob _, _, q => by cases q
  | .scr _, _, q => by cases q
theorem anys_nr {M : List Cell} : ∀ {ds : List D}, nrfs ds = true → anyDs [] ds = true → anyDs M ds = true
  | [], _, _ => rfl
  | x :: xs, h, q => by
    rw [nrfs, Bool.and_eq_true] at h
    rw [anyDs, Bool.and_eq_true] at q ⊢
    exact ⟨any_nr h.1 q.1, anys_nr h.2 q.2⟩
end
mutual
theorem fit_nr {M : List Cell} : ∀ {d : D}, nrf d = true → fitM [] d = true → fitM M d = true
  | .non, _, _ => rfl
  | .bl _, _, _ => rfl
  | .int i, _, q => by rw [fitM] at q ⊢; exact q
  | .str s, _, q => by rw [fitM] at q ⊢; exact q
  | .lst xs, h, q => by
    rw [nrf] at h
    rw [fitM] at q ⊢
    exact fits_nr h q
  | .tup xs, h, q => by
    rw [nrf] at h
    rw [fitM] at q ⊢
    exact fits_nr h q
  | .rf i, h, q => by cases h
  | .st, _, q => by cases q
  | .ob _, _, q => by cases q
  | .scr _, _, q => by cases q
theorem fits_nr {M : List Cell} : ∀ {ds : List D}, nrfs ds = true → fitMs [] ds = true → fitMs M ds = true
  | [], _, _ => rfl
  | x :: xs, h, q => by
    rw [nrfs, Bool.and_eq_true] at h
    rw [fitMs, Bool.and_eq_true] at q ⊢
    exact ⟨fit_nr h.1 q.1, fits_nr h.2 q.2⟩
end
def chk (d : D) : Bool := anyD [] d && fitM [] d && nrf d && decide (szM d ≤ 200) && decide (depM d ≤ 3)
theorem th_chk {M : List Cell} {d : D} (h : chk d = true) : Th M 200 3 d := by
  unfold chk at h
  rw [Bool.and_eq_true, Bool.and_eq_true, Bool.and_eq_true, Bool.and_eq_true, decide_eq_true_eq, decide_eq_true_eq] at h
  obtain ⟨⟨⟨⟨h1, h2⟩, h3⟩, h4⟩, h5⟩ := h
  exact ⟨any_nr h3 h1, fit_nr h3 h2, .inl h3, h4, h5⟩
theorem all_chk {M : List Cell} {xs : List D} (h : xs.all chk = true) : ∀ z ∈ xs, Th M 200 3 z := fun z hz => th_chk (List.all_eq_true.mp h z hz)
theorem oddL_th {M : List Cell} {a b : Nat} (ha : M[a]? = some (.dk (cntKD []))) (hb : M[b]? = some (.dk (cntKD [("of", 1)]))) : ∀ z ∈ oddL a b, Th M 200 3 z := by
  unfold oddL
  intro z hz
  rcases List.mem_append.mp hz with hz | hz
  · rcases List.mem_append.mp hz with hz | hz
    · rcases List.mem_append.mp hz with hz | hz
      · exact all_chk (by decide +kernel) z hz
      · exact all_chk (by decide +kernel) z hz
    · exact all_cons (Pd := fun z => Th M 200 3 z) (th_chk (by decide +kernel)) (all_cons (Pd := fun z => Th M 200 3 z) (th_chk (by decide +kernel)) (all_cons (Pd := fun z => Th M 200 3 z) ((th_rf (n := 0) ha (by decide)).up (Nat.le_refl _) (by decide)) (all_cons (Pd := fun z => Th M 200 3 z) ((th_rf (n := 0) hb (by decide +kernel)).up (Nat.le_refl _) (by decide)) (all_chk (by decide +kernel))))) z hz
  · exact all_chk (by decide +kernel) z hz
def sp__law_odd : GF := fun ds w _ k => ∃ (c n : Nat), ds = [.st] ∧ (w.n = some c ∧ n + 1 ≤ c) ∧ ∀ L d c', Th (w.M ++ L) 200 3 d → n ≤ c' → k d ⟨w.M ++ L, some c'⟩
abbrev s__law_odd : Stmt := topS 33
theorem sc__law_odd : FnScope ["_law_state", "_law_some"] ["_law_state"] (defScope s__law_odd) := ⟨rfl, rfl, rfl, by decide +kernel, rfl, by decide +kernel, by decide +kernel⟩
def g__law_odd : GS := (gSeq (gSet 1 (DL.gLst (gaCons (gC .non) (gaCons (gC (.bl true)) (gaCons (gC (.bl false)) (gaCons (gC (.int 0)) (gaCons (gC (.int 1)) (gaCons (gUn negD (gC (.int 1))) (gaCons (gC (.int 61)) (gaCons (gC (.int 1001)) (gaCons (gBin addD (gBin powD (gC (.int 10)) (gC (.int 6))) (gC (.int 1))) (gaCons (gBin powD (gC (.int 10)) (gC (.int 20))) (gaCons (gC (.str "")) (gaCons (gC (.str "a")) (gaCons (gC (.str "A")) (gaCons (gC (.str "a b")) (gaCons (gC (.str "abcdefghi")) (gaCons (gC (.str "of")) (gaCons (gTup gaNil) gaNil)))))))))))))))))))
  (gSeq (gSet 1 (gBin addD (gVar 1) (DL.gLst (gaCons (gTup (gaCons (gC (.int 1)) (gaCons (gC (.int 2)) gaNil))) (gaCons (DL.gLst (gaCons (gC (.int 1)) (gaCons (gC (.int 2)) gaNil))) (gaCons (gTup (gaCons (gC (.int 2)) (gaCons (gC (.int 4)) gaNil))) (gaCons (gTup (gaCons (gC (.int 0)) (gaCons (gC (.int 1)) gaNil))) (gaCons (gTup (gaCons (gC (.int 1)) (gaCons (gC (.int 1)) gaNil))) (gaCons (gTup (gaCons (gC (.int 3)) (gaCons (gC (.int 2)) gaNil))) (gaCons (gTup (gaCons (gC (.int 1)) (gaCons (gC (.int 61)) gaNil))) (gaCons (gTup (gaCons (gC (.int 60)) (gaCons (gC (.int 60)) gaNil))) (gaCons (gTup (gaCons (gC (.bl true)) (gaCons (gC (.int 1)) gaNil))) (gaCons (gTup (gaCons (gC (.int 1)) (gaCons (gC (.bl true)) gaNil))) (gaCons (gTup (gaCons (gC (.int 1)) (gaCons (gC (.int 2)) (gaCons (gC (.int 3)) gaNil)))) gaNil))))))))))))))
  (gSeq (gSet 1 (gBin addD (gVar 1) (DL.gLst (gaCons (gTup (gaCons (gC (.str "of")) (gaCons (gC (.str "a")) (gaCons (gTup (gaCons (gC (.int 1)) (gaCons (gC (.int 2)) gaNil))) gaNil)))) (gaCons (DL.gLst (gaCons (gC (.str "of")) (gaCons (gC (.str "a")) (gaCons (gTup (gaCons (gC (.int 1)) (gaCons (gC (.int 2)) gaNil))) gaNil)))) (gaCons gDNew (gaCons (gDisp [("of", (gC (.int 1)))]) (gaCons (gTup (gaCons (gTup (gaCons (gC (.int 3)) (gaCons (gTup (gaCons (gC (.int 1)) (gaCons (gC (.int 2)) gaNil))) gaNil))) (gaCons (gTup (gaCons (gC .non) (gaCons (gTup (gaCons (gC (.int 1)) (gaCons (gC (.int 2)) gaNil))) gaNil))) gaNil))) (gaCons (DL.gLst (gaCons (DL.gLst gaNil) gaNil)) gaNil)))))))))
  (gSeq (gSet 1 (gBin addD (gVar 1) (DL.gLst (gaCons (gTup (gaCons (gC (.str "1")) (gaCons (gC (.int 2)) gaNil))) (gaCons (gTup (gaCons (gC .non) (gaCons (gC (.int 2)) gaNil))) (gaCons (gTup (gaCons (gC (.int 1)) (gaCons (gC (.str "2")) gaNil))) (gaCons (gTup (gaCons (gC (.int 1)) (gaCons (gC .non) gaNil))) (gaCons (gTup (gaCons (DL.gLst (gaCons (gC (.int 1)) gaNil)) (gaCons (gC (.int 2)) gaNil))) (gaCons (gTup (gaCons (gTup (gaCons (gC (.int 1)) gaNil)) (gaCons (gC (.int 2)) gaNil))) (gaCons (gTup (gaCons (gC (.int 1)) (gaCons (DL.gLst (gaCons (gC (.int 2)) gaNil)) gaNil))) gaNil))))))))))
  (gRet (gBin ixD (gVar 1) (gCall0 2 sp__law_take (gaCons (gVar 0) (gaCons (gCB fLen (gaCons (gVar 1) gaNil)) gaNil)))))))))
theorem w__law_odd {P : Program} {w : World} {K : PySem.W.Frag} {mg : Str → Option Value} {base : Heap} (T : DefAt K mg "_law_odd" s__law_odd ["_law_state"]) (B : Blt mg) (F__law_take : FnAt P w K mg base CX0 1 "_law_take" 2 sp__law_take) : FnAt P w K mg base CX0 2 "_law_odd" 1 (sem0 2 g__law_odd) := by
  have nd := sc__law_odd.nd
  exact T.fn0 sc__law_odd (fun f cdv A outer s H E hr => (dss_cons (ds_set (i := 1) nd rfl (by first | exact Or.inl rfl | exact Or.inr rfl) (de_lst (da_cons de_non (da_cons de_bl (da_cons de_bl (da_cons de_int (da_cons de_int (da_cons (de_neg de_int) (da_cons de_int (da_cons de_int (da_cons (de_add (de_pow de_int de_int) de_int) (da_cons (de_pow de_int de_int) (da_cons de_str (da_cons de_str (da_cons de_str (da_cons de_str (da_cons de_str (da_cons de_str (da_cons (de_tup da_nil) da_nil)))))))))))))))))))
  (dss_cons (ds_set (i := 1) nd rfl (by first | exact Or.inl rfl | exact Or.inr rfl) (de_add (de_var 1) (de_lst (da_cons (de_tup (da_cons de_int (da_cons de_int da_nil))) (da_cons (de_lst (da_cons de_int (da_cons de_int da_nil))) (da_cons (de_tup (da_cons de_int (da_cons de_int da_nil))) (da_cons (de_tup (da_cons de_int (da_cons de_int da_nil))) (da_cons (de_tup (da_cons de_int (da_cons de_int da_nil))) (da_cons (de_tup (da_cons de_int (da_cons de_int da_nil))) (da_cons (de_tup (da_cons de_int (da_cons de_int da_nil))) (da_cons (de_tup (da_cons de_int (da_cons de_int da_nil))) (da_cons (de_tup (da_cons de_bl (da_cons de_int da_nil))) (da_cons (de_tup (da_cons de_int (da_cons de_bl da_nil))) (da_cons (de_tup (da_cons de_int (da_cons de_int (da_cons de_int da_nil)))) da_nil))))))))))))))
  (dss_cons (ds_set (i := 1) nd rfl (by first | exact Or.inl rfl | exact Or.inr rfl) (de_add (de_var 1) (de_lst (da_cons (de_tup (da_cons de_str (da_cons de_str (da_cons (de_tup (da_cons de_int (da_cons de_int da_nil))) da_nil)))) (da_cons (de_lst (da_cons de_str (da_cons de_str (da_cons (de_tup (da_cons de_int (da_cons de_int da_nil))) da_nil)))) (da_cons de_dnew (da_cons (de_disp (dps_cons de_int dps_nil) (by rfl) (by rfl) (by simp) (by decide) (by decide) (by decide +kernel)) (da_cons (de_tup (da_cons (de_tup (da_cons de_int (da_cons (de_tup (da_cons de_int (da_cons de_int da_nil))) da_nil))) (da_cons (de_tup (da_cons de_non (da_cons (de_tup (da_cons de_int (da_cons de_int da_nil))) da_nil))) da_nil))) (da_cons (de_lst (da_cons (de_lst da_nil) da_nil)) da_nil)))))))))
  (dss_cons (ds_set (i := 1) nd rfl (by first | exact Or.inl rfl | exact Or.inr rfl) (de_add (de_var 1) (de_lst (da_cons (de_tup (da_cons de_str (da_cons de_int da_nil))) (da_cons (de_tup (da_cons de_non (da_cons de_int da_nil))) (da_cons (de_tup (da_cons de_int (da_cons de_str da_nil))) (da_cons (de_tup (da_cons de_int (da_cons de_non da_nil))) (da_cons (de_tup (da_cons (de_lst (da_cons de_int da_nil)) (da_cons de_int da_nil))) (da_cons (de_tup (da_cons (de_tup (da_cons de_int da_nil)) (da_cons de_int da_nil))) (da_cons (de_tup (da_cons de_int (da_cons (de_lst (da_cons de_int da_nil)) da_nil))) da_nil))))))))))
  (dss_one (ds_ret (de_ix (de_var 1) (de_call0 F__law_take hr (by rfl) (da_cons (de_var 0) (da_cons (de_len B (by rfl) (da_cons (de_var 1) da_nil)) da_nil)))))))))))

theorem v__law_odd : ∀ ds w kx k, sp__law_odd ds w kx k → sem0 2 g__law_odd ds w kx k := by
  rintro ds w kx k ⟨c, n, rfl, ⟨hn, hc⟩, hk⟩
  have e : rho 2 [D.st] = [some .st, none] := rfl
  have p6 : CPow 10 6 := ⟨by decide, by decide, by decide⟩
  have p20 : CPow 10 20 := ⟨by decide, by decide, by decide⟩
  show g__law_odd _ (rho 2 [D.st]) w
  rw [e]
  unfold g__law_odd
  refine evx_seqset (d := .lst oddA) (w1 := w) ?_ ?_
  · refine evx_lst ?_ (by decide)
    repeat' first | exact evx_nil | refine evx_consP ?_ ?_ | exact evx_c | exact evx_neg | exact evx_addI (evx_pow (n := 6) p6) evx_c | exact evx_pow (n := 20) p20 | refine evx_tup ?_ (by decide)
  refine evx_seqset (w1 := w) (evx_addL (evx_var rfl) (evx_lst (ds := oddB) ?_ (by decide)) (by decide)) ?_
  · repeat' first | exact evx_nil | refine evx_consP ?_ ?_ | exact evx_c | refine evx_tup ?_ (by decide) | refine evx_lst ?_ (by decide)
  refine evx_seqset (w1 := ⟨w.M ++ [Cell.dk []] ++ [Cell.dk [(Sum.inr "of", .int 1)]], w.n⟩) (evx_addL (evx_var rfl) (evx_lst (ds := oddC w.M.length (w.M ++ [Cell.dk []]).length) ?_ (by simp)) (by simp)) ?_
  · refine evx_cons (w1 := w) ?_ (evx_cons (w1 := w) ?_ (evx_cons evx_dnew (evx_cons evx_disp1 (evx_consP ?_ (evx_consP ?_ evx_nil)))))
    · repeat' first | exact evx_nil | refine evx_consP ?_ ?_ | exact evx_c | refine evx_tup ?_ (by decide) | refine evx_lst ?_ (by decide)
    · repeat' first | exact evx_nil | refine evx_consP ?_ ?_ | exact evx_c | refine evx_tup ?_ (by decide) | refine evx_lst ?_ (by decide)
    · repeat' first | exact evx_nil | refine evx_consP ?_ ?_ | exact evx_c | refine evx_tup ?_ (by decide) | refine evx_lst ?_ (by decide)
    · repeat' first | exact evx_nil | refine evx_consP ?_ ?_ | exact evx_c | refine evx_tup ?_ (by decide) | refine evx_lst ?_ (by decide)
  refine evx_seqset (w1 := ⟨w.M ++ [Cell.dk []] ++ [Cell.dk [(Sum.inr "of", .int 1)]], w.n⟩) (evx_addL (evx_var rfl) (evx_lst (ds := oddE) ?_ (by decide)) (by simp)) ?_
  · repeat' first | exact evx_nil | refine evx_consP ?_ ?_ | exact evx_c | refine evx_tup ?_ (by decide) | refine evx_lst ?_ (by decide)
  show (2 : Nat) = 2 ∧ sp__law_take [.st, .int ((oddL w.M.length (w.M ++ [Cell.dk []]).length).length : Nat)] ⟨w.M ++ [Cell.dk []] ++ [Cell.dk [(Sum.inr "of", .int 1)]], w.n⟩ noX fun y w2 => ixD (.lst (oddL w.M.length (w.M ++ [Cell.dk []]).length)) y w2 k
  rw [oddL_len]
  have T := oddL_th (M := w.M ++ [.dk []] ++ [.dk [(Sum.inr "of", .int 1)]]) (a := w.M.length) (b := (w.M ++ [Cell.dk []]).length) (by simp; rfl) (by simp; rfl)
  refine ⟨rfl, take_use n hn (by omega) ⟨by decide, log_of (by decide)⟩ fun r c1 h0 h1 hc1 => ?_⟩
  refine ix_all (fun d => Th (w.M ++ [.dk []] ++ [.dk [(Sum.inr "of", .int 1)]]) 200 3 d) h0 (by rw [oddL_len]; exact h1) T fun d hd => ?_
  have := hk [.dk [], .dk [(Sum.inr "of", .int 1)]] d c1 (by rw [List.append_assoc] at hd; exact hd) hc1
  rw [List.append_assoc]
  exact this
theorem ok__law_odd {P : Program} {w : World} {K : PySem.W.Frag} {mg : Str → Option Value} {base : Heap} (T : DefAt K mg "_law_odd" s__law_odd ["_law_state"]) (B : Blt mg) (F__law_take : FnAt P w K mg base CX0 1 "_law_take" 2 sp__law_take) : FnAt P w K mg base CX0 2 "_law_odd" 1 sp__law_odd := (w__law_odd T B F__law_take).imp v__law_odd


end LW

namespace LW
open PySem PySem.Spec PyProof.Rows L2 RZ DL


theorem ok_sign {s : Str} (h : PyData.strOk s = true) {c : Nat} (hc : c ∈ s.cps.toList) : PyData.strOk ⟨#[c]⟩ = true := by
  unfold PyData.strOk at h ⊢
  rw [Array.all_eq_true'] at h
  have := h c (Array.mem_toList_iff.mp hc)
  simpa using this
theorem ix_str {z : Str} {r : Int} {w : Wd} {k : KD} (h0 : 0 ≤ r) (h1 : r < z.length) (hl : z.length ≤ 1000) (ho : PyData.strOk z = true) (hk : ∀ s : Str, PyData.strOk s = true → s.length = 1 → k (.str s) w) : ixD (.str z) (.int r) w k := by
  show z.length ≤ sizeLine ∧ _
  refine ⟨le_sl (by omega), ?_⟩
  have hl2 : r.toNat < z.cps.toList.length := by
    have : z.cps.toList.length = z.length := Array.length_toList
    omega
  have e : atI z.cps.toList r = some (z.cps.toList[r.toNat]) := by
    have := atI_nat (List.getElem?_eq_getElem hl2)
    rwa [Int.toNat_of_nonneg h0] at this
  rw [e]
  exact hk _ (ok_sign ho (List.getElem_mem hl2)) rfl
theorem ok_app {a b : Str} (ha : PyData.strOk a = true) (hb : PyData.strOk b = true) : PyData.strOk (a ++ b) = true := by
  have e : (a ++ b).cps = a.cps ++ b.cps := rfl
  unfold PyData.strOk at *
  rw [e, Array.all_append, ha, hb]
  rfl
theorem cutS_ok {z : Str} {lo hi : Option Int} (h : PyData.strOk z = true) : PyData.strOk (L2.cutS z lo hi) = true ∧ (L2.cutS z lo hi).length ≤ z.length := by
  unfold L2.cutS
  refine ⟨?_, ?_⟩
  · unfold PyData.strOk at h ⊢
    rw [Array.all_eq_true'] at h ⊢
    intro c hc
    exact h c (Array.mem_toList_iff.mp (List.mem_of_mem_drop (List.mem_of_mem_take (List.mem_toArray.mp hc))))
  · show (List.toArray _).size ≤ z.length
    rw [List.size_toArray, List.length_take, List.length_drop]
    have : z.cps.toList.length = z.length := Array.length_toList
    omega

def sp__law_signed : GF := fun ds w _ k => ∃ (s : Str) (c n : Nat), ds = [.st, .str s] ∧ (nameB (.str s) = true ∧ w.n = some c ∧ n + 3 ≤ c) ∧ ∀ (t : Str) c', PyData.strOk t = true → t.length ≤ 100 → n ≤ c' → k (.str t) ⟨w.M, some c'⟩
abbrev s__law_signed : Stmt := topS 35
theorem sc__law_signed : FnScope ["_law_state", "_law_name", "_law_signs", "_law_at"] ["_law_state", "_law_name"] (defScope s__law_signed) := ⟨rfl, rfl, rfl, by decide +kernel, rfl, by decide +kernel, by decide +kernel⟩
def g__law_signed : GS := (gSeq (gSet 2 (gC (.str " !#$&'()*+,-./0123456789:;<=>?@ABCDEFGHIJKLMNOPQRSTUVWXYZ[]^_abcdefghijklmnopqrstuvwxyz{|}~")))
  (gSeq (gSet 3 (gCall0 2 sp__law_take (gaCons (gVar 0) (gaCons (gBin addD (gCB fLen (gaCons (gVar 1) gaNil)) (gC (.int 1))) gaNil))))
  (gRet (gBin addD (gBin addD (gSl slS (gVar 1) goNone (goSome (gVar 3))) (gBin ixD (gVar 2) (gCall0 2 sp__law_take (gaCons (gVar 0) (gaCons (gCB fLen (gaCons (gVar 2) gaNil)) gaNil))))) (gSl slS (gVar 1) (goSome (gBin addD (gVar 3) (gCall0 2 sp__law_take (gaCons (gVar 0) (gaCons (gC (.int 2)) gaNil))))) goNone)))))
theorem w__law_signed {P : Program} {w : World} {K : PySem.W.Frag} {mg : Str → Option Value} {base : Heap} (T : DefAt K mg "_law_signed" s__law_signed ["_law_state", "_law_name"]) (B : Blt mg) (F__law_take : FnAt P w K mg base CX0 1 "_law_take" 2 sp__law_take) : FnAt P w K mg base CX0 2 "_law_signed" 2 (sem0 4 g__law_signed) := by
  have nd := sc__law_signed.nd
  exact T.fn0 sc__law_signed (fun f cdv A outer s H E hr => (dss_cons (ds_set (i := 2) nd rfl (by first | exact Or.inl rfl | exact Or.inr rfl) de_str)
  (dss_cons (ds_set (i := 3) nd rfl (by first | exact Or.inl rfl | exact Or.inr rfl) (de_call0 F__law_take hr (by rfl) (da_cons (de_var 0) (da_cons (de_add (de_len B (by rfl) (da_cons (de_var 1) da_nil)) de_int) da_nil))))
  (dss_one (ds_ret (de_add (de_add (de_slS (de_var 1) do_none (do_some (de_var 3))) (de_ix (de_var 2) (de_call0 F__law_take hr (by rfl) (da_cons (de_var 0) (da_cons (de_len B (by rfl) (da_cons (de_var 2) da_nil)) da_nil))))) (de_slS (de_var 1) (do_some (de_add (de_var 3) (de_call0 F__law_take hr (by rfl) (da_cons (de_var 0) (da_cons de_int da_nil))))) do_none)))))))

theorem v__law_signed : ∀ ds w kx k, sp__law_signed ds w kx k → sem0 4 g__law_signed ds w kx k := by
  rintro ds w kx k ⟨s, c, n, rfl, ⟨hs, hn, hc⟩, hk⟩
  have e : rho 4 [D.st, D.str s] = [some .st, some (.str s), none, none] := rfl
  obtain ⟨s1, s2, s3⟩ := nameB_ok hs
  simp only [g__law_signed, e, sp__law_take, sem0,List.map_cons,List.map_nil,List.length_cons,List.length_nil,gSeq,gNext,gRet,gRetN,gIfS,gSet,gPar,gAsg,gDrop,gVar,gC,gBin,gUn,gB,gTru,gAnd,gOr,gNot,gAndV,gOrV,gNotV,gIf,gChain,gaNil,gaCons,DL.gTup,DL.gLst,gCB,gCall0,gAug,addD_i,addD_s,addD_l,addD_t,subD_i,mulD_i,mulD_l,fdivD_i,modD_i,powD_i,ltD_i,ltD_s,leD_i,gtD_i,geD_i,isD_n,isnotD_n,isNonD_non,isNonD_bl,isNonD_int,isNonD_str,isNonD_lst,isNonD_tup,negD_i,iaddD_i,truD_non,truD_bl,truD_int,truD_str,truD_lst,truD_tup,someK_some,ixD_l,ixD_t,fAbs_i,fInt_i,fInt_b,fMin2_i,fLen_l,fLen_t,fLen_s,fList_l,fList_t,fTuple_l,fTuple_t,optBK_some,fIsi_non,fIsi_bl,fIsi_int,fIsi_str,fIsi_lst,fIsi_tup,List.getElem?_cons_zero,List.getElem?_cons_succ,List.set_cons_zero,List.set_cons_succ,DL.ggName,ggNil0,ggCons1,ggTup2,ggTup3,gFor,giSeq,gLc,gYes,wipeR,true_and,and_true,at_0,at_1,at_2,kit_int_int,kit_bool_int,kit_str_int,kit_non_int,kit_list_int,kit_tuple_int,kit_int_bool,kit_bool_bool,kit_str_bool,kit_non_bool,kit_list_bool,kit_tuple_bool,kit_int_str,kit_bool_str,kit_str_str,kit_non_str,kit_list_str,kit_tuple_str,kit_int_list,kit_bool_list,kit_str_list,kit_non_list,kit_list_list,kit_tuple_list,kit_int_tuple,kit_bool_tuple,kit_str_tuple,kit_non_tuple,kit_list_tuple,kit_tuple_tuple,eqD_i,neD_i,eqD_s,neD_s,eqD_f,neD_f,Nat.zero_add,Nat.reduceAdd,nc0,nc1,nc2,nc3,nc4,nc5,nc6,nc7,nc8,nc9,eq_self,decide_true,decide_false,Int.reduceEq,Int.reduceLT,Int.reduceLE,Int.reduceNeg,Bool.not_true,Bool.not_false,Bool.false_eq_true,if_true,if_false,↓reduceIte,false_and,and_false,List.all_cons,List.all_nil,List.any_cons,List.any_nil,id_eq,Bool.and_true,Bool.true_and,Bool.or_false,Bool.false_or,Bool.and_false,Bool.false_and,gCut,eqD_b,neD_b,giZip,reduceCtorEq,Bool.true_eq_false,Bool.false_eq_true,gRevL,gSl,goNone,goSome,slD_l,ne_eq,not_false_eq_true,not_true_eq_false,gBM,isTy_l,isTy_s,new_at,new_set,isTy_new,cellK_new,append_new,popAt_new,gFrz_eq,frzK_new,fLen_new,fTuple_new,ixD_new,slA_l,slA_t,slA_new,addTD_t,addCD_l,mulCD_l,isbD_b,isnotbD_b,mSplitC_s,gLstC,gTr,ggSub,lstK_l,lstK_r,addLD_eq]
  have ev1 : (Str.ofString " !#$&'()*+,-./0123456789:;<=>?@ABCDEFGHIJKLMNOPQRSTUVWXYZ[]^_abcdefghijklmnopqrstuvwxyz{|}~").length = 91 := by decide +kernel
  have ev2 : PyData.strOk (Str.ofString " !#$&'()*+,-./0123456789:;<=>?@ABCDEFGHIJKLMNOPQRSTUVWXYZ[]^_abcdefghijklmnopqrstuvwxyz{|}~") = true := by decide +kernel
  generalize Str.ofString " !#$&'()*+,-./0123456789:;<=>?@ABCDEFGHIJKLMNOPQRSTUVWXYZ[]^_abcdefghijklmnopqrstuvwxyz{|}~" = every at ev1 ev2 ⊢
  have sl : ∀ {z : Str} {lo hi : Option Int} {w : Wd} {K : KD}, z.length ≤ 50 → K (.str (L2.cutS z lo hi)) w → slS (.str z) lo hi w K := fun h q => ⟨le_sl (by omega), q⟩
  have ad : ∀ {a b : Str} {w : Wd} {K : KD}, a.length + b.length ≤ 1000 → K (.str (a ++ b)) w → addD (.str a) (.str b) w K := fun h q => ⟨le_sl (by omega), q⟩
  have cu := fun (lo hi : Option Int) => cutS_ok (z := s) (lo := lo) (hi := hi) s1
  refine ⟨le_sl (by omega), take_use (n + 2) hn (by omega) ⟨by omega, log_of (Nat.lt_of_le_of_lt (show ((s.length : Int) + 1).natAbs ≤ 9 by omega) (by decide))⟩ fun sp c2 a0 a1 hc2 => ?_⟩
  refine sl (z := s) (by omega) ?_
  rw [ev1]
  refine ⟨le_sl (by omega), take_use (n + 1) rfl (by omega) ⟨by decide, log_of (by decide)⟩ fun si c4 d0 d1 hc4 => ?_⟩
  refine ix_str d0 (by rw [ev1]; exact d1) (by rw [ev1]; decide) ev2 fun t t1 t2 => ?_
  have l1 := (cu none (some sp)).2
  refine ad (by omega) ?_
  refine take_use n rfl (by omega) ⟨by decide, log_of (by decide)⟩ fun sj c5 b0 b1 hc5 => ?_
  rw [addD_i]
  refine sl (z := s) (by omega) ?_
  have l2 := (cu (some (sp + sj)) none).2
  refine ad (by rw [len_app]; omega) ?_
  exact hk _ c5 (ok_app (ok_app (cu _ _).1 t1) (cu _ _).1) (by rw [len_app, len_app]; omega) hc5
theorem ok__law_signed {P : Program} {w : World} {K : PySem.W.Frag} {mg : Str → Option Value} {base : Heap} (T : DefAt K mg "_law_signed" s__law_signed ["_law_state", "_law_name"]) (B : Blt mg) (F__law_take : FnAt P w K mg base CX0 1 "_law_take" 2 sp__law_take) : FnAt P w K mg base CX0 2 "_law_signed" 2 sp__law_signed := (w__law_signed T B F__law_take).imp v__law_signed


end LW

namespace LW
open PySem PySem.Spec PyProof.Rows L2 RZ DL


def EvU (ge : GE) (ρ : Rho) (d : D) : Prop := ∀ w, EvX ge ρ w d w
def EvUA (ga : GA) (ρ : Rho) (ds : List D) : Prop := ∀ w, EvXA ga ρ w ds w
def EvG (ge : GE) (ρ : Rho) (M : List Cell) (f : Nat) (Q : List Cell → D → Prop) : Prop := ∀ (c n : Nat), n + f ≤ c → ∀ (kx : KX) (k : KD), (∀ L c' d, n ≤ c' → Q (M ++ L) d → k d ⟨M ++ L, some c'⟩) → ge ρ ⟨M, some c⟩ kx k
def EvGA (ga : GA) (ρ : Rho) (M : List Cell) (f : Nat) (Q : List Cell → List D → Prop) : Prop := ∀ (c n : Nat), n + f ≤ c → ∀ (kx : KX) (k : KA), (∀ L c' d, n ≤ c' → Q (M ++ L) d → k d ⟨M ++ L, some c'⟩) → ga ρ ⟨M, some c⟩ kx k
def Mono (P : List Cell → D → Prop) : Prop := ∀ M L d, P M d → P (M ++ L) d
def LstP (m : Nat) (P : List Cell → D → Prop) (M : List Cell) (d : D) : Prop := ∃ ds, d = .lst ds ∧ ds.length = m ∧ ∀ x ∈ ds, P M x
def AllP (m : Nat) (P : List Cell → D → Prop) (M : List Cell) (ds : List D) : Prop := ds.length = m ∧ ∀ x ∈ ds, P M x
def IntP (lo hi : Int) (_ : List Cell) (d : D) : Prop := ∃ i, d = .int i ∧ lo ≤ i ∧ i < hi
theorem addTD_ok {xs ys : List D} {w : Wd} {K : KD} (h : xs.length + ys.length ≤ 1000) (q : K (.tup (xs ++ ys)) w) : addTD (.tup xs) (.tup ys) w K := by
  rw [addTD_t]
  exact ⟨le_sl (by omega), q⟩
section
variable {ρ : Rho} {M : List Cell} {f f1 f2 m m' : Nat} {P P1 P2 Q : List Cell → D → Prop}
theorem mono_lst (h : Mono P) : Mono (LstP m P) := fun M L d ⟨ds, a, b, c⟩ => ⟨ds, a, b, fun x hx => h M L x (c x hx)⟩
theorem evu_c {d : D} : EvU (DL.gC d) ρ d := fun _ => evx_c
theorem evu_var {i : Nat} {d : D} (h : ρ[i]? = some (some d)) : EvU (gVar i) ρ d := fun _ => evx_var h
theorem evua_nil : EvUA gaNil ρ [] := fun _ => evx_nil
theorem evua_cons {g : GE} {r : GA} {d : D} {ds : List D} (h1 : EvU g ρ d) (h2 : EvUA r ρ ds) : EvUA (gaCons g r) ρ (d :: ds) := fun w => evx_consP (h1 w) (h2 w)
theorem evu_tup {ga : GA} {ds : List D} (h : EvUA ga ρ ds) (hl : ds.length ≤ 1000) : EvU (DL.gTup ga) ρ (.tup ds) := fun w => evx_tup (h w) hl
theorem evu_lst {ga : GA} {ds : List D} (h : EvUA ga ρ ds) (hl : ds.length ≤ 1000) : EvU (DL.gLst ga) ρ (.lst ds) := fun w => evx_lst (h w) hl
theorem evu_addT {a b : GE} {xs ys : List D} (h1 : EvU a ρ (.tup xs)) (h2 : EvU b ρ (.tup ys)) (hl : xs.length + ys.length ≤ 1000) : EvU (gBin addTD a b) ρ (.tup (xs ++ ys)) := fun w => evx_addT (h1 w) (h2 w) hl
theorem evu_addI {a b : GE} {i j : Int} (h1 : EvU a ρ (.int i)) (h2 : EvU b ρ (.int j)) : EvU (gBin addD a b) ρ (.int (i + j)) := fun w => evx_addI (h1 w) (h2 w)
theorem evu_modI {a b : GE} {i j : Int} (h1 : EvU a ρ (.int i)) (h2 : EvU b ρ (.int j)) (h : j ≠ 0) : EvU (gBin modD a b) ρ (.int (i.fmod j)) := fun w kx _ hk => h1 w kx _ (h2 w kx _ ⟨h, hk⟩)
theorem evu_neg {i : Int} : EvU (gUn negD (DL.gC (.int i))) ρ (.int (-i)) := fun _ => evx_neg
theorem evu_pow {i : Int} {n : Nat} (h : CPow i n) : EvU (gBin powD (DL.gC (.int i)) (DL.gC (.int n))) ρ (.int (i ^ n)) := fun _ => evx_pow h
theorem evu_ixT {a b : GE} {xs : List D} {i : Int} {d : D} (h1 : EvU a ρ (.tup xs)) (h2 : EvU b ρ (.int i)) (h : atI xs i = some d) : EvU (gBin ixD a b) ρ d := fun w => evx_ixT (h1 w) (h2 w) h
theorem evu_lenT {a : GE} {xs : List D} (h1 : EvU a ρ (.tup xs)) : EvU (gCB fLen (gaCons a gaNil)) ρ (.int (xs.length : Nat)) := fun w kx _ hk => h1 w kx _ hk
theorem evu_slT {a : GE} {l h : GO} {xs : List D} {lo hi : Option Int} (h1 : EvU a ρ (.tup xs)) (hlo : ∀ (w : Wd) (kx : KX) (k : Option Int → Wd → Prop), k lo w → l ρ w kx k) (hhi : ∀ (w : Wd) (kx : KX) (k : Option Int → Wd → Prop), k hi w → h ρ w kx k) : EvU (gSl slA a l h) ρ (.tup (DL.cutD xs lo hi)) := fun w => evx_slT (h1 w) (hlo w) (hhi w)
theorem evo_n : ∀ (w : Wd) (kx : KX) (k : Option Int → Wd → Prop), k none w → goNone ρ w kx k := fun _ _ _ h => h
theorem evo_s {g : GE} {i : Int} (hg : EvU g ρ (.int i)) : ∀ (w : Wd) (kx : KX) (k : Option Int → Wd → Prop), k (some i) w → goSome g ρ w kx k := fun w kx _ h => hg w kx _ h
theorem evu_slTo {a g : GE} {xs : List D} {i : Int} (h1 : EvU a ρ (.tup xs)) (h2 : EvU g ρ (.int i)) : EvU (gSl slA a goNone (goSome g)) ρ (.tup (DL.cutD xs none (some i))) := evu_slT h1 evo_n (evo_s h2)
theorem evu_slFr {a g : GE} {xs : List D} {i : Int} (h1 : EvU a ρ (.tup xs)) (h2 : EvU g ρ (.int i)) : EvU (gSl slA a (goSome g) goNone) ρ (.tup (DL.cutD xs (some i) none)) := evu_slT h1 (evo_s h2) evo_n
theorem evu_slFT {a g g2 : GE} {xs : List D} {i j : Int} (h1 : EvU a ρ (.tup xs)) (h2 : EvU g ρ (.int i)) (h3 : EvU g2 ρ (.int j)) : EvU (gSl slA a (goSome g) (goSome g2)) ρ (.tup (DL.cutD xs (some i) (some j))) := evu_slT h1 (evo_s h2) (evo_s h3)
theorem evu_listT {a : GE} {xs : List D} (h1 : EvU a ρ (.tup xs)) : EvU (gCB fList (gaCons a gaNil)) ρ (.lst xs) := fun w => evx_listT (h1 w)
theorem evu_revT {a : GE} {xs : List D} (h1 : EvU a ρ (.tup xs)) : EvU (gRevT a) ρ (.tup xs.reverse) := fun w kx _ hk => h1 w kx _ hk
theorem evu_mulT {a b : GE} {xs : List D} {j : Int} (h1 : EvU a ρ (.tup xs)) (h2 : EvU b ρ (.int j)) (h : xs ≠ [] ∧ 2 ≤ j ∧ j ≤ 1000 ∧ xs.length ≤ 1000) : EvU (gBin mulTpD a b) ρ (.tup (List.replicate j.toNat xs).flatten) := fun w kx _ hk => h1 w kx _ (h2 w kx _ ⟨h, hk⟩)
theorem evu_addS {a b : GE} {x y : Str} (h1 : EvU a ρ (.str x)) (h2 : EvU b ρ (.str y)) (hl : x.length + y.length ≤ 1000) : EvU (gBin addD a b) ρ (.str (x ++ y)) := fun w kx _ hk => h1 w kx _ (h2 w kx _ ⟨le_sl (by omega), hk⟩)
theorem evg_u {ge : GE} {d : D} (h : EvU ge ρ d) (q : Q M d) : EvG ge ρ M 0 Q := fun c n hc kx k hk => h _ kx _ (by
  have := hk [] c d (by omega) (by rw [List.append_nil]; exact q)
  rwa [List.append_nil] at this)
theorem evg_imp {ge : GE} (h : EvG ge ρ M f P) (q : ∀ M d, P M d → Q M d) : EvG ge ρ M f Q := fun c n hc kx k hk => h c n hc kx k fun L c' d h1 h2 => hk L c' d h1 (q _ _ h2)
theorem evgl_nil : EvGA gaNil ρ M 0 (AllP 0 P) := fun c n hc kx k hk => by
  have := hk [] c [] (by omega) ⟨rfl, fun _ h => nomatch h⟩
  rw [List.append_nil] at this
  exact this
theorem evgl_cons {g : GE} {r : GA} (mo : Mono P) (h1 : EvG g ρ M f1 P) (h2 : ∀ L, EvGA r ρ (M ++ L) f2 (AllP m P)) : EvGA (gaCons g r) ρ M (f1 + f2) (AllP (m + 1) P) := fun c n hc kx k hk => by
  refine h1 c (n + f2) (by omega) kx _ fun L c' d h3 h4 => ?_
  refine h2 L c' n h3 kx _ fun L2 c2 ds h5 h6 => ?_
  rw [List.append_assoc] at h6 ⊢
  refine hk (L ++ L2) c2 (d :: ds) h5 ⟨by rw [List.length_cons, h6.1], fun x hx => ?_⟩
  rcases List.mem_cons.mp hx with rfl | hx
  · rw [← List.append_assoc]
    exact mo _ _ _ h4
  · exact h6.2 x hx
theorem evg_lst {ga : GA} (h : EvGA ga ρ M f (AllP m P)) (hl : m ≤ 1000) : EvG (DL.gLst ga) ρ M f (LstP m P) := fun c n hc kx k hk => h c n hc kx _ fun L c' ds h1 h2 => ⟨le_sl (by rw [h2.1]; omega), hk L c' _ h1 ⟨ds, rfl, h2.1, h2.2⟩⟩
theorem evg_addL {a b : GE} (mo : Mono P) (h1 : EvG a ρ M f1 (LstP m P)) (h2 : ∀ L, EvG b ρ (M ++ L) f2 (LstP m' P)) (hl : m + m' ≤ 1000) : EvG (gBin addD a b) ρ M (f1 + f2) (LstP (m + m') P) := fun c n hc kx k hk => by
  refine h1 c (n + f2) (by omega) kx _ fun L c' d h3 ⟨xs, e1, e2, e3⟩ => ?_
  subst e1
  refine h2 L c' n h3 kx _ fun L2 c2 d2 h5 ⟨ys, g1, g2, g3⟩ => ?_
  subst g1
  refine ⟨le_sl (by omega), ?_⟩
  rw [List.append_assoc] at g3 ⊢
  refine hk (L ++ L2) c2 _ h5 ⟨xs ++ ys, rfl, by rw [List.length_append, e2, g2], fun x hx => ?_⟩
  rcases List.mem_append.mp hx with hx | hx
  · rw [← List.append_assoc]
    exact mo _ _ _ (e3 x hx)
  · exact g3 x hx
theorem evg_ix {a b : GE} (mo : Mono P) (h1 : EvG a ρ M f1 (LstP m P)) (h2 : ∀ L, EvG b ρ (M ++ L) f2 (IntP 0 m)) : EvG (gBin ixD a b) ρ M (f1 + f2) P := fun c n hc kx k hk => by
  refine h1 c (n + f2) (by omega) kx _ fun L c' d h3 ⟨xs, e1, e2, e3⟩ => ?_
  subst e1
  refine h2 L c' n h3 kx _ fun L2 c2 d2 h5 ⟨i, g1, g2, g3⟩ => ?_
  subst g1
  rw [List.append_assoc]
  refine ix_all (fun d => P (M ++ (L ++ L2)) d) g2 (by omega) (fun x hx => ?_) fun x hx => hk (L ++ L2) c2 x h5 hx
  rw [← List.append_assoc]
  exact mo _ _ _ (e3 x hx)
theorem evg_take {g : GE} {i : Int} {j : Nat} (hj : ρ[j]? = some (some .st)) (h : EvU g ρ (.int i)) (h0 : 0 < i) (h1 : i < 2 ^ 190) : EvG (gCall0 2 gTake (gaCons (gVar j) (gaCons g gaNil))) ρ M 1 (IntP 0 i) := fun c n hc kx k hk => by
  show gaCons (gVar j) (gaCons g gaNil) ρ ⟨M, some c⟩ kx (fun ds w1 => ds.length = 2 ∧ gTake ds w1 noX k)
  refine (evua_cons (evu_var hj) (evua_cons h evua_nil)) ⟨M, some c⟩ kx _ ?_
  refine ⟨rfl, take_use n rfl hc ⟨h0, log_of (Nat.lt_of_lt_of_le (show i.natAbs < 2 ^ 190 by omega) (by decide))⟩ fun r c' r0 r1 hc' => ?_⟩
  have := hk [] c' (.int r) hc' ⟨r, rfl, r0, r1⟩
  rwa [List.append_nil] at this
theorem evg_ins {a b o : GE} {xs ys : List D} (h1 : EvU a ρ (.tup xs)) (h2 : EvU b ρ (.tup ys)) (ho : EvG o ρ M f P) (hl : xs.length + ys.length ≤ 900) (q : ∀ M d, P M d → Q M (.tup (xs ++ [d] ++ ys))) :
    EvG (gBin addTD (gBin addTD a (DL.gTup (gaCons o gaNil))) b) ρ M f Q := fun c n hc kx k hk => by
  refine h1 _ kx _ (ho c n hc kx _ fun L c' d h3 h4 => ⟨le_sl (by simp), ?_⟩)
  refine addTD_ok (by simp; omega) (h2 _ kx _ ?_)
  exact addTD_ok (by simp; omega) (hk L c' _ h3 (q _ _ h4))
theorem evg_ins0 {b o : GE} {ys : List D} (h2 : EvU b ρ (.tup ys)) (ho : EvG o ρ M f P) (hl : ys.length ≤ 900) (q : ∀ M d, P M d → Q M (.tup ([d] ++ ys))) : EvG (gBin addTD (DL.gTup (gaCons o gaNil)) b) ρ M f Q := fun c n hc kx k hk => by
  refine ho c n hc kx _ fun L c' d h3 h4 => ⟨le_sl (by simp), h2 _ kx _ ?_⟩
  exact addTD_ok (by simp; omega) (hk L c' _ h3 (q _ _ h4))
theorem evg_pair1 {o p : GE} {e : D} (ho : EvG o ρ M f P) (h2 : EvU p ρ e) (q : ∀ M d, P M d → Q M (.tup [d, e])) : EvG (DL.gTup (gaCons o (gaCons p gaNil))) ρ M f Q := fun c n hc kx k hk =>
  ho c n hc kx _ fun L c' d h3 h4 => h2 _ kx _ ⟨le_sl (by simp), hk L c' _ h3 (q _ _ h4)⟩
theorem evg_pair2 {o p : GE} {e : D} (ho : EvG o ρ M f P) (h2 : EvU p ρ e) (q : ∀ M d, P M d → Q M (.tup [e, d])) : EvG (DL.gTup (gaCons p (gaCons o gaNil))) ρ M f Q := fun c n hc kx k hk =>
  h2 _ kx _ (ho c n hc kx _ fun L c' d h3 h4 => ⟨le_sl (by simp), hk L c' _ h3 (q _ _ h4)⟩)
theorem evg_tri1 {o p r : GE} {e g : D} (ho : EvG o ρ M f P) (h2 : EvU p ρ e) (h3 : EvU r ρ g) (q : ∀ M d, P M d → Q M (.tup [d, e, g])) : EvG (DL.gTup (gaCons o (gaCons p (gaCons r gaNil)))) ρ M f Q := fun c n hc kx k hk =>
  ho c n hc kx _ fun L c' d h5 h4 => h2 _ kx _ (h3 _ kx _ ⟨le_sl (by simp), hk L c' _ h5 (q _ _ h4)⟩)
theorem evg_tri2 {o p r : GE} {e g : D} (h2 : EvU p ρ e) (ho : EvG o ρ M f P) (h3 : EvU r ρ g) (q : ∀ M d, P M d → Q M (.tup [e, d, g])) : EvG (DL.gTup (gaCons p (gaCons o (gaCons r gaNil)))) ρ M f Q := fun c n hc kx k hk =>
  h2 _ kx _ (ho c n hc kx _ fun L c' d h5 h4 => h3 _ kx _ ⟨le_sl (by simp), hk L c' _ h5 (q _ _ h4)⟩)
theorem evg_tri3 {o p r : GE} {e g : D} (h2 : EvU p ρ e) (h3 : EvU r ρ g) (ho : EvG o ρ M f P) (q : ∀ M d, P M d → Q M (.tup [e, g, d])) : EvG (DL.gTup (gaCons p (gaCons r (gaCons o gaNil)))) ρ M f Q := fun c n hc kx k hk =>
  h2 _ kx _ (h3 _ kx _ (ho c n hc kx _ fun L c' d h5 h4 => ⟨le_sl (by simp), hk L c' _ h5 (q _ _ h4)⟩))
theorem evu_seqasg2 {ge : GE} {i j : Nat} {b : GS} {F : DEnds} {d e : D} {w : Wd} (h : EvU ge ρ (.tup [d, e])) (hb : b F ((ρ.set i (some d)).set j (some e)) w) : gSeq (gAsg ge (ggTup 2 (ggCons (DL.ggName i) (ggCons (DL.ggName j) ggNil)))) b F ρ w := h w F.ex _ (by
  rw [ggTup2]
  exact ⟨rfl, hb⟩)
theorem evu_seqasg3 {ge : GE} {i j l : Nat} {b : GS} {F : DEnds} {d e g : D} {w : Wd} (h : EvU ge ρ (.tup [d, e, g])) (hb : b F (((ρ.set i (some d)).set j (some e)).set l (some g)) w) : gSeq (gAsg ge (ggTup 3 (ggCons (DL.ggName i) (ggCons (DL.ggName j) (ggCons (DL.ggName l) ggNil))))) b F ρ w := h w F.ex _ (by
  rw [ggTup3]
  exact ⟨rfl, hb⟩)
theorem evg_var {i : Nat} {d : D} (h : ρ[i]? = some (some d)) (q : Q M d) : EvG (gVar i) ρ M 0 Q := evg_u (evu_var h) q
theorem evg_seqset {i : Nat} {ge : GE} {b : GS} {F : DEnds} {c n : Nat} (h : EvG ge ρ M f Q) (hc : n + f ≤ c) (hb : ∀ L c' d, n ≤ c' → Q (M ++ L) d → b F (ρ.set i (some d)) ⟨M ++ L, some c'⟩) : gSeq (gSet i ge) b F ρ ⟨M, some c⟩ := h c n hc F.ex _ hb
theorem evg_ret {ge : GE} {F : DEnds} {c n : Nat} (h : EvG ge ρ M f Q) (hc : n + f ≤ c) (hb : ∀ L c' d, n ≤ c' → Q (M ++ L) d → F.rt d ⟨M ++ L, some c'⟩) : gRet ge F ρ ⟨M, some c⟩ := h c n hc F.ex _ hb
theorem evu_seqset {i : Nat} {ge : GE} {b : GS} {F : DEnds} {d : D} {w : Wd} (h : EvU ge ρ d) (hb : b F (ρ.set i (some d)) w) : gSeq (gSet i ge) b F ρ w := h w F.ex _ hb
end

mutual
theorem any_pre {M L : List Cell} : ∀ {d : D}, anyD M d = true → anyD (M ++ L) d = true
  | .non, _ => rfl
  | .bl _, _ => rfl
  | .int i, q => by rw [anyD] at q ⊢; exact q
  | .str s, q => by rw [anyD] at q ⊢; exact q
  | .lst xs, q => by
    rw [anyD, Bool.and_eq_true] at q ⊢
    exact ⟨anys_pre q.1, q.2⟩
  | .tup xs, q => by
    rw [anyD, Bool.and_eq_true] at q ⊢
    exact ⟨anys_pre q.1, q.2⟩
  | .rf i, q => by
    rw [anyD] at q ⊢
    split at q
    · rename_i kvs e
      rw [List.getElem?_append_left (List.getElem?_eq_some_iff.mp e).1, e]
    · cases q
  | .st, q => by cases q
  | .ob _, q => by cases q
  | .scr _, q => by cases q
theorem anys_pre {M L : List Cell} : ∀ {ds : List D}, anyDs M ds = true → anyDs (M ++ L) ds = true
  | [], _ => rfl
  | x :: xs, q => by
    rw [anyDs, Bool.and_eq_true] at q ⊢
    exact ⟨any_pre q.1, anys_pre q.2⟩
end
mutual
theorem fit_pre {M L : List Cell} : ∀ {d : D}, fitM M d = true → fitM (M ++ L) d = true
  | .non, _ => rfl
  | .bl _, _ => rfl
  | .int i, q => by rw [fitM] at q ⊢; exact q
  | .str s, q => by rw [fitM] at q ⊢; exact q
  | .lst xs, q => by
    rw [fitM] at q ⊢
    exact fits_pre q
  | .tup xs, q => by
    rw [fitM] at q ⊢
    exact fits_pre q
  | .rf i, q => by
    rw [fitM] at q ⊢
    split at q
    · rename_i kvs e
      rw [List.getElem?_append_left (List.getElem?_eq_some_iff.mp e).1, e]
      exact q
    · cases q
  | .st, q => by cases q
  | .ob _, q => by cases q
  | .scr _, q => by cases q
theorem fits_pre {M L : List Cell} : ∀ {ds : List D}, fitMs M ds = true → fitMs (M ++ L) ds = true
  | [], _ => rfl
  | x :: xs, q => by
    rw [fitMs, Bool.and_eq_true] at q ⊢
    exact ⟨fit_pre q.1, fits_pre q.2⟩
end
theorem th_app {M L : List Cell} {z n : Nat} {d : D} (h : Th M z n d) : Th (M ++ L) z n d := ⟨any_pre h.any, fit_pre h.fit, h.one, h.sz, h.dep⟩
theorem th_tup2 {M : List Cell} {z n : Nat} {a b : D} (ha : Th M z n a) (hb : Pu 3 n b) : Th M (z + 4) (n + 1) (.tup [a, b]) := by
  have := th_ins (xs := []) (ys := [b]) (m := 1) all_nil ha (all_cons hb all_nil) (by simp) (by decide)
  exact this.up (by omega) (Nat.le_refl _)
theorem th_tup2' {M : List Cell} {z n : Nat} {a b : D} (ha : Pu 1 n a) (hb : Th M z n b) : Th M (z + 2) (n + 1) (.tup [a, b]) := by
  have := th_ins (xs := [a]) (ys := []) (m := 1) (all_cons ha all_nil) hb all_nil (by simp) (by decide)
  exact this.up (by omega) (Nat.le_refl _)
theorem cut_mem {α : Type} {xs : List α} {lo hi : Option Int} {x : α} (h : x ∈ DL.cutD xs lo hi) : x ∈ xs := List.mem_of_mem_drop (List.mem_of_mem_take h)
theorem atI_mem {α : Type} {xs : List α} {r : Int} (h0 : 0 ≤ r) (h1 : r < xs.length) : ∃ x, atI xs r = some x ∧ x ∈ xs := by
  have hl : r.toNat < xs.length := by omega
  have := atI_nat (List.getElem?_eq_getElem hl)
  rw [Int.toNat_of_nonneg h0] at this
  exact ⟨_, this, List.getElem_mem hl⟩
def PairsP (rs : List D) : Prop := ∀ x ∈ rs, ∃ u p, x = .tup [u, p] ∧ Pu 1 1 u ∧ Pu 3 1 p
theorem PairsP.pu {rs : List D} (h : PairsP rs) : ∀ x ∈ rs, Pu 5 2 x := fun x hx => by
  obtain ⟨u, p, rfl, a, b⟩ := h x hx
  exact pu_pair a b
theorem pu_app {z n : Nat} {xs ys : List D} (h : ∀ x ∈ xs, Pu z n x) (g : ∀ x ∈ ys, Pu z n x) : ∀ x ∈ xs ++ ys, Pu z n x := fun x hx => (List.mem_append.mp hx).elim (h x) (g x)
theorem pu_cut {z n : Nat} {xs : List D} {lo hi : Option Int} (h : ∀ x ∈ xs, Pu z n x) : ∀ x ∈ DL.cutD xs lo hi, Pu z n x := fun x hx => h x (cut_mem hx)
theorem pth_tup {M : List Cell} {xs : List D} (h : ∀ x ∈ xs, Pu 5 2 x) (l : xs.length ≤ 20) : Th M 260 6 (.tup xs) := ((pu_tup h l (by decide)).th).up (by decide) (by decide)
theorem pth_ins {M : List Cell} {xs ys : List D} {o : D} {y n : Nat} (hx : ∀ x ∈ xs, Pu 5 2 x) (ho : Th M y n o) (hy : ∀ x ∈ ys, Pu 5 2 x) (l : xs.length + ys.length ≤ 9) (h1 : y ≤ 210) (h2 : n ≤ 5) : Th M 260 6 (.tup (xs ++ [o] ++ ys)) :=
  (th_ins (m := 9) (n := 5) (fun x h => (hx x h).up (Nat.le_refl _) (by decide)) (ho.up h1 h2) (fun x h => (hy x h).up (Nat.le_refl _) (by decide)) l (by decide)).up (by decide) (Nat.le_refl _)
theorem cut1 {α : Type} {xs : List α} {r : Int} (h0 : 0 ≤ r) : (DL.cutD xs (some r) (some (r + 1))).length ≤ 1 := by
  unfold DL.cutD
  obtain ⟨j, rfl⟩ := Int.eq_ofNat_of_zero_le h0
  have e1 : (some ((j : Int) + 1)) = some ((j + 1 : Nat) : Int) := by simp
  rw [List.length_take, HT.sIx_nat, e1, HT.sIx_nat]
  omega
def sp__law_bent_rates : GF := fun ds w _ k => ∃ (rs : List D) (c n : Nat), ds = [.st, .tup rs] ∧ (PairsP rs ∧ 2 ≤ rs.length ∧ rs.length ≤ 4 ∧ w.n = some c ∧ n + 4 ≤ c) ∧ ∀ L d c', Th (w.M ++ L) 260 6 d → n ≤ c' → k d ⟨w.M ++ L, some c'⟩
abbrev s__law_bent_rates : Stmt := topS 34
theorem sc__law_bent_rates : FnScope ["_law_state", "_law_rates", "_law_at", "_law_upto", "_law_part_here", "_law_some"] ["_law_state", "_law_rates"] (defScope s__law_bent_rates) := ⟨rfl, rfl, rfl, by decide +kernel, rfl, by decide +kernel, by decide +kernel⟩
def g__law_bent_rates : GS := (gSeq (gSet 2 (gCall0 2 sp__law_take (gaCons (gVar 0) (gaCons (gCB fLen (gaCons (gVar 1) gaNil)) gaNil))))
  (gSeq (gAsg (gBin ixD (gVar 1) (gVar 2)) (ggTup 2 (ggCons (ggName 3) (ggCons (ggName 4) ggNil))))
  (gSeq (gSet 5 (DL.gLst (gaCons (gRevT (gVar 1)) (gaCons (gSl slA (gVar 1) (goSome (gC (.int 1))) goNone) (gaCons (gBin addTD (gVar 1) (gSl slA (gVar 1) (goSome (gUn negD (gC (.int 1)))) goNone)) (gaCons (gCB fList (gaCons (gVar 1) gaNil)) (gaCons (gBin addTD (gBin addTD (gSl slA (gVar 1) goNone (goSome (gVar 2))) (gTup (gaCons (gCB fList (gaCons (gBin ixD (gVar 1) (gVar 2)) gaNil)) gaNil))) (gSl slA (gVar 1) (goSome (gBin addD (gVar 2) (gC (.int 1)))) goNone)) gaNil)))))))
  (gSeq (gSet 5 (gBin addD (gVar 5) (DL.gLst (gaCons (gBin addTD (gBin addTD (gSl slA (gVar 1) goNone (goSome (gVar 2))) (gTup (gaCons (gTup (gaCons (gCall0 1 sp__law_odd (gaCons (gVar 0) gaNil)) (gaCons (gVar 4) gaNil))) gaNil))) (gSl slA (gVar 1) (goSome (gBin addD (gVar 2) (gC (.int 1)))) goNone)) (gaCons (gBin addTD (gBin addTD (gSl slA (gVar 1) goNone (goSome (gVar 2))) (gSl slA (gVar 1) (goSome (gVar 2)) (goSome (gBin addD (gVar 2) (gC (.int 1)))))) (gSl slA (gVar 1) (goSome (gVar 2)) goNone)) gaNil)))))
  (gSeq (gSet 5 (gBin addD (gVar 5) (DL.gLst (gaCons (gBin addTD (gBin addTD (gSl slA (gVar 1) goNone (goSome (gVar 2))) (gTup (gaCons (gTup (gaCons (gVar 3) (gaCons (gCall0 1 sp__law_odd (gaCons (gVar 0) gaNil)) gaNil))) gaNil))) (gSl slA (gVar 1) (goSome (gBin addD (gVar 2) (gC (.int 1)))) goNone)) (gaCons (gBin addTD (gSl slA (gVar 1) goNone (goSome (gUn negD (gC (.int 1))))) (gTup (gaCons (gTup (gaCons (gBin powD (gC (.int 10)) (gC (.int 6))) (gaCons (gBin ixD (gBin ixD (gVar 1) (gUn negD (gC (.int 1)))) (gC (.int 1))) gaNil))) gaNil))) gaNil)))))
  (gRet (gBin ixD (gBin addD (gVar 5) (DL.gLst (gaCons (gBin addTD (gBin addTD (gSl slA (gVar 1) goNone (goSome (gVar 2))) (gTup (gaCons (gTup (gaCons (gBin powD (gC (.int 10)) (gC (.int 6))) (gaCons (gVar 4) gaNil))) gaNil))) (gSl slA (gVar 1) (goSome (gBin addD (gVar 2) (gC (.int 1)))) goNone)) (gaCons (gSl slA (gVar 1) goNone (goSome (gC (.int 1)))) (gaCons (gSl slA (gVar 1) (goSome (gUn negD (gC (.int 1)))) goNone) gaNil))))) (gCall0 2 sp__law_take (gaCons (gVar 0) (gaCons (gC (.int 12)) gaNil))))))))))
theorem w__law_bent_rates {P : Program} {w : World} {K : PySem.W.Frag} {mg : Str → Option Value} {base : Heap} (T : DefAt K mg "_law_bent_rates" s__law_bent_rates ["_law_state", "_law_rates"]) (B : Blt mg) (F__law_take : FnAt P w K mg base CX0 1 "_law_take" 2 sp__law_take) (F__law_odd : FnAt P w K mg base CX0 2 "_law_odd" 1 sp__law_odd) : FnAt P w K mg base CX0 3 "_law_bent_rates" 2 (sem0 6 g__law_bent_rates) := by
  have nd := sc__law_bent_rates.nd
  exact T.fn0 sc__law_bent_rates (fun f cdv A outer s H E hr => (dss_cons (ds_set (i := 2) nd rfl (by first | exact Or.inl rfl | exact Or.inr rfl) (de_call0 F__law_take hr (by rfl) (da_cons (de_var 0) (da_cons (de_len B (by rfl) (da_cons (de_var 1) da_nil)) da_nil))))
  (dss_cons (ds_asg (de_ix (de_var 1) (de_var 2)) (dg_tup rfl (dgs_cons (dg_name (i := 3) nd rfl (by first | exact Or.inl rfl | exact Or.inr rfl)) (dgs_cons (dg_name (i := 4) nd rfl (by first | exact Or.inl rfl | exact Or.inr rfl)) dgs_nil))))
  (dss_cons (ds_set (i := 5) nd rfl (by first | exact Or.inl rfl | exact Or.inr rfl) (de_lst (da_cons (de_revT (de_var 1)) (da_cons (de_slA (de_var 1) (do_some de_int) do_none) (da_cons (de_addt (de_var 1) (de_slA (de_var 1) (do_some (de_neg de_int)) do_none)) (da_cons (de_list B (by rfl) (da_cons (de_var 1) da_nil)) (da_cons (de_addt (de_addt (de_slA (de_var 1) do_none (do_some (de_var 2))) (de_tup (da_cons (de_list B (by rfl) (da_cons (de_ix (de_var 1) (de_var 2)) da_nil)) da_nil))) (de_slA (de_var 1) (do_some (de_add (de_var 2) de_int)) do_none)) da_nil)))))))
  (dss_cons (ds_set (i := 5) nd rfl (by first | exact Or.inl rfl | exact Or.inr rfl) (de_add (de_var 5) (de_lst (da_cons (de_addt (de_addt (de_slA (de_var 1) do_none (do_some (de_var 2))) (de_tup (da_cons (de_tup (da_cons (de_call0 F__law_odd hr (by rfl) (da_cons (de_var 0) da_nil)) (da_cons (de_var 4) da_nil))) da_nil))) (de_slA (de_var 1) (do_some (de_add (de_var 2) de_int)) do_none)) (da_cons (de_addt (de_addt (de_slA (de_var 1) do_none (do_some (de_var 2))) (de_slA (de_var 1) (do_some (de_var 2)) (do_some (de_add (de_var 2) de_int)))) (de_slA (de_var 1) (do_some (de_var 2)) do_none)) da_nil)))))
  (dss_cons (ds_set (i := 5) nd rfl (by first | exact Or.inl rfl | exact Or.inr rfl) (de_add (de_var 5) (de_lst (da_cons (de_addt (de_addt (de_slA (de_var 1) do_none (do_some (de_var 2))) (de_tup (da_cons (de_tup (da_cons (de_var 3) (da_cons (de_call0 F__law_odd hr (by rfl) (da_cons (de_var 0) da_nil)) da_nil))) da_nil))) (de_slA (de_var 1) (do_some (de_add (de_var 2) de_int)) do_none)) (da_cons (de_addt (de_slA (de_var 1) do_none (do_some (de_neg de_int))) (de_tup (da_cons (de_tup (da_cons (de_pow de_int de_int) (da_cons (de_ix (de_ix (de_var 1) (de_neg de_int)) de_int) da_nil))) da_nil))) da_nil)))))
  (dss_one (ds_ret (de_ix (de_add (de_var 5) (de_lst (da_cons (de_addt (de_addt (de_slA (de_var 1) do_none (do_some (de_var 2))) (de_tup (da_cons (de_tup (da_cons (de_pow de_int de_int) (da_cons (de_var 4) da_nil))) da_nil))) (de_slA (de_var 1) (do_some (de_add (de_var 2) de_int)) do_none)) (da_cons (de_slA (de_var 1) do_none (do_some de_int)) (da_cons (de_slA (de_var 1) (do_some (de_neg de_int)) do_none) da_nil))))) (de_call0 F__law_take hr (by rfl) (da_cons (de_var 0) (da_cons de_int da_nil))))))))))))

theorem th_mono {z n : Nat} : Mono fun M d => Th M z n d := fun _ _ _ h => th_app h
theorem evg_odd {ρ : Rho} {M : List Cell} {j : Nat} (hj : ρ[j]? = some (some .st)) : EvG (gCall0 1 sp__law_odd (gaCons (gVar j) gaNil)) ρ M 1 (fun M d => Th M 200 3 d) := fun c n hc kx k hk => by
  show gaCons (gVar j) gaNil ρ ⟨M, some c⟩ kx (fun ds w1 => ds.length = 1 ∧ sp__law_odd ds w1 noX k)
  refine (evua_cons (evu_var hj) evua_nil) ⟨M, some c⟩ kx _ ?_
  exact ⟨rfl, c, n, rfl, ⟨rfl, hc⟩, fun L d c' h1 h2 => hk L c' d h2 h1⟩
theorem v__law_bent_rates : ∀ ds w kx k, sp__law_bent_rates ds w kx k → sem0 6 g__law_bent_rates ds w kx k := by
  rintro ds ⟨M, nn⟩ kx k ⟨rs, c, n, rfl, ⟨hp, h2, h4, hn, hc⟩, hk⟩
  subst hn
  have p6 : CPow 10 6 := ⟨by decide, by decide, by decide⟩
  have hpu := hp.pu
  have ll : ∀ lo hi, (DL.cutD rs lo hi).length ≤ 4 := fun lo hi => Nat.le_trans (cut_len' rs lo hi) h4
  have e : rho 6 [D.st, D.tup rs] = [some .st, some (.tup rs), none, none, none, none] := rfl
  show g__law_bent_rates _ (rho 6 [D.st, D.tup rs]) ⟨M, some c⟩
  rw [e]
  unfold g__law_bent_rates
  refine evg_seqset (n := n + 3) (evg_take rfl (evu_lenT (evu_var rfl)) (by omega) (by omega)) (by omega) ?_
  rintro L1 c1 _ hc1 ⟨r, rfl, r0, r1⟩
  obtain ⟨x, ex, hx⟩ := atI_mem (xs := rs) r0 r1
  obtain ⟨u, p, rfl, hu, hpp⟩ := hp x hx
  refine evu_seqasg2 (evu_ixT (evu_var rfl) (evu_var rfl) ex) ?_
  have T : ∀ {M : List Cell} {d : D}, Th M 260 6 d → (fun M d => Th M 260 6 d) M d := fun h => h
  have rr : ∀ x ∈ rs.reverse, Pu 5 2 x := fun x hx => hpu x (List.mem_reverse.mp hx)
  refine evg_seqset (n := n + 3) (Q := LstP 5 fun M d => Th M 260 6 d) (evg_lst (f := 0) ?_ (by decide)) (by omega) ?_
  · refine evgl_cons (f1 := 0) (f2 := 0) th_mono (evg_u (evu_revT (evu_var rfl)) (pth_tup rr (by rw [List.length_reverse]; omega))) fun L => ?_
    refine evgl_cons (f1 := 0) (f2 := 0) th_mono (evg_u (evu_slFr (evu_var rfl) evu_c) (pth_tup (pu_cut hpu) (Nat.le_trans (ll _ _) (by decide)))) fun L => ?_
    refine evgl_cons (f1 := 0) (f2 := 0) th_mono (evg_u (evu_addT (evu_var rfl) (evu_slFr (evu_var rfl) evu_neg) (by have := ll (some (-1)) none; omega)) (pth_tup (pu_app hpu (pu_cut hpu)) (by have := ll (some (-1)) none; rw [List.length_append]; omega))) fun L => ?_
    refine evgl_cons (f1 := 0) (f2 := 0) th_mono (evg_u (evu_listT (evu_var rfl)) (((th_lst (m := 4) hpu h4 (by decide))).up (by decide) (by decide))) fun L => ?_
    refine evgl_cons (f1 := 0) (f2 := 0) th_mono ?_ fun L => evgl_nil
    refine evg_ins (P := fun M d => Th M 10 4 d) (evu_slTo (evu_var rfl) (evu_var rfl)) (evu_slFr (evu_var rfl) (evu_addI (evu_var rfl) evu_c)) (evg_u (evu_listT (evu_ixT (evu_var rfl) (evu_var rfl) ex)) ?_) (by have := ll none (some r); have := ll (some (r + 1)) none; omega) ?_
    · exact Th.up (th_lst (m := 2) (z := 3) (n := 1) (all_cons (hu.up (show 1 ≤ 3 by decide) (Nat.le_refl 1)) (all_cons hpp all_nil)) (by simp) (by decide)) (show 1 + 2 * 3 ≤ 10 by decide) (show 1 + 1 ≤ 4 by decide)
    · intro M d hd
      exact pth_ins (pu_cut hpu) hd (pu_cut hpu) (by have := ll none (some r); have := ll (some (r + 1)) none; omega) (by decide) (by decide)
  rintro L2 c2 d2 hc2 hd2
  refine evg_seqset (n := n + 2) (f := 1) (Q := LstP 7 fun M d => Th M 260 6 d) (evg_addL (m := 5) (m' := 2) (f1 := 0) (f2 := 1) th_mono (evg_var rfl hd2) (fun L => evg_lst (f := 1) ?_ (by decide)) (by decide)) (by omega) ?_
  · refine evgl_cons (f1 := 1) (f2 := 0) th_mono ?_ fun L3 => ?_
    · refine evg_ins (P := fun M d => Th M 204 4 d) (evu_slTo (evu_var rfl) (evu_var rfl)) (evu_slFr (evu_var rfl) (evu_addI (evu_var rfl) evu_c)) (evg_pair1 (evg_odd rfl) (evu_var rfl) fun M d hd => th_tup2 hd (hpp.up (Nat.le_refl _) (by decide))) (by have := ll none (some r); have := ll (some (r + 1)) none; omega) ?_
      intro M d hd
      exact pth_ins (pu_cut hpu) hd (pu_cut hpu) (by have := ll none (some r); have := ll (some (r + 1)) none; omega) (by decide) (by decide)
    · refine evgl_cons (f1 := 0) (f2 := 0) th_mono ?_ fun L => evgl_nil
      have a1 := ll none (some r)
      have a2 := ll (some r) (some (r + 1))
      have a3 := ll (some r) none
      refine evg_u (evu_addT (evu_addT (evu_slTo (evu_var rfl) (evu_var rfl)) (evu_slFT (evu_var rfl) (evu_var rfl) (evu_addI (evu_var rfl) evu_c)) (by omega)) (evu_slFr (evu_var rfl) (evu_var rfl)) (by rw [List.length_append]; omega)) ?_
      exact pth_tup (pu_app (pu_app (pu_cut hpu) (pu_cut hpu)) (pu_cut hpu)) (by rw [List.length_append, List.length_append]; omega)
  rintro L3 c3 d3 hc3 hd3
  obtain ⟨ys, y, ey⟩ := split_last (xs := rs) (by omega)
  obtain ⟨v, q, rfl, hv, hq⟩ := hp y (by rw [ey]; simp)
  refine evg_seqset (n := n + 1) (f := 1) (Q := LstP 9 fun M d => Th M 260 6 d) (evg_addL (m := 7) (m' := 2) (f1 := 0) (f2 := 1) th_mono (evg_var rfl hd3) (fun L => evg_lst (f := 1) ?_ (by decide)) (by decide)) (by omega) ?_
  · refine evgl_cons (f1 := 1) (f2 := 0) th_mono ?_ fun L4 => ?_
    · refine evg_ins (P := fun M d => Th M 202 4 d) (evu_slTo (evu_var rfl) (evu_var rfl)) (evu_slFr (evu_var rfl) (evu_addI (evu_var rfl) evu_c)) (evg_pair2 (evg_odd rfl) (evu_var rfl) fun M d hd => th_tup2' (hu.up (Nat.le_refl _) (by decide)) hd) (by have := ll none (some r); have := ll (some (r + 1)) none; omega) ?_
      intro M d hd
      exact pth_ins (pu_cut hpu) hd (pu_cut hpu) (by have := ll none (some r); have := ll (some (r + 1)) none; omega) (by decide) (by decide)
    · refine evgl_cons (f1 := 0) (f2 := 0) th_mono ?_ fun L => evgl_nil
      have a1 := ll none (some (-1))
      refine evg_u (evu_addT (xs := DL.cutD rs none (some (-1))) (ys := [.tup [.int (10 ^ 6), q]]) (evu_slTo (evu_var rfl) evu_neg) (evu_tup (evua_cons (evu_tup (evua_cons (evu_pow (n := 6) p6) (evua_cons (evu_ixT (evu_ixT (evu_var rfl) evu_neg (by rw [ey]; exact at_last1 ys _)) evu_c rfl) evua_nil)) (by simp)) evua_nil) (by simp)) (by simp; omega)) ?_
      refine pth_tup (pu_app (pu_cut hpu) (all_cons (pu_pair (pu_int (by decide)) hq) all_nil)) (by rw [List.length_append]; simp; omega)
  rintro L4 c4 d4 hc4 hd4
  refine evg_ret (n := n) (f := 1) (Q := fun M d => Th M 260 6 d) (evg_ix (m := 12) (f1 := 0) (f2 := 1) th_mono (evg_addL (m := 9) (m' := 3) (f1 := 0) (f2 := 0) th_mono (evg_var rfl hd4) (fun L => evg_lst (f := 0) ?_ (by decide)) (by decide)) fun L => evg_take rfl evu_c (by decide) (by decide)) (by omega) ?_
  · refine evgl_cons (f1 := 0) (f2 := 0) th_mono ?_ fun L => ?_
    · have a1 := ll none (some r)
      have a2 := ll (some (r + 1)) none
      refine evg_ins (P := fun M d => Th M 10 4 d) (evu_slTo (evu_var rfl) (evu_var rfl)) (evu_slFr (evu_var rfl) (evu_addI (evu_var rfl) evu_c)) (evg_u (evu_tup (evua_cons (evu_pow (n := 6) p6) (evua_cons (evu_var rfl) evua_nil)) (by simp)) ((pu_pair (pu_int (by decide)) hpp).th.up (by decide) (by decide))) (by omega) ?_
      intro M d hd
      exact pth_ins (pu_cut hpu) hd (pu_cut hpu) (by omega) (by decide) (by decide)
    · refine evgl_cons (f1 := 0) (f2 := 0) th_mono (evg_u (evu_slTo (evu_var rfl) evu_c) (pth_tup (pu_cut hpu) (Nat.le_trans (ll _ _) (by decide)))) fun L => ?_
      exact evgl_cons (f1 := 0) (f2 := 0) th_mono (evg_u (evu_slFr (evu_var rfl) evu_neg) (pth_tup (pu_cut hpu) (Nat.le_trans (ll _ _) (by decide)))) fun L => evgl_nil
  · rintro L5 c5 d5 hc5 hd5
    have := hk (L1 ++ L2 ++ L3 ++ L4 ++ L5) d5 c5 (by simpa [List.append_assoc] using hd5) hc5
    simpa [List.append_assoc] using this
theorem ok__law_bent_rates {P : Program} {w : World} {K : PySem.W.Frag} {mg : Str → Option Value} {base : Heap} (T : DefAt K mg "_law_bent_rates" s__law_bent_rates ["_law_state", "_law_rates"]) (B : Blt mg) (F__law_take : FnAt P w K mg base CX0 1 "_law_take" 2 sp__law_take) (F__law_odd : FnAt P w K mg base CX0 2 "_law_odd" 1 sp__law_odd) : FnAt P w K mg base CX0 3 "_law_bent_rates" 2 sp__law_bent_rates := (w__law_bent_rates T B F__law_take F__law_odd).imp v__law_bent_rates


end LW

namespace LW
open PySem PySem.Spec PyProof.Rows L2 RZ DL


def sp__law_bent_row : GF := fun ds w _ k => ∃ (x : D) (c n : Nat), ds = [.st, x] ∧ (RowP x ∧ w.n = some c ∧ n + 20 ≤ c) ∧ ∀ L d c', Th (w.M ++ L) 330 7 d → n ≤ c' → k d ⟨w.M ++ L, some c'⟩
abbrev s__law_bent_row : Stmt := topS 36
theorem sc__law_bent_row : FnScope ["_law_state", "_law_row_here", "_law_kind", "_law_name", "_law_told", "_law_kinds", "_law_some"] ["_law_state", "_law_row_here"] (defScope s__law_bent_row) := ⟨rfl, rfl, rfl, by decide +kernel, rfl, by decide +kernel, by decide +kernel⟩
def g__law_bent_row_b3 : GS := (gSeq (gSet 5 (DL.gLst (gaCons (gC (.str "of")) (gaCons (gC (.str "left")) (gaCons (gC (.str "steps")) (gaCons (gC (.str "length")) (gaCons (gC (.str "Of")) (gaCons (gC (.str "")) (gaCons (gC .non) gaNil)))))))))
  (gSeq (gSet 6 (DL.gLst (gaCons (gTup (gaCons (gBin ixD (gVar 5) (gCall0 2 sp__law_take (gaCons (gVar 0) (gaCons (gC (.int 7)) gaNil)))) (gaCons (gVar 3) (gaCons (gVar 4) gaNil)))) (gaCons (gTup (gaCons (gVar 2) (gaCons (gCall0 1 sp__law_odd (gaCons (gVar 0) gaNil)) (gaCons (gVar 4) gaNil)))) (gaCons (gTup (gaCons (gVar 2) (gaCons (gVar 3) (gaCons (gCall0 1 sp__law_odd (gaCons (gVar 0) gaNil)) gaNil)))) gaNil)))))
  (gSeq (gSet 6 (gBin addD (gVar 6) (DL.gLst (gaCons (gCB fList (gaCons (gVar 1) gaNil)) (gaCons (gSl slA (gVar 1) goNone (goSome (gC (.int 2)))) (gaCons (gBin addTD (gVar 1) (gTup (gaCons (gC (.int 1)) gaNil))) (gaCons (gTup (gaCons (gVar 2) (gaCons (gBin addD (gVar 3) (gC (.str "x"))) (gaCons (gVar 4) gaNil)))) (gaCons (gTup (gaCons (gVar 2) (gaCons (gVar 4) (gaCons (gVar 3) gaNil)))) gaNil))))))))
  (gRet (gBin ixD (gBin addD (gVar 6) (DL.gLst (gaCons (gBin addTD (gTup (gaCons (gCall0 1 sp__law_odd (gaCons (gVar 0) gaNil)) gaNil)) (gSl slA (gVar 1) (goSome (gC (.int 1))) goNone)) gaNil))) (gCall0 2 sp__law_take (gaCons (gVar 0) (gaCons (gC (.int 9)) gaNil))))))))
def g__law_bent_row : GS := (gSeq (gAsg (gVar 1) (ggTup 3 (ggCons (ggName 2) (ggCons (ggName 3) (ggCons (ggName 4) ggNil)))))
  (gSeq (gIfS (gB (gBin eqD (gCall0 2 sp__law_take (gaCons (gVar 0) (gaCons (gC (.int 6)) gaNil))) (gC (.int 0)))) (gRet (gTup (gaCons (gVar 2) (gaCons (gCall0 2 sp__law_signed (gaCons (gVar 0) (gaCons (gVar 3) gaNil))) (gaCons (gVar 4) gaNil))))) gNext)
  (gSeq (gIfS (gAnd (gB (gBin eqD (gVar 2) (gC (.str "steps")))) (gB (gBin eqD (gCall0 2 sp__law_take (gaCons (gVar 0) (gaCons (gC (.int 2)) gaNil))) (gC (.int 0))))) (gRet (gTup (gaCons (gVar 2) (gaCons (gVar 3) (gaCons (gCall0 2 sp__law_bent_rates (gaCons (gVar 0) (gaCons (gVar 4) gaNil))) gaNil))))) gNext)
  (g__law_bent_row_b3))))
theorem w__law_bent_row {P : Program} {w : World} {K : PySem.W.Frag} {mg : Str → Option Value} {base : Heap} (T : DefAt K mg "_law_bent_row" s__law_bent_row ["_law_state", "_law_row_here"]) (B : Blt mg) (F__law_take : FnAt P w K mg base CX0 1 "_law_take" 2 sp__law_take) (F__law_signed : FnAt P w K mg base CX0 2 "_law_signed" 2 sp__law_signed) (F__law_bent_rates : FnAt P w K mg base CX0 3 "_law_bent_rates" 2 sp__law_bent_rates) (F__law_odd : FnAt P w K mg base CX0 2 "_law_odd" 1 sp__law_odd) : FnAt P w K mg base CX0 4 "_law_bent_row" 2 (sem0 7 g__law_bent_row) := by
  have nd := sc__law_bent_row.nd
  exact T.fn0 sc__law_bent_row (fun f cdv A outer s H E hr => (dss_cons (ds_asg (de_var 1) (dg_tup rfl (dgs_cons (dg_name (i := 2) nd rfl (by first | exact Or.inl rfl | exact Or.inr rfl)) (dgs_cons (dg_name (i := 3) nd rfl (by first | exact Or.inl rfl | exact Or.inr rfl)) (dgs_cons (dg_name (i := 4) nd rfl (by first | exact Or.inl rfl | exact Or.inr rfl)) dgs_nil)))))
  (dss_cons (ds_if (dt_eq hr (de_call0 F__law_take hr (by rfl) (da_cons (de_var 0) (da_cons de_int da_nil))) de_int) (dss_one (ds_ret (de_tup (da_cons (de_var 2) (da_cons (de_call0 F__law_signed hr (by rfl) (da_cons (de_var 0) (da_cons (de_var 3) da_nil))) (da_cons (de_var 4) da_nil)))))) dss_nil)
  (dss_cons (ds_if (dt_w (dw_and (dt_eq hr (de_var 2) de_str) (dw_and1 (dt_eq hr (de_call0 F__law_take hr (by rfl) (da_cons (de_var 0) (da_cons de_int da_nil))) de_int)))) (dss_one (ds_ret (de_tup (da_cons (de_var 2) (da_cons (de_var 3) (da_cons (de_call0 F__law_bent_rates hr (by rfl) (da_cons (de_var 0) (da_cons (de_var 4) da_nil))) da_nil)))))) dss_nil)
  (dss_cons (ds_set (i := 5) nd rfl (by first | exact Or.inl rfl | exact Or.inr rfl) (de_lst (da_cons de_str (da_cons de_str (da_cons de_str (da_cons de_str (da_cons de_str (da_cons de_str (da_cons de_non da_nil)))))))))
  (dss_cons (ds_set (i := 6) nd rfl (by first | exact Or.inl rfl | exact Or.inr rfl) (de_lst (da_cons (de_tup (da_cons (de_ix (de_var 5) (de_call0 F__law_take hr (by rfl) (da_cons (de_var 0) (da_cons de_int da_nil)))) (da_cons (de_var 3) (da_cons (de_var 4) da_nil)))) (da_cons (de_tup (da_cons (de_var 2) (da_cons (de_call0 F__law_odd hr (by rfl) (da_cons (de_var 0) da_nil)) (da_cons (de_var 4) da_nil)))) (da_cons (de_tup (da_cons (de_var 2) (da_cons (de_var 3) (da_cons (de_call0 F__law_odd hr (by rfl) (da_cons (de_var 0) da_nil)) da_nil)))) da_nil)))))
  (dss_cons (ds_set (i := 6) nd rfl (by first | exact Or.inl rfl | exact Or.inr rfl) (de_add (de_var 6) (de_lst (da_cons (de_list B (by rfl) (da_cons (de_var 1) da_nil)) (da_cons (de_slA (de_var 1) do_none (do_some de_int)) (da_cons (de_addt (de_var 1) (de_tup (da_cons de_int da_nil))) (da_cons (de_tup (da_cons (de_var 2) (da_cons (de_add (de_var 3) de_str) (da_cons (de_var 4) da_nil)))) (da_cons (de_tup (da_cons (de_var 2) (da_cons (de_var 4) (da_cons (de_var 3) da_nil)))) da_nil))))))))
  (dss_one (ds_ret (de_ix (de_add (de_var 6) (de_lst (da_cons (de_addt (de_tup (da_cons (de_call0 F__law_odd hr (by rfl) (da_cons (de_var 0) da_nil)) da_nil)) (de_slA (de_var 1) (do_some de_int) do_none)) da_nil))) (de_call0 F__law_take hr (by rfl) (da_cons (de_var 0) (da_cons de_int da_nil)))))))))))))

theorem evg_call2 {ρ : Rho} {M : List Cell} {f : Nat} {sp : GF} {g : GE} {j : Nat} {d : D} {Q : List Cell → D → Prop} (hj : ρ[j]? = some (some .st)) (h : EvU g ρ d) (hs : ∀ (c n : Nat) (k : KD), n + f ≤ c → (∀ L c' d, n ≤ c' → Q (M ++ L) d → k d ⟨M ++ L, some c'⟩) → sp [.st, d] ⟨M, some c⟩ noX k) : EvG (gCall0 2 sp (gaCons (gVar j) (gaCons g gaNil))) ρ M f Q := fun c n hc kx k hk => by
  show gaCons (gVar j) (gaCons g gaNil) ρ ⟨M, some c⟩ kx (fun ds w1 => ds.length = 2 ∧ sp ds w1 noX k)
  refine (evua_cons (evu_var hj) (evua_cons h evua_nil)) ⟨M, some c⟩ kx _ ?_
  exact ⟨rfl, hs c n k hc hk⟩
theorem evg_ifTake {ρ : Rho} {M : List Cell} {j : Nat} {i v : Int} {t u r : GS} {F : DEnds} {c n : Nat} (hj : ρ[j]? = some (some .st)) (h0 : 0 < i) (h1 : i < 2 ^ 190) (hc : n + 1 ≤ c) (ht : ∀ c', n ≤ c' → t { F with nx := r F } ρ ⟨M, some c'⟩) (hu : ∀ c', n ≤ c' → u { F with nx := r F } ρ ⟨M, some c'⟩) : gSeq (gIfS (gB (gBin eqD (gCall0 2 sp__law_take (gaCons (gVar j) (gaCons (DL.gC (.int i)) gaNil))) (DL.gC (.int v)))) t u) r F ρ ⟨M, some c⟩ := by
  unfold gSeq gIfS gB gBin gCall0
  refine (evua_cons (evu_var hj) (evua_cons evu_c evua_nil)) ⟨M, some c⟩ F.ex _ ?_
  refine ⟨rfl, take_use n rfl hc ⟨h0, log_of (Nat.lt_of_lt_of_le (show i.natAbs < 2 ^ 190 by omega) (by decide))⟩ fun r c' r0 r1 hc' => ?_⟩
  refine evu_c _ F.ex _ ?_
  rw [eqD_i]
  exact ite2 (fun _ => ht c' hc') (fun _ => hu c' hc')
theorem evg_ifAndTake {ρ : Rho} {M : List Cell} {x j : Nat} {a s : Str} {i v : Int} {t u r : GS} {F : DEnds} {c n : Nat} (hx : ρ[x]? = some (some (.str a))) (hj : ρ[j]? = some (some .st)) (h0 : 0 < i) (h1 : i < 2 ^ 190) (hc : n + 1 ≤ c) (ht : a = s → ∀ c', n ≤ c' → t { F with nx := r F } ρ ⟨M, some c'⟩) (hu : ∀ c', n ≤ c' → u { F with nx := r F } ρ ⟨M, some c'⟩) :
    gSeq (gIfS (gAnd (gB (gBin eqD (gVar x) (DL.gC (.str s)))) (gB (gBin eqD (gCall0 2 sp__law_take (gaCons (gVar j) (gaCons (DL.gC (.int i)) gaNil))) (DL.gC (.int v))))) t u) r F ρ ⟨M, some c⟩ := by
  unfold gSeq gIfS gAnd gB gBin
  refine (evu_var hx) ⟨M, some c⟩ F.ex _ ?_
  refine evu_c _ F.ex _ ?_
  rw [eqD_s]
  dsimp only
  refine ite2 (fun h => ?_) (fun _ => hu c (by omega))
  have h : a = s := by simpa using h
  unfold gCall0
  refine (evua_cons (evu_var hj) (evua_cons evu_c evua_nil)) ⟨M, some c⟩ F.ex _ ?_
  refine ⟨rfl, take_use n rfl hc ⟨h0, log_of (Nat.lt_of_lt_of_le (show i.natAbs < 2 ^ 190 by omega) (by decide))⟩ fun r c' r0 r1 hc' => ?_⟩
  refine evu_c _ F.ex _ ?_
  rw [eqD_i]
  exact ite2 (fun _ => ht h c' hc') (fun _ => hu c' hc')
theorem evg_signed {ρ : Rho} {M : List Cell} {j : Nat} {g : GE} {s : Str} (hj : ρ[j]? = some (some .st)) (h : EvU g ρ (.str s)) (hs : nameB (.str s) = true) : EvG (gCall0 2 sp__law_signed (gaCons (gVar j) (gaCons g gaNil))) ρ M 3 (fun _ d => Pu 1 0 d) :=
  evg_call2 hj h fun c n k hc hk => ⟨s, c, n, rfl, ⟨hs, rfl, hc⟩, fun t c' t1 t2 hc' => by
    have := hk [] c' (.str t) hc' (pu_str (by rw [t1, decide_eq_true t2]; rfl))
    rwa [List.append_nil] at this⟩
theorem evg_rates {ρ : Rho} {M : List Cell} {j : Nat} {g : GE} {rs : List D} (hj : ρ[j]? = some (some .st)) (h : EvU g ρ (.tup rs)) (h1 : PairsP rs) (h2 : 2 ≤ rs.length) (h4 : rs.length ≤ 4) : EvG (gCall0 2 sp__law_bent_rates (gaCons (gVar j) (gaCons g gaNil))) ρ M 4 (fun M d => Th M 260 6 d) :=
  evg_call2 hj h fun c n k hc hk => ⟨rs, c, n, rfl, ⟨h1, h2, h4, rfl, hc⟩, fun L d c' hd hc' => hk L c' d hc' hd⟩
theorem th_of3 {M : List Cell} {z n : Nat} {a b o : D} {y : Nat} (ha : Pu 1 n a) (hb : Pu y n b) (ho : Th M z n o) : Th M (z + 1 + 2 * (y + 1)) (n + 1) (.tup [a, b, o]) := by
  have := th_ins (z := y + 1) (xs := [a, b]) (ys := []) (m := 2) (all_cons (ha.up (by omega) (Nat.le_refl _)) (all_cons (hb.up (by omega) (Nat.le_refl _)) all_nil)) ho all_nil (by simp) (by decide)
  exact this.up (by omega) (Nat.le_refl _)
theorem th_of2 {M : List Cell} {z n : Nat} {a b o : D} {y : Nat} (ha : Pu 1 n a) (hb : Pu y n b) (ho : Th M z n o) : Th M (z + 1 + 2 * (y + 1)) (n + 1) (.tup [a, o, b]) := by
  have := th_ins (z := y + 1) (xs := [a]) (ys := [b]) (m := 2) (all_cons (ha.up (by omega) (Nat.le_refl _)) all_nil) ho (all_cons (hb.up (by omega) (Nat.le_refl _)) all_nil) (by simp) (by decide)
  exact this.up (by omega) (Nat.le_refl _)
theorem v__law_bent_row : ∀ ds w kx k, sp__law_bent_row ds w kx k → sem0 7 g__law_bent_row ds w kx k := by
  rintro ds ⟨M, nn⟩ kx k ⟨x, c, n, rfl, ⟨hx, hn, hc⟩, hk⟩
  obtain ⟨kd, nm, t, rfl, k1, k2, n1, tp, hst⟩ := hx.form
  subst hn
  have kp : ∀ {m : Nat}, Pu 1 m (.str kd) := pu_str (by rw [k1, decide_eq_true (show kd.length ≤ 100 by omega)]; rfl)
  have np : ∀ {m : Nat}, Pu 1 m (.str nm) := pu_name n1
  obtain ⟨m1, m2, m3⟩ := nameB_ok n1
  have e : rho 7 [D.st, D.tup [.str kd, .str nm, t]] = [some .st, some (.tup [.str kd, .str nm, t]), none, none, none, none, none] := rfl
  have fin : ∀ {L : List Cell} {d : D} {c' : Nat}, Th (M ++ L) 330 7 d → n ≤ c' → k d ⟨M ++ L, some c'⟩ := fun h1 h2 => hk _ _ _ h1 h2
  show g__law_bent_row _ (rho 7 [D.st, D.tup [.str kd, .str nm, t]]) ⟨M, some c⟩
  rw [e]
  unfold g__law_bent_row
  refine evu_seqasg3 (evu_var rfl) ?_
  refine evg_ifTake (n := n + 19) rfl (by decide) (by decide) (by omega) (fun c1 hc1 => ?_) (fun c1 hc1 => ?_)
  · refine evg_ret (n := n) (f := 3) (Q := fun M d => Th M 330 7 d) (evg_tri2 (P := fun _ d => Pu 1 0 d) (evu_var rfl) (evg_signed rfl (evu_var rfl) n1) (evu_var rfl) fun M d hd => ?_) (by omega) fun L c' d h1 h2 => fin h2 h1
    exact ((pu_three (y := 0) kp (hd.up (Nat.le_refl _) (Nat.zero_le _)) tp).th).up (by decide) (by decide)
  have rest : ∀ c1, n + 15 ≤ c1 → g__law_bent_row_b3 { nx := fun _ w => k .non w, rt := k, ex := noX } [some .st, some (.tup [.str kd, .str nm, t]), some (.str kd), some (.str nm), some t, none, none] ⟨M, some c1⟩ := fun c1 hc1 => by
    unfold g__law_bent_row_b3
    refine evu_seqset (d := .lst [.str "of", .str "left", .str "steps", .str "length", .str "Of", .str "", .non]) (evu_lst ?_ (by simp)) ?_
    · repeat' first | exact evua_nil | refine evua_cons ?_ ?_ | exact evu_c
    have kin : ∀ x ∈ ([.str "of", .str "left", .str "steps", .str "length", .str "Of", .str "", .non] : List D), Pu 1 0 x := by
      refine all_cons (pu_str (by decide +kernel)) (all_cons (pu_str (by decide +kernel)) (all_cons (pu_str (by decide +kernel)) (all_cons (pu_str (by decide +kernel)) (all_cons (pu_str (by decide +kernel)) (all_cons (pu_str (by decide +kernel)) (all_cons pu_non all_nil))))))
    refine evg_seqset (n := n + 10) (f := 3) (Q := LstP 3 fun M d => Th M 330 7 d) (evg_lst (f := 3) ?_ (by decide)) (by omega) ?_
    · refine evgl_cons (f1 := 1) (f2 := 2) th_mono ?_ fun L => ?_
      · refine evg_tri1 (P := fun _ d => Pu 1 0 d) (evg_ix (m := 7) (f1 := 0) (f2 := 1) (fun _ _ _ h => h) (evg_var rfl ⟨_, rfl, rfl, kin⟩) fun L => evg_take rfl evu_c (by decide) (by decide)) (evu_var rfl) (evu_var rfl) fun M d hd => ?_
        exact ((pu_three (y := 0) (hd.up (Nat.le_refl _) (Nat.zero_le _)) np tp).th).up (by decide) (by decide)
      refine evgl_cons (f1 := 1) (f2 := 1) th_mono ?_ fun L => ?_
      · refine evg_tri2 (evu_var rfl) (evg_odd rfl) (evu_var rfl) fun M d hd => ?_
        exact (th_of2 kp tp hd).up (by decide) (by decide)
      refine evgl_cons (f1 := 1) (f2 := 0) th_mono ?_ fun L => evgl_nil
      refine evg_tri3 (evu_var rfl) (evu_var rfl) (evg_odd rfl) fun M d hd => ?_
      exact (th_of3 (y := 1) kp np hd).up (by decide) (by decide)
    rintro L1 c2 d1 hc2 hd1
    have xp : ∀ x ∈ [D.str kd, .str nm, t], Pu 21 3 x := all_cons (kp.up (by decide) (Nat.le_refl _)) (all_cons (np.up (by decide) (Nat.le_refl _)) (all_cons tp all_nil))
    refine evg_seqset (n := n + 10) (f := 0) (Q := LstP 8 fun M d => Th M 330 7 d) (evg_addL (m := 3) (m' := 5) (f1 := 0) (f2 := 0) th_mono (evg_var rfl hd1) (fun L => evg_lst (f := 0) ?_ (by decide)) (by decide)) (by omega) ?_
    · refine evgl_cons (f1 := 0) (f2 := 0) th_mono (evg_u (evu_listT (evu_var rfl)) ((th_lst (m := 3) xp (by simp) (by decide)).up (by decide) (by decide))) fun L => ?_
      refine evgl_cons (f1 := 0) (f2 := 0) th_mono (evg_u (evu_slTo (evu_var rfl) evu_c) ((pu_tup (m := 3) (pu_cut xp) (cut_len' _ _ _) (by decide)).th.up (by decide) (by decide))) fun L => ?_
      refine evgl_cons (f1 := 0) (f2 := 0) th_mono (evg_u (evu_addT (evu_var rfl) (evu_tup (evua_cons evu_c evua_nil) (by simp)) (by simp)) ((pu_tup (m := 4) (pu_app xp (all_cons ((pu_int (by decide)).up (by decide) (Nat.le_refl _)) all_nil)) (by simp) (by decide)).th.up (by decide) (by decide))) fun L => ?_
      refine evgl_cons (f1 := 0) (f2 := 0) th_mono (evg_u (evu_tup (evua_cons (evu_var rfl) (evua_cons (evu_addS (evu_var rfl) evu_c ?_) (evua_cons (evu_var rfl) evua_nil))) (by simp)) ?_) fun L => ?_
      · have : Str.length "x" = 1 := rfl
        omega
      · refine ((pu_three (y := 0) kp (pu_str ?_) tp).th).up (by decide) (by decide)
        have lx : (nm ++ "x").length = nm.length + 1 := len_app nm "x"
        rw [ok_app m1 (by decide +kernel), decide_eq_true (by omega)]
        rfl
      refine evgl_cons (f1 := 0) (f2 := 0) th_mono (evg_u (evu_tup (evua_cons (evu_var rfl) (evua_cons (evu_var rfl) (evua_cons (evu_var rfl) evua_nil))) (by simp)) ?_) fun L => evgl_nil
      exact (th_of2 (y := 1) kp np tp.th).up (by decide) (by decide)
    rintro L2 c3 d2 hc3 hd2
    refine evg_ret (n := n) (f := 2) (Q := fun M d => Th M 330 7 d) (evg_ix (m := 9) (f1 := 1) (f2 := 1) th_mono (evg_addL (m := 8) (m' := 1) (f1 := 0) (f2 := 1) th_mono (evg_var rfl hd2) (fun L => evg_lst (f := 1) ?_ (by decide)) (by decide)) fun L => evg_take rfl evu_c (by decide) (by decide)) (by omega) ?_
    · refine evgl_cons (f1 := 1) (f2 := 0) th_mono ?_ fun L => evgl_nil
      refine evg_ins0 (evu_slFr (evu_var rfl) evu_c) (evg_odd rfl) (Nat.le_trans (cut_len' _ _ _) (by simp)) fun M d hd => ?_
      have := th_ins (xs := []) (ys := DL.cutD [D.str kd, .str nm, t] (some 1) none) (m := 3) all_nil hd (pu_cut xp) (by have := cut_len' [D.str kd, .str nm, t] (some 1) none; simpa using this) (by decide)
      exact this.up (by decide) (by decide)
    · rintro L3 c4 d3 hc4 hd3
      have := hk (L1 ++ L2 ++ L3) d3 c4 (by simpa [List.append_assoc] using hd3) hc4
      simpa [List.append_assoc] using this
  refine evg_ifAndTake (ρ := [some .st, some (.tup [.str kd, .str nm, t]), some (.str kd), some (.str nm), some t, none, none]) (x := 2) (j := 0) (i := 2) (n := n + 18) rfl rfl (by decide) (by decide) (by omega) (fun hs c2 hc2 => ?_) (fun c2 hc2 => rest c2 (by omega))
  obtain ⟨rs, rfl, r2, r4, rp⟩ := hst hs
  refine evg_ret (n := n) (f := 4) (Q := fun M d => Th M 330 7 d) (evg_tri3 (P := fun M d => Th M 260 6 d) (evu_var rfl) (evu_var rfl) (evg_rates rfl (evu_var rfl) rp r2 r4) fun M d hd => ?_) (by omega) fun L c' d h1 h2 => fin h2 h1
  exact (th_of3 (y := 1) kp np hd).up (by decide) (by decide)
theorem ok__law_bent_row {P : Program} {w : World} {K : PySem.W.Frag} {mg : Str → Option Value} {base : Heap} (T : DefAt K mg "_law_bent_row" s__law_bent_row ["_law_state", "_law_row_here"]) (B : Blt mg) (F__law_take : FnAt P w K mg base CX0 1 "_law_take" 2 sp__law_take) (F__law_signed : FnAt P w K mg base CX0 2 "_law_signed" 2 sp__law_signed) (F__law_bent_rates : FnAt P w K mg base CX0 3 "_law_bent_rates" 2 sp__law_bent_rates) (F__law_odd : FnAt P w K mg base CX0 2 "_law_odd" 1 sp__law_odd) : FnAt P w K mg base CX0 4 "_law_bent_row" 2 sp__law_bent_row := (w__law_bent_row T B F__law_take F__law_signed F__law_bent_rates F__law_odd).imp v__law_bent_row


end LW

namespace LW
open PySem PySem.Spec PyProof.Rows L2 RZ DL


def sp__law_bent : GF := fun ds w _ k => ∃ (rs : List D) (c n : Nat), ds = [.st, .tup rs] ∧ ((∀ x ∈ rs, RowP x) ∧ rs.length ≤ 8 ∧ w.n = some c ∧ n + 30 ≤ c) ∧ ∀ L d c', Th (w.M ++ L) 1000 8 d → n ≤ c' → k d ⟨w.M ++ L, some c'⟩
abbrev s__law_bent : Stmt := topS 37
theorem sc__law_bent : FnScope ["_law_state", "_law_rows_here", "_law_at", "_law_left", "_law_some", "_law_way"] ["_law_state", "_law_rows_here"] (defScope s__law_bent) := ⟨rfl, rfl, rfl, by decide +kernel, rfl, by decide +kernel, by decide +kernel⟩
def g__law_bent_b7 : GS := (gRet (gBin ixD (gVar 4) (gBin modD (gVar 5) (gC (.int 8)))))
def g__law_bent : GS := (gSeq (gSet 2 (gCall0 2 sp__law_take (gaCons (gVar 0) (gaCons (gBin addD (gCB fLen (gaCons (gVar 1) gaNil)) (gC (.int 1))) gaNil))))
  (gSeq (gSet 3 (gTup (gaCons (gC (.str "left")) (gaCons (gC (.str "a")) (gaCons (gTup (gaCons (gC (.int 1)) (gaCons (gC (.int 2)) gaNil))) gaNil)))))
  (gSeq (gSet 4 (DL.gLst (gaCons (gCB fList (gaCons (gVar 1) gaNil)) (gaCons (gBin addTD (gSl slA (gVar 1) goNone (goSome (gVar 2))) (gSl slA (gVar 1) (goSome (gBin addD (gVar 2) (gC (.int 1)))) goNone)) (gaCons (gBin addTD (gBin addTD (gSl slA (gVar 1) goNone (goSome (gVar 2))) (gSl slA (gVar 1) (goSome (gVar 2)) (goSome (gBin addD (gVar 2) (gC (.int 1)))))) (gSl slA (gVar 1) (goSome (gVar 2)) goNone)) (gaCons (gBin addTD (gVar 1) (gBin mulTpD (gTup (gaCons (gVar 3) gaNil)) (gC (.int 3)))) gaNil))))))
  (gSeq (gSet 4 (gBin addD (gVar 4) (DL.gLst (gaCons (gSl slA (gBin addTD (gVar 1) (gBin mulTpD (gTup (gaCons (gTup (gaCons (gC (.str "of")) (gaCons (gC (.str "ab")) (gaCons (gTup (gaCons (gC (.int 1)) (gaCons (gC (.int 60)) gaNil))) gaNil)))) gaNil)) (gC (.int 9)))) goNone (goSome (gBin addD (gC (.int 8)) (gCall0 2 sp__law_take (gaCons (gVar 0) (gaCons (gC (.int 2)) gaNil)))))) (gaCons (gCall0 1 sp__law_odd (gaCons (gVar 0) gaNil)) gaNil)))))
  (gSeq (gSet 4 (gBin addD (gVar 4) (DL.gLst (gaCons (gBin addTD (gBin addTD (gSl slA (gVar 1) goNone (goSome (gVar 2))) (gTup (gaCons (gCall0 1 sp__law_odd (gaCons (gVar 0) gaNil)) gaNil))) (gSl slA (gVar 1) (goSome (gBin addD (gVar 2) (gC (.int 1)))) goNone)) (gaCons (gBin addTD (gBin mulTpD (gTup (gaCons (gVar 3) gaNil)) (gBin addD (gC (.int 3)) (gCall0 2 sp__law_take (gaCons (gVar 0) (gaCons (gC (.int 2)) gaNil))))) (gSl slA (gVar 1) goNone (goSome (gVar 2)))) gaNil)))))
  (gSeq (gSet 5 (gCall0 2 sp__law_take (gaCons (gVar 0) (gaCons (gC (.int 16)) gaNil))))
  (gSeq (gIfS (gAnd (gB (gBin gtD (gVar 5) (gC (.int 7)))) (gB (gBin ltD (gVar 2) (gCB fLen (gaCons (gVar 1) gaNil))))) (gRet (gBin addTD (gBin addTD (gSl slA (gVar 1) goNone (goSome (gVar 2))) (gTup (gaCons (gCall0 2 sp__law_bent_row (gaCons (gVar 0) (gaCons (gBin ixD (gVar 1) (gVar 2)) gaNil))) gaNil))) (gSl slA (gVar 1) (goSome (gBin addD (gVar 2) (gC (.int 1)))) goNone))) gNext)
  (g__law_bent_b7))))))))
theorem w__law_bent {P : Program} {w : World} {K : PySem.W.Frag} {mg : Str → Option Value} {base : Heap} (T : DefAt K mg "_law_bent" s__law_bent ["_law_state", "_law_rows_here"]) (B : Blt mg) (F__law_take : FnAt P w K mg base CX0 1 "_law_take" 2 sp__law_take) (F__law_odd : FnAt P w K mg base CX0 2 "_law_odd" 1 sp__law_odd) (F__law_bent_row : FnAt P w K mg base CX0 4 "_law_bent_row" 2 sp__law_bent_row) : FnAt P w K mg base CX0 5 "_law_bent" 2 (sem0 6 g__law_bent) := by
  have nd := sc__law_bent.nd
  exact T.fn0 sc__law_bent (fun f cdv A outer s H E hr => (dss_cons (ds_set (i := 2) nd rfl (by first | exact Or.inl rfl | exact Or.inr rfl) (de_call0 F__law_take hr (by rfl) (da_cons (de_var 0) (da_cons (de_add (de_len B (by rfl) (da_cons (de_var 1) da_nil)) de_int) da_nil))))
  (dss_cons (ds_set (i := 3) nd rfl (by first | exact Or.inl rfl | exact Or.inr rfl) (de_tup (da_cons de_str (da_cons de_str (da_cons (de_tup (da_cons de_int (da_cons de_int da_nil))) da_nil)))))
  (dss_cons (ds_set (i := 4) nd rfl (by first | exact Or.inl rfl | exact Or.inr rfl) (de_lst (da_cons (de_list B (by rfl) (da_cons (de_var 1) da_nil)) (da_cons (de_addt (de_slA (de_var 1) do_none (do_some (de_var 2))) (de_slA (de_var 1) (do_some (de_add (de_var 2) de_int)) do_none)) (da_cons (de_addt (de_addt (de_slA (de_var 1) do_none (do_some (de_var 2))) (de_slA (de_var 1) (do_some (de_var 2)) (do_some (de_add (de_var 2) de_int)))) (de_slA (de_var 1) (do_some (de_var 2)) do_none)) (da_cons (de_addt (de_var 1) (de_mulTp (de_tup (da_cons (de_var 3) da_nil)) de_int)) da_nil))))))
  (dss_cons (ds_set (i := 4) nd rfl (by first | exact Or.inl rfl | exact Or.inr rfl) (de_add (de_var 4) (de_lst (da_cons (de_slA (de_addt (de_var 1) (de_mulTp (de_tup (da_cons (de_tup (da_cons de_str (da_cons de_str (da_cons (de_tup (da_cons de_int (da_cons de_int da_nil))) da_nil)))) da_nil)) de_int)) do_none (do_some (de_add de_int (de_call0 F__law_take hr (by rfl) (da_cons (de_var 0) (da_cons de_int da_nil)))))) (da_cons (de_call0 F__law_odd hr (by rfl) (da_cons (de_var 0) da_nil)) da_nil)))))
  (dss_cons (ds_set (i := 4) nd rfl (by first | exact Or.inl rfl | exact Or.inr rfl) (de_add (de_var 4) (de_lst (da_cons (de_addt (de_addt (de_slA (de_var 1) do_none (do_some (de_var 2))) (de_tup (da_cons (de_call0 F__law_odd hr (by rfl) (da_cons (de_var 0) da_nil)) da_nil))) (de_slA (de_var 1) (do_some (de_add (de_var 2) de_int)) do_none)) (da_cons (de_addt (de_mulTp (de_tup (da_cons (de_var 3) da_nil)) (de_add de_int (de_call0 F__law_take hr (by rfl) (da_cons (de_var 0) (da_cons de_int da_nil))))) (de_slA (de_var 1) do_none (do_some (de_var 2)))) da_nil)))))
  (dss_cons (ds_set (i := 5) nd rfl (by first | exact Or.inl rfl | exact Or.inr rfl) (de_call0 F__law_take hr (by rfl) (da_cons (de_var 0) (da_cons de_int da_nil))))
  (dss_cons (ds_if (dt_w (dw_and (dt_gt (de_var 5) de_int) (dw_and1 (dt_lt (de_var 2) (de_len B (by rfl) (da_cons (de_var 1) da_nil)))))) (dss_one (ds_ret (de_addt (de_addt (de_slA (de_var 1) do_none (do_some (de_var 2))) (de_tup (da_cons (de_call0 F__law_bent_row hr (by rfl) (da_cons (de_var 0) (da_cons (de_ix (de_var 1) (de_var 2)) da_nil))) da_nil))) (de_slA (de_var 1) (do_some (de_add (de_var 2) de_int)) do_none)))) dss_nil)
  (dss_one (ds_ret (de_ix (de_var 4) (de_mod (de_var 5) de_int))))))))))))

theorem evg_brow {ρ : Rho} {M : List Cell} {j : Nat} {g : GE} {x : D} (hj : ρ[j]? = some (some .st)) (h : EvU g ρ x) (hx : RowP x) : EvG (gCall0 2 sp__law_bent_row (gaCons (gVar j) (gaCons g gaNil))) ρ M 20 (fun M d => Th M 330 7 d) :=
  evg_call2 hj h fun c n k hc hk => ⟨x, c, n, rfl, ⟨hx, rfl, hc⟩, fun L d c' hd hc' => hk L c' d hc' hd⟩
theorem rth_tup {M : List Cell} {xs : List D} (h : ∀ x ∈ xs, Pu 24 4 x) (l : xs.length ≤ 20) : Th M 1000 8 (.tup xs) := ((pu_tup (m := 20) h l (by decide)).th).up (by decide) (by decide)
theorem rth_ins {M : List Cell} {xs ys : List D} {o : D} {y n : Nat} (hx : ∀ x ∈ xs, Pu 24 4 x) (ho : Th M y n o) (hy : ∀ x ∈ ys, Pu 24 4 x) (l : xs.length + ys.length ≤ 16) (h1 : y ≤ 330) (h2 : n ≤ 7) : Th M 1000 8 (.tup (xs ++ [o] ++ ys)) :=
  (th_ins (m := 16) (n := 7) (fun x h => (hx x h).up (Nat.le_refl _) (by decide)) (ho.up h1 h2) (fun x h => (hy x h).up (Nat.le_refl _) (by decide)) l (by decide)).up (by decide) (Nat.le_refl _)
theorem evg_addT_take {ρ : Rho} {M : List Cell} {f : Nat} {a b : GE} {xs : List D} {Q : List Cell → D → Prop} (h1 : EvG a ρ M f (fun _ d => ∃ ys, d = .tup ys ∧ ys.length ≤ 500 ∧ ∀ M, Q M (.tup (ys ++ xs)))) (h2 : EvU b ρ (.tup xs)) (hl : xs.length ≤ 500) : EvG (gBin addTD a b) ρ M f Q := fun c n hc kx k hk => by
  refine h1 c n hc kx _ fun L c' d hc' ⟨ys, e, l, q⟩ => ?_
  subst e
  refine h2 _ kx _ ?_
  exact addTD_ok (by omega) (hk L c' _ hc' (q _))
theorem evu_add_take {ρ : Rho} {M : List Cell} {f : Nat} {g : GE} {i j : Int} (h : EvG g ρ M f (IntP 0 j)) : EvG (gBin addD (DL.gC (.int i)) g) ρ M f (IntP i (i + j)) := fun c n hc kx k hk => by
  refine (evu_c (d := .int i)) _ kx _ ?_
  refine h c n hc kx _ fun L c' d hc' ⟨r, e, r0, r1⟩ => ?_
  subst e
  rw [addD_i]
  exact hk L c' _ hc' ⟨i + r, rfl, by omega, by omega⟩
theorem evg_sl {ρ : Rho} {M : List Cell} {f : Nat} {a g : GE} {xs : List D} {lo hi : Int} {Q : List Cell → D → Prop} (h1 : EvU a ρ (.tup xs)) (h2 : EvG g ρ M f (IntP lo hi)) (q : ∀ M (i : Int), lo ≤ i → i < hi → Q M (.tup (DL.cutD xs none (some i)))) : EvG (gSl slA a goNone (goSome g)) ρ M f Q := fun c n hc kx k hk => by
  refine h1 _ kx _ ?_
  show goSome g ρ ⟨M, some c⟩ kx (fun hi w3 => slA (.tup xs) none hi w3 k)
  unfold goSome
  refine h2 c n hc kx _ fun L c' d hc' ⟨r, e, r0, r1⟩ => ?_
  subst e
  show slA _ _ _ _ _
  rw [slA_t]
  exact hk L c' _ hc' (q _ _ r0 r1)
theorem evg_mulTake {ρ : Rho} {M : List Cell} {f : Nat} {a g : GE} {xs : List D} {lo hi : Int} {Q : List Cell → D → Prop} (h1 : EvU a ρ (.tup xs)) (h2 : EvG g ρ M f (IntP lo hi)) (hx : xs ≠ [] ∧ xs.length ≤ 1000) (hlo : 2 ≤ lo) (hhi : hi ≤ 1001) (q : ∀ M (i : Int), lo ≤ i → i < hi → Q M (.tup (List.replicate i.toNat xs).flatten)) : EvG (gBin mulTpD a g) ρ M f Q := fun c n hc kx k hk => by
  refine h1 _ kx _ ?_
  refine h2 c n hc kx _ fun L c' d hc' ⟨r, e, r0, r1⟩ => ?_
  subst e
  exact ⟨⟨hx.1, by omega, by omega, hx.2⟩, hk L c' _ hc' (q _ _ r0 r1)⟩
theorem pu_rep {z n : Nat} {x : D} (h : Pu z n x) (j : Nat) : (∀ y ∈ (List.replicate j [x]).flatten, Pu z n y) ∧ (List.replicate j [x]).flatten.length = j := by
  refine ⟨fun y hy => ?_, by rw [rep_flen]; simp⟩
  have := rep_mem hy
  rw [List.mem_singleton.mp this]
  exact h
theorem v__law_bent : ∀ ds w kx k, sp__law_bent ds w kx k → sem0 6 g__law_bent ds w kx k := by
  rintro ds ⟨M, nn⟩ kx k ⟨rs, c, n, rfl, ⟨hp, h8, hn, hc⟩, hk⟩
  subst hn
  have hpu : ∀ x ∈ rs, Pu 24 4 x := fun x hx => (hp x hx).pu
  have ll : ∀ lo hi, (DL.cutD rs lo hi).length ≤ 8 := fun lo hi => Nat.le_trans (cut_len' rs lo hi) h8
  have e : rho 6 [D.st, D.tup rs] = [some .st, some (.tup rs), none, none, none, none] := rfl
  show g__law_bent _ (rho 6 [D.st, D.tup rs]) ⟨M, some c⟩
  rw [e]
  unfold g__law_bent
  refine evg_seqset (n := n + 29) (f := 1) (evg_take (i := (rs.length : Int) + 1) rfl (evu_addI (evu_lenT (evu_var rfl)) evu_c) (by omega) (by omega)) (by omega) ?_
  rintro L1 c1 _ hc1 ⟨r, rfl, r0, r1⟩
  have leftP : Pu 24 4 (.tup [.str "left", .str "a", .tup [.int 1, .int 2]]) := ⟨fun M => any_nr (by decide) (by decide +kernel), fun M => fit_nr (by decide) (by decide +kernel), by decide, by decide, by decide, by decide⟩
  have ofP : Pu 24 4 (.tup [.str "of", .str "ab", .tup [.int 1, .int 60]]) := ⟨fun M => any_nr (by decide) (by decide +kernel), fun M => fit_nr (by decide) (by decide +kernel), by decide, by decide, by decide, by decide⟩
  refine evu_seqset (d := .tup [.str "left", .str "a", .tup [.int 1, .int 2]]) (evu_tup (evua_cons evu_c (evua_cons evu_c (evua_cons (evu_tup (evua_cons evu_c (evua_cons evu_c evua_nil)) (by simp)) evua_nil))) (by simp)) ?_
  have a1 := ll none (some r)
  have a2 := ll (some (r + 1)) none
  have a3 := ll (some r) (some (r + 1))
  have a4 := ll (some r) none
  refine evg_seqset (n := n + 29) (f := 0) (Q := LstP 4 fun M d => Th M 1000 8 d) (evg_lst (f := 0) ?_ (by decide)) (by omega) ?_
  · refine evgl_cons (f1 := 0) (f2 := 0) th_mono (evg_u (evu_listT (evu_var rfl)) ((th_lst (m := 8) hpu h8 (by decide)).up (by decide) (by decide))) fun L => ?_
    refine evgl_cons (f1 := 0) (f2 := 0) th_mono (evg_u (evu_addT (evu_slTo (evu_var rfl) (evu_var rfl)) (evu_slFr (evu_var rfl) (evu_addI (evu_var rfl) evu_c)) (by omega)) (rth_tup (pu_app (pu_cut hpu) (pu_cut hpu)) (by rw [List.length_append]; omega))) fun L => ?_
    refine evgl_cons (f1 := 0) (f2 := 0) th_mono (evg_u (evu_addT (evu_addT (evu_slTo (evu_var rfl) (evu_var rfl)) (evu_slFT (evu_var rfl) (evu_var rfl) (evu_addI (evu_var rfl) evu_c)) (by omega)) (evu_slFr (evu_var rfl) (evu_var rfl)) (by rw [List.length_append]; omega)) (rth_tup (pu_app (pu_app (pu_cut hpu) (pu_cut hpu)) (pu_cut hpu)) ?_)) fun L => ?_
    · have b3 : (DL.cutD rs (some r) (some (r + 1))).length ≤ 1 := cut1 r0
      rw [List.length_append, List.length_append]
      omega
    refine evgl_cons (f1 := 0) (f2 := 0) th_mono (evg_u (evu_addT (evu_var rfl) (evu_mulT (j := 3) (evu_tup (evua_cons (evu_var rfl) evua_nil) (by simp)) evu_c ⟨by simp, by decide, by decide, by simp⟩) ?_) (rth_tup (pu_app hpu (pu_rep leftP 3).1) ?_)) fun L => evgl_nil
    · have := (pu_rep leftP 3).2
      have e3 : Int.toNat 3 = 3 := rfl
      rw [e3, this]
      omega
    · have := (pu_rep leftP 3).2
      rw [List.length_append]
      have e3 : Int.toNat 3 = 3 := rfl
      rw [e3, this]
      omega
  rintro L2 c2 d2 hc2 hd2
  refine evg_seqset (n := n + 27) (f := 2) (Q := LstP 6 fun M d => Th M 1000 8 d) (evg_addL (m := 4) (m' := 2) (f1 := 0) (f2 := 2) th_mono (evg_var rfl hd2) (fun L => evg_lst (f := 2) ?_ (by decide)) (by decide)) (by omega) ?_
  · refine evgl_cons (f1 := 1) (f2 := 1) th_mono (evg_sl (xs := rs ++ (List.replicate (Int.toNat 9) [D.tup [.str "of", .str "ab", .tup [.int 1, .int 60]]]).flatten) (lo := 8) (hi := 8 + 2) (evu_addT (evu_var rfl) (evu_mulT (j := 9) (evu_tup (evua_cons (evu_tup (evua_cons evu_c (evua_cons evu_c (evua_cons (evu_tup (evua_cons evu_c (evua_cons evu_c evua_nil)) (by simp)) evua_nil))) (by simp)) evua_nil) (by simp)) evu_c ⟨by simp, by decide, by decide, by simp⟩) ?_) (evu_add_take (evg_take rfl evu_c (by decide) (by decide))) fun M i _ _ => ?_) fun L => ?_
    · have := (pu_rep ofP 9).2
      have e3 : Int.toNat 9 = 9 := rfl
      rw [e3, this]
      omega
    · have l := (pu_rep ofP 9).2
      have l2 := cut_len' (rs ++ (List.replicate 9 [D.tup [.str "of", .str "ab", .tup [.int 1, .int 60]]]).flatten) none (some i)
      rw [List.length_append, l] at l2
      exact rth_tup (pu_cut (pu_app hpu (pu_rep ofP 9).1)) (Nat.le_trans l2 (by omega))
    · exact evgl_cons (f1 := 1) (f2 := 0) th_mono (evg_imp (evg_odd rfl) fun M d h => h.up (by decide) (by decide)) fun L => evgl_nil
  rintro L3 c3 d3 hc3 hd3
  refine evg_seqset (n := n + 25) (f := 2) (Q := LstP 8 fun M d => Th M 1000 8 d) (evg_addL (m := 6) (m' := 2) (f1 := 0) (f2 := 2) th_mono (evg_var rfl hd3) (fun L => evg_lst (f := 2) ?_ (by decide)) (by decide)) (by omega) ?_
  · refine evgl_cons (f1 := 1) (f2 := 1) th_mono ?_ fun L => ?_
    · refine evg_ins (P := fun M d => Th M 200 3 d) (evu_slTo (evu_var rfl) (evu_var rfl)) (evu_slFr (evu_var rfl) (evu_addI (evu_var rfl) evu_c)) (evg_odd rfl) (by omega) ?_
      intro M d hd
      exact rth_ins (pu_cut hpu) hd (pu_cut hpu) (by omega) (by decide) (by decide)
    · refine evgl_cons (f1 := 1) (f2 := 0) th_mono (evg_addT_take (xs := DL.cutD rs none (some r)) (evg_mulTake (lo := 3) (hi := 3 + 2) (evu_tup (evua_cons (evu_var rfl) evua_nil) (by simp)) (evu_add_take (evg_take rfl evu_c (by decide) (by decide))) ⟨by simp, by simp⟩ (by decide) (by decide) fun M i i0 i1 => ?_) (evu_slTo (evu_var rfl) (evu_var rfl)) (by omega)) fun L => evgl_nil
      have l := (pu_rep leftP i.toNat).2
      refine ⟨_, rfl, by rw [l]; omega, fun M => rth_tup (pu_app (pu_rep leftP _).1 (pu_cut hpu)) (by rw [List.length_append, l]; omega)⟩
  rintro L4 c4 d4 hc4 hd4
  refine evg_seqset (n := n + 24) (f := 1) (evg_take (i := 16) rfl evu_c (by decide) (by decide)) (by omega) ?_
  rintro L5 c5 _ hc5 ⟨wy, rfl, w0, w1⟩
  have hd5 : LstP 8 (fun M d => Th M 1000 8 d) (M ++ L1 ++ L2 ++ L3 ++ L4 ++ L5) d4 := mono_lst th_mono _ _ _ hd4
  have fin : ∀ {L : List Cell} {d : D} {c' : Nat}, Th (M ++ L1 ++ L2 ++ L3 ++ L4 ++ L5 ++ L) 1000 8 d → n ≤ c' → k d ⟨M ++ L1 ++ L2 ++ L3 ++ L4 ++ L5 ++ L, some c'⟩ := fun {L d c'} h1 h2 => by
    have := hk (L1 ++ L2 ++ L3 ++ L4 ++ L5 ++ L) d c' (by simpa [List.append_assoc] using h1) h2
    simpa [List.append_assoc] using this
  have tail : g__law_bent_b7 { nx := fun _ w => k .non w, rt := k, ex := noX } [some .st, some (.tup rs), some (.int r), some (.tup [.str "left", .str "a", .tup [.int 1, .int 2]]), some d4, some (.int wy)] ⟨M ++ L1 ++ L2 ++ L3 ++ L4 ++ L5, some c5⟩ := by
    unfold g__law_bent_b7
    refine evg_ret (n := n) (f := 0) (Q := fun M d => Th M 1000 8 d) (evg_ix (m := 8) (f1 := 0) (f2 := 0) th_mono (evg_var rfl hd5) fun L => evg_u (evu_modI (i := wy) (j := 8) (evu_var rfl) evu_c (by decide)) ?_) (by omega) fun L c' d h1 h2 => fin h2 h1
    have q : wy.fmod 8 = wy % 8 := Int.fmod_eq_emod_of_nonneg _ (by decide)
    exact ⟨_, rfl, by omega, by omega⟩
  unfold gSeq gIfS gAnd gB gBin
  refine (evu_var (i := 5) (d := .int wy) rfl) _ _ _ ?_
  refine evu_c (d := .int 7) _ _ _ ?_
  rw [gtD_i]
  dsimp only
  refine ite2 (fun _ => ?_) (fun _ => tail)
  refine (evu_var (i := 2) (d := .int r) rfl) _ _ _ ?_
  refine (evu_lenT (evu_var (i := 1) (d := .tup rs) rfl)) _ _ _ ?_
  rw [ltD_i]
  dsimp only
  refine ite2 (fun hlt => ?_) (fun _ => tail)
  have hlt : r < (rs.length : Int) := by simpa using hlt
  obtain ⟨x, ex, hx⟩ := atI_mem (xs := rs) r0 hlt
  refine evg_ret (n := n) (f := 20) (Q := fun M d => Th M 1000 8 d) (evg_ins (P := fun M d => Th M 330 7 d) (evu_slTo (evu_var rfl) (evu_var rfl)) (evu_slFr (evu_var rfl) (evu_addI (evu_var rfl) evu_c)) (evg_brow rfl (evu_ixT (evu_var rfl) (evu_var rfl) ex) (hp x hx)) (by omega) fun M d hd => rth_ins (pu_cut hpu) hd (pu_cut hpu) (by omega) (by decide) (by decide)) (by omega) fun L c' d h1 h2 => fin h2 h1
theorem ok__law_bent {P : Program} {w : World} {K : PySem.W.Frag} {mg : Str → Option Value} {base : Heap} (T : DefAt K mg "_law_bent" s__law_bent ["_law_state", "_law_rows_here"]) (B : Blt mg) (F__law_take : FnAt P w K mg base CX0 1 "_law_take" 2 sp__law_take) (F__law_odd : FnAt P w K mg base CX0 2 "_law_odd" 1 sp__law_odd) (F__law_bent_row : FnAt P w K mg base CX0 4 "_law_bent_row" 2 sp__law_bent_row) : FnAt P w K mg base CX0 5 "_law_bent" 2 sp__law_bent := (w__law_bent T B F__law_take F__law_odd F__law_bent_row).imp v__law_bent


end LW

namespace LW
open PySem PySem.Spec PyProof.Rows L2 RZ DL
local macro_rules | `(tactic| simp! only [$xs,*] $[$loc]?) => `(tactic| simp only [$xs,*, sem0,List.map_cons,List.map_nil,List.length_cons,List.length_nil,gSeq,gNext,gRet,gRetN,gIfS,gSet,gPar,gAsg,gDrop,gVar,gC,gBin,gUn,gB,gTru,gAnd,gOr,gNot,gAndV,gOrV,gNotV,gIf,gChain,gaNil,gaCons,DL.gTup,DL.gLst,gCB,gCall0,gAug,addD_i,addD_s,addD_l,addD_t,subD_i,mulD_i,mulD_l,fdivD_i,modD_i,powD_i,ltD_i,ltD_s,leD_i,gtD_i,geD_i,isD_n,isnotD_n,isNonD_non,isNonD_bl,isNonD_int,isNonD_str,isNonD_lst,isNonD_tup,negD_i,iaddD_i,truD_non,truD_bl,truD_int,truD_str,truD_lst,truD_tup,someK_some,ixD_l,ixD_t,fAbs_i,fInt_i,fInt_b,fMin2_i,fLen_l,fLen_t,fLen_s,fList_l,fList_t,fTuple_l,fTuple_t,optBK_some,fIsi_non,fIsi_bl,fIsi_int,fIsi_str,fIsi_lst,fIsi_tup,List.getElem?_cons_zero,List.getElem?_cons_succ,List.set_cons_zero,List.set_cons_succ,DL.ggName,ggNil0,ggCons1,ggTup2,ggTup3,gFor,giSeq,gLc,gYes,wipeR,true_and,and_true,at_0,at_1,at_2,kit_int_int,kit_bool_int,kit_str_int,kit_non_int,kit_list_int,kit_tuple_int,kit_int_bool,kit_bool_bool,kit_str_bool,kit_non_bool,kit_list_bool,kit_tuple_bool,kit_int_str,kit_bool_str,kit_str_str,kit_non_str,kit_list_str,kit_tuple_str,kit_int_list,kit_bool_list,kit_str_list,kit_non_list,kit_list_list,kit_tuple_list,kit_int_tuple,kit_bool_tuple,kit_str_tuple,kit_non_tuple,kit_list_tuple,kit_tuple_tuple,eqD_i,neD_i,eqD_s,neD_s,eqD_f,neD_f,Nat.zero_add,Nat.reduceAdd,nc0,nc1,nc2,nc3,nc4,nc5,nc6,nc7,nc8,nc9,eq_self,decide_true,decide_false,Int.reduceEq,Int.reduceLT,Int.reduceLE,Int.reduceNeg,Bool.not_true,Bool.not_false,Bool.false_eq_true,if_true,if_false,↓reduceIte,false_and,and_false,List.all_cons,List.all_nil,List.any_cons,List.any_nil,id_eq,Bool.and_true,Bool.true_and,Bool.or_false,Bool.false_or,Bool.and_false,Bool.false_and,gCut,eqD_b,neD_b,giZip,reduceCtorEq,Bool.true_eq_false,Bool.false_eq_true,gRevL,gSl,goNone,goSome,slD_l,ne_eq,not_false_eq_true,not_true_eq_false,gBM,isTy_l,isTy_s,new_at,new_set,isTy_new,cellK_new,append_new,popAt_new,gFrz_eq,frzK_new,fLen_new,fTuple_new,ixD_new,slA_l,slA_t,slA_new,addTD_t,addCD_l,mulCD_l,isbD_b,isnotbD_b,mSplitC_s,gLstC,gTr,ggSub,lstK_l,lstK_r,addLD_eq] $[$loc]?)


def sp_law : GF := gLaw
theorem strA_ok {M : List Cell} {c : Option Nat} {d : D} {k : KD} (h : Th M 1000 8 d) (hk : k (.str (textD M d)) ⟨M, c⟩) : fStrA [d] ⟨M, c⟩ k := ⟨⟨h.fit, h.one, Nat.le_trans h.dep (by decide), h.sz⟩, hk⟩
def Turn06 (ns : List Int) (rem : List D) (ρ : Rho) (w' : Wd) : Prop := ∃ (M : List Cell) (c' : Nat) (s2 s3 s4 s5 s6 s7 : Option D), 10000 * rem.length ≤ c' ∧ w' = ⟨M, some c'⟩ ∧ ρ = [some (.scr ns), some .st, s2, s3, s4, s5, s6, s7]
def Again06 (ns : List Int) (rs : List D) (m : Nat) (rem : List D) (ρ : Rho) (w' : Wd) : Prop := ∃ (M : List Cell) (c' : Nat) (s2 s4 s5 s6 s7 : Option D), 10000 * m + 100 * rem.length ≤ c' ∧ w' = ⟨M, some c'⟩ ∧ ρ = [some (.scr ns), some .st, s2, some (.tup rs), s4, s5, s6, s7]
abbrev s_law : Stmt := topS 38
theorem sc_law : FnScope ["_law_script", "_law_state", "_law_turn", "_law_rows_here", "_law_again", "_law_thing", "_law_kept", "_law_found"] ["_law_script"] (defScope s_law) := ⟨rfl, rfl, rfl, by decide +kernel, rfl, by decide +kernel, by decide +kernel⟩
def g_law : GS := (gSeq (gSet 1 (gCall0 1 sp__law_begin (gaCons (gVar 0) gaNil)))
  (gSeq (gFor (giRange1 (gaCons (gC (.int 4)) gaNil)) (ggName 2) (gSeq (gSet 3 (gCall0 1 sp__law_some_rows (gaCons (gVar 1) gaNil)))
  (gSeq (gIfS (gOr (gB (gBin isnotbD (gCall0 1 sp_is_rows (gaCons (gVar 3) gaNil)) (gC (.bl true)))) (gB (gBin isnotbD (gCall0 1 sp_is_rows (gaCons (gTup gaNil) gaNil)) (gC (.bl true))))) (gRet (gC (.bl false))) gNext)
  (gFor (giRange1 (gaCons (gC (.int 10)) gaNil)) (ggName 4) (gSeq (gSet 5 (gCall0 2 sp__law_bent (gaCons (gVar 1) (gaCons (gVar 3) gaNil))))
  (gSeq (gSet 6 (gCB fStrA (gaCons (gVar 5) gaNil)))
  (gSeq (gSet 7 (gCall0 1 sp_is_rows (gaCons (gVar 5) gaNil)))
  (gIfS (gOr (gNot (gTru (gCB fIsi (gaCons (gVar 7) (gaCons (gC (.ob (.ty "bool"))) gaNil))))) (gOr (gB (gBin neD (gVar 7) (gCall0 1 sp__law_due (gaCons (gVar 5) gaNil)))) (gB (gBin neD (gCB fStrA (gaCons (gVar 5) gaNil)) (gVar 6))))) (gRet (gC (.bl false))) gNext))))))))
  (gRet (gC (.bl true)))))
theorem w_law {P : Program} {w : World} {K : PySem.W.Frag} {mg : Str → Option Value} {base : Heap} {f : Addr} {fd : FuncData} (T : Fun K "law" "law" s_law f fd) (B : Blt mg) (F__law_begin : FnAt P w K mg base CX0 1 "_law_begin" 1 sp__law_begin) (F__law_some_rows : FnAt P w K mg base CX0 5 "_law_some_rows" 1 sp__law_some_rows) (F__law_bent : FnAt P w K mg base CX0 5 "_law_bent" 2 sp__law_bent) (F_is_rows : FnAt P w K mg base CX0 7 "is_rows" 1 sp_is_rows) (F__law_due : FnAt P w K mg base CX0 5 "_law_due" 1 sp__law_due) : FnOkG P w K mg base CX0 8 f fd ["_law_script"] (upF 1 K (sem0 8 g_law)) := by
  have nd := sc_law.nd
  exact fun_fn0G T sc_law (fun f cdv A outer s H E hq hr => (dss_cons (ds_set (i := 1) nd rfl (by first | exact Or.inl rfl | exact Or.inr rfl) (de_call0 F__law_begin hr (by rfl) (da_cons (de_var 0) da_nil)))
  (dss_cons (ds_for PassesOwn.never rfl (di_range1 B (by rfl) (da_cons de_int da_nil)) (dg_name (i := 2) nd rfl (by first | exact Or.inl rfl | exact Or.inr rfl)) (dss_cons (ds_set (i := 3) nd rfl (by first | exact Or.inl rfl | exact Or.inr rfl) (de_call0 F__law_some_rows hr (by rfl) (da_cons (de_var 1) da_nil)))
  (dss_cons (ds_if (dt_w (dw_or (dt_isnotb (de_call0 F_is_rows hr (by rfl) (da_cons (de_var 3) da_nil)) de_bl) (dw_or1 (dt_isnotb (de_call0 F_is_rows hr (by rfl) (da_cons (de_tup da_nil) da_nil)) de_bl)))) (dss_one (ds_ret de_bl)) dss_nil)
  (dss_one (ds_for PassesOwn.never rfl (di_range1 B (by rfl) (da_cons de_int da_nil)) (dg_name (i := 4) nd rfl (by first | exact Or.inl rfl | exact Or.inr rfl)) (dss_cons (ds_set (i := 5) nd rfl (by first | exact Or.inl rfl | exact Or.inr rfl) (de_call0 F__law_bent hr (by rfl) (da_cons (de_var 1) (da_cons (de_var 3) da_nil))))
  (dss_cons (ds_set (i := 6) nd rfl (by first | exact Or.inl rfl | exact Or.inr rfl) (de_strA hq hr B.str_ (by rfl) (da_cons (de_var 5) da_nil)))
  (dss_cons (ds_set (i := 7) nd rfl (by first | exact Or.inl rfl | exact Or.inr rfl) (de_call0 F_is_rows hr (by rfl) (da_cons (de_var 5) da_nil)))
  (dss_one (ds_if (dt_w (dw_or (dt_not (dt_truth (de_isi B (by rfl) (da_cons (de_var 7) (da_cons (de_type (by rfl) B.bool_ (by decide +kernel)) da_nil))))) (dw_or (dt_ne hr (de_var 7) (de_call0 F__law_due hr (by rfl) (da_cons (de_var 5) da_nil))) (dw_or1 (dt_ne hr (de_strA hq hr B.str_ (by rfl) (da_cons (de_var 5) da_nil)) (de_var 6)))))) (dss_one (ds_ret de_bl)) dss_nil))))))))))
  (dss_one (ds_ret de_bl)))))

theorem v_law : ∀ ds w kx k, sp_law ds w kx k → sem0 8 g_law ds w kx k := by
  rintro ds w kx k ⟨ns, rfl, hl, rfl, hk⟩
  have e : rho 8 [D.scr ns] = [some (.scr ns), none, none, none, none, none, none, none] := rfl
  simp! only [g_law, e, sp__law_begin, giRange1, sp__law_some_rows, sp_is_rows]
  refine ⟨ns, rfl, rfl, ?_⟩
  simp! only [id_eq]
  refine ⟨by decide, Turn06 ns, ⟨[], 1000000000, none, none, none, none, none, none, ?_, rfl, rfl⟩, ?_, ?_⟩
  · rw [range_len]
    decide
  · rintro ρ w' ⟨M, c', s2, s3, s4, s5, s6, s7, hc', rfl, rfl⟩
    exact ⟨trivial, hk _⟩
  rintro x rem ρ w' ⟨M, c', s2, s3, s4, s5, s6, s7, hc', rfl, rfl⟩
  rw [List.length_cons] at hc'
  refine ⟨trivial, ?_⟩
  simp! only [sp__law_some_rows, sp_is_rows]
  refine ⟨c', 10000 * rem.length + 9000, ⟨rfl, by omega⟩, fun rs ss c1 hr hs hc1 => ?_⟩
  have rp : ∀ x ∈ rs.map rowD, RowP x := fun x hx => by
    obtain ⟨r, hr2, rfl⟩ := List.mem_map.mp hx
    exact rowP_of (hr.ok r hr2) (hs _ (hr.nm r hr2))
  have rl : (rs.map rowD).length ≤ 8 := by rw [List.length_map]; exact hr.len
  have rb := rowsB_of hr hs
  generalize rs.map rowD = xs at rp rl rb ⊢
  have th0 : Pu 1000 8 (.tup xs) := (pu_tup (m := 8) (fun x hx => (rp x hx).pu) rl (by decide)).up (by decide) (by decide)
  refine ⟨_, rfl, th0.any _, ?_⟩
  rw [rb]
  simp! only [id_eq]
  refine ⟨by decide, _, rfl, rfl, ?_⟩
  have rb0 : rowsB (.tup []) = true := rfl
  rw [rb0]
  simp! only [giRange1]
  refine ⟨by decide, Again06 ns xs rem.length, ⟨M, c1, some x, _, _, _, _, ?_, rfl, rfl⟩, ?_, ?_⟩
  · rw [range_len]
    show 10000 * rem.length + 100 * 10 ≤ c1
    omega
  · rintro ρ w' ⟨M', c', s2, s4, s5, s6, s7, hc', rfl, rfl⟩
    exact ⟨trivial, M', c', _, _, _, _, _, _, by simp at hc'; exact hc', rfl, rfl⟩
  rintro z rem2 ρ w' ⟨M', c', s2, s4, s5, s6, s7, hc', rfl, rfl⟩
  rw [List.length_cons] at hc'
  refine ⟨trivial, ?_⟩
  simp! only [sp__law_bent, sp_is_rows, sp__law_due]
  refine ⟨xs, c', 10000 * rem.length + 100 * rem2.length, rfl, ⟨rp, rl, rfl, by omega⟩, fun L d c2 hd hc2 => ?_⟩
  refine strA_ok hd ?_
  refine ⟨d, rfl, hd.any, ?_⟩
  simp! only [id_eq]
  refine ⟨d, rfl, hd.any, ?_⟩
  simp! only [neD_b, bne_self_eq_false]
  refine strA_ok hd ?_
  simp! only [id_eq]
  exact ⟨_, c2, _, _, _, _, _, hc2, rfl, rfl⟩
theorem ok_law {P : Program} {w : World} {K : PySem.W.Frag} {mg : Str → Option Value} {base : Heap} {f : Addr} {fd : FuncData} (T : Fun K "law" "law" s_law f fd) (B : Blt mg) (F__law_begin : FnAt P w K mg base CX0 1 "_law_begin" 1 sp__law_begin) (F__law_some_rows : FnAt P w K mg base CX0 5 "_law_some_rows" 1 sp__law_some_rows) (F__law_bent : FnAt P w K mg base CX0 5 "_law_bent" 2 sp__law_bent) (F_is_rows : FnAt P w K mg base CX0 7 "is_rows" 1 sp_is_rows) (F__law_due : FnAt P w K mg base CX0 5 "_law_due" 1 sp__law_due) : FnOkG P w K mg base CX0 8 f fd ["_law_script"] (upF 1 K sp_law) := (w_law T B F__law_begin F__law_some_rows F__law_bent F_is_rows F__law_due).weak (up_imp v_law)


end LW

namespace LW
open PySem PySem.Spec PyProof.Rows L2 RZ DL


set_option maxHeartbeats 0 in
theorem all_mk {l : PySem.W.OpenLaw} {w : World} {K : PySem.W.Frag} {h : Heap} {mg : Str → Option Value} {fa : Addr} (X : K.In h) (G : h.Ns mainGlobals mg) (hfa : mg "law" = some (.ref fa))
    {f0 : Addr} {od0 an0 : Option Addr} {sl0 : Array (Option Value)} {oc0 kV0 dc0 pm0 cd0 ct0 : Value}
    (a0 : PySem.W.nsIn K mainGlobals "_law_begin" = some (some (.ref f0)))
    (l0 : K.lookup f0 = some ⟨oc0, od0, .func (PySem.W.fnOf "_law_begin" "_law_begin" (defArgs s__law_begin) (defBody s__law_begin) (defScope s__law_begin) .none kV0 dc0 pm0 an0 cd0 ct0), sl0⟩) (c0 : PySem.W.codeIn K cd0 "_law_begin" = true) (k0 : PySem.W.keepIn K (.ref f0) = true)
    {f1 : Addr} {od1 an1 : Option Addr} {sl1 : Array (Option Value)} {oc1 kV1 dc1 pm1 cd1 ct1 : Value}
    (a1 : PySem.W.nsIn K mainGlobals "_law_take" = some (some (.ref f1)))
    (l1 : K.lookup f1 = some ⟨oc1, od1, .func (PySem.W.fnOf "_law_take" "_law_take" (defArgs s__law_take) (defBody s__law_take) (defScope s__law_take) .none kV1 dc1 pm1 an1 cd1 ct1), sl1⟩) (c1 : PySem.W.codeIn K cd1 "_law_take" = true) (k1 : PySem.W.keepIn K (.ref f1) = true)
    {f2 : Addr} {od2 an2 : Option Addr} {sl2 : Array (Option Value)} {oc2 kV2 dc2 pm2 cd2 ct2 : Value}
    (a2 : PySem.W.nsIn K mainGlobals "_law_lowest" = some (some (.ref f2)))
    (l2 : K.lookup f2 = some ⟨oc2, od2, .func (PySem.W.fnOf "_law_lowest" "_law_lowest" (defArgs s__law_lowest) (defBody s__law_lowest) (defScope s__law_lowest) .none kV2 dc2 pm2 an2 cd2 ct2), sl2⟩) (c2 : PySem.W.codeIn K cd2 "_law_lowest" = true) (k2 : PySem.W.keepIn K (.ref f2) = true)
    {f3 : Addr} {od3 an3 : Option Addr} {sl3 : Array (Option Value)} {oc3 kV3 dc3 pm3 cd3 ct3 : Value}
    (a3 : PySem.W.nsIn K mainGlobals "_law_part" = some (some (.ref f3)))
    (l3 : K.lookup f3 = some ⟨oc3, od3, .func (PySem.W.fnOf "_law_part" "_law_part" (defArgs s__law_part) (defBody s__law_part) (defScope s__law_part) .none kV3 dc3 pm3 an3 cd3 ct3), sl3⟩) (c3 : PySem.W.codeIn K cd3 "_law_part" = true) (k3 : PySem.W.keepIn K (.ref f3) = true)
    {f4 : Addr} {od4 an4 : Option Addr} {sl4 : Array (Option Value)} {oc4 kV4 dc4 pm4 cd4 ct4 : Value}
    (a4 : PySem.W.nsIn K mainGlobals "_law_row" = some (some (.ref f4)))
    (l4 : K.lookup f4 = some ⟨oc4, od4, .func (PySem.W.fnOf "_law_row" "_law_row" (defArgs s__law_row) (defBody s__law_row) (defScope s__law_row) .none kV4 dc4 pm4 an4 cd4 ct4), sl4⟩) (c4 : PySem.W.codeIn K cd4 "_law_row" = true) (k4 : PySem.W.keepIn K (.ref f4) = true)
    {f5 : Addr} {od5 an5 : Option Addr} {sl5 : Array (Option Value)} {oc5 kV5 dc5 pm5 cd5 ct5 : Value}
    (a5 : PySem.W.nsIn K mainGlobals "_law_rows" = some (some (.ref f5)))
    (l5 : K.lookup f5 = some ⟨oc5, od5, .func (PySem.W.fnOf "_law_rows" "_law_rows" (defArgs s__law_rows) (defBody s__law_rows) (defScope s__law_rows) .none kV5 dc5 pm5 an5 cd5 ct5), sl5⟩) (c5 : PySem.W.codeIn K cd5 "_law_rows" = true) (k5 : PySem.W.keepIn K (.ref f5) = true)
    {f6 : Addr} {od6 an6 : Option Addr} {sl6 : Array (Option Value)} {oc6 kV6 dc6 pm6 cd6 ct6 : Value}
    (a6 : PySem.W.nsIn K mainGlobals "_law_any_name" = some (some (.ref f6)))
    (l6 : K.lookup f6 = some ⟨oc6, od6, .func (PySem.W.fnOf "_law_any_name" "_law_any_name" (defArgs s__law_any_name) (defBody s__law_any_name) (defScope s__law_any_name) .none kV6 dc6 pm6 an6 cd6 ct6), sl6⟩) (c6 : PySem.W.codeIn K cd6 "_law_any_name" = true) (k6 : PySem.W.keepIn K (.ref f6) = true)
    {f7 : Addr} {od7 an7 : Option Addr} {sl7 : Array (Option Value)} {oc7 kV7 dc7 pm7 cd7 ct7 : Value}
    (a7 : PySem.W.nsIn K mainGlobals "_law_names" = some (some (.ref f7)))
    (l7 : K.lookup f7 = some ⟨oc7, od7, .func (PySem.W.fnOf "_law_names" "_law_names" (defArgs s__law_names) (defBody s__law_names) (defScope s__law_names) .none kV7 dc7 pm7 an7 cd7 ct7), sl7⟩) (c7 : PySem.W.codeIn K cd7 "_law_names" = true) (k7 : PySem.W.keepIn K (.ref f7) = true)
    {f8 : Addr} {od8 an8 : Option Addr} {sl8 : Array (Option Value)} {oc8 kV8 dc8 pm8 cd8 ct8 : Value}
    (a8 : PySem.W.nsIn K mainGlobals "_law_some_rows" = some (some (.ref f8)))
    (l8 : K.lookup f8 = some ⟨oc8, od8, .func (PySem.W.fnOf "_law_some_rows" "_law_some_rows" (defArgs s__law_some_rows) (defBody s__law_some_rows) (defScope s__law_some_rows) .none kV8 dc8 pm8 an8 cd8 ct8), sl8⟩) (c8 : PySem.W.codeIn K cd8 "_law_some_rows" = true) (k8 : PySem.W.keepIn K (.ref f8) = true)
    {f9 : Addr} {od9 an9 : Option Addr} {sl9 : Array (Option Value)} {oc9 kV9 dc9 pm9 cd9 ct9 : Value}
    (a9 : PySem.W.nsIn K mainGlobals "_law_odd" = some (some (.ref f9)))
    (l9 : K.lookup f9 = some ⟨oc9, od9, .func (PySem.W.fnOf "_law_odd" "_law_odd" (defArgs s__law_odd) (defBody s__law_odd) (defScope s__law_odd) .none kV9 dc9 pm9 an9 cd9 ct9), sl9⟩) (c9 : PySem.W.codeIn K cd9 "_law_odd" = true) (k9 : PySem.W.keepIn K (.ref f9) = true)
    {f10 : Addr} {od10 an10 : Option Addr} {sl10 : Array (Option Value)} {oc10 kV10 dc10 pm10 cd10 ct10 : Value}
    (a10 : PySem.W.nsIn K mainGlobals "_law_signed" = some (some (.ref f10)))
    (l10 : K.lookup f10 = some ⟨oc10, od10, .func (PySem.W.fnOf "_law_signed" "_law_signed" (defArgs s__law_signed) (defBody s__law_signed) (defScope s__law_signed) .none kV10 dc10 pm10 an10 cd10 ct10), sl10⟩) (c10 : PySem.W.codeIn K cd10 "_law_signed" = true) (k10 : PySem.W.keepIn K (.ref f10) = true)
    {f11 : Addr} {od11 an11 : Option Addr} {sl11 : Array (Option Value)} {oc11 kV11 dc11 pm11 cd11 ct11 : Value}
    (a11 : PySem.W.nsIn K mainGlobals "_law_bent_rates" = some (some (.ref f11)))
    (l11 : K.lookup f11 = some ⟨oc11, od11, .func (PySem.W.fnOf "_law_bent_rates" "_law_bent_rates" (defArgs s__law_bent_rates) (defBody s__law_bent_rates) (defScope s__law_bent_rates) .none kV11 dc11 pm11 an11 cd11 ct11), sl11⟩) (c11 : PySem.W.codeIn K cd11 "_law_bent_rates" = true) (k11 : PySem.W.keepIn K (.ref f11) = true)
    {f12 : Addr} {od12 an12 : Option Addr} {sl12 : Array (Option Value)} {oc12 kV12 dc12 pm12 cd12 ct12 : Value}
    (a12 : PySem.W.nsIn K mainGlobals "_law_bent_row" = some (some (.ref f12)))
    (l12 : K.lookup f12 = some ⟨oc12, od12, .func (PySem.W.fnOf "_law_bent_row" "_law_bent_row" (defArgs s__law_bent_row) (defBody s__law_bent_row) (defScope s__law_bent_row) .none kV12 dc12 pm12 an12 cd12 ct12), sl12⟩) (c12 : PySem.W.codeIn K cd12 "_law_bent_row" = true) (k12 : PySem.W.keepIn K (.ref f12) = true)
    {f13 : Addr} {od13 an13 : Option Addr} {sl13 : Array (Option Value)} {oc13 kV13 dc13 pm13 cd13 ct13 : Value}
    (a13 : PySem.W.nsIn K mainGlobals "_law_bent" = some (some (.ref f13)))
    (l13 : K.lookup f13 = some ⟨oc13, od13, .func (PySem.W.fnOf "_law_bent" "_law_bent" (defArgs s__law_bent) (defBody s__law_bent) (defScope s__law_bent) .none kV13 dc13 pm13 an13 cd13 ct13), sl13⟩) (c13 : PySem.W.codeIn K cd13 "_law_bent" = true) (k13 : PySem.W.keepIn K (.ref f13) = true)
    {f14 : Addr} {od14 an14 : Option Addr} {sl14 : Array (Option Value)} {oc14 kV14 dc14 pm14 cd14 ct14 : Value}
    (a14 : PySem.W.nsIn K mainGlobals "rows_by" = some (some (.ref f14)))
    (l14 : K.lookup f14 = some ⟨oc14, od14, .func (PySem.W.fnOf "rows_by" "rows_by" (defArgs s_rows_by) (defBody s_rows_by) (defScope s_rows_by) .none kV14 dc14 pm14 an14 cd14 ct14), sl14⟩) (c14 : PySem.W.codeIn K cd14 "rows_by" = true) (k14 : PySem.W.keepIn K (.ref f14) = true)
    {f15 : Addr} {od15 an15 : Option Addr} {sl15 : Array (Option Value)} {oc15 kV15 dc15 pm15 cd15 ct15 : Value}
    (a15 : PySem.W.nsIn K mainGlobals "divisor_of" = some (some (.ref f15)))
    (l15 : K.lookup f15 = some ⟨oc15, od15, .func (PySem.W.fnOf "divisor_of" "divisor_of" (defArgs s_divisor_of) (defBody s_divisor_of) (defScope s_divisor_of) .none kV15 dc15 pm15 an15 cd15 ct15), sl15⟩) (c15 : PySem.W.codeIn K cd15 "divisor_of" = true) (k15 : PySem.W.keepIn K (.ref f15) = true)
    {f16 : Addr} {od16 an16 : Option Addr} {sl16 : Array (Option Value)} {oc16 kV16 dc16 pm16 cd16 ct16 : Value}
    (a16 : PySem.W.nsIn K mainGlobals "fraction_of" = some (some (.ref f16)))
    (l16 : K.lookup f16 = some ⟨oc16, od16, .func (PySem.W.fnOf "fraction_of" "fraction_of" (defArgs s_fraction_of) (defBody s_fraction_of) (defScope s_fraction_of) .none kV16 dc16 pm16 an16 cd16 ct16), sl16⟩) (c16 : PySem.W.codeIn K cd16 "fraction_of" = true) (k16 : PySem.W.keepIn K (.ref f16) = true)
    {f17 : Addr} {od17 an17 : Option Addr} {sl17 : Array (Option Value)} {oc17 kV17 dc17 pm17 cd17 ct17 : Value}
    (a17 : PySem.W.nsIn K mainGlobals "is_number" = some (some (.ref f17)))
    (l17 : K.lookup f17 = some ⟨oc17, od17, .func (PySem.W.fnOf "is_number" "is_number" (defArgs s_is_number) (defBody s_is_number) (defScope s_is_number) .none kV17 dc17 pm17 an17 cd17 ct17), sl17⟩) (c17 : PySem.W.codeIn K cd17 "is_number" = true) (k17 : PySem.W.keepIn K (.ref f17) = true)
    {f18 : Addr} {od18 an18 : Option Addr} {sl18 : Array (Option Value)} {oc18 kV18 dc18 pm18 cd18 ct18 : Value}
    (a18 : PySem.W.nsIn K mainGlobals "is_part" = some (some (.ref f18)))
    (l18 : K.lookup f18 = some ⟨oc18, od18, .func (PySem.W.fnOf "is_part" "is_part" (defArgs s_is_part) (defBody s_is_part) (defScope s_is_part) .none kV18 dc18 pm18 an18 cd18 ct18), sl18⟩) (c18 : PySem.W.codeIn K cd18 "is_part" = true) (k18 : PySem.W.keepIn K (.ref f18) = true)
    {f19 : Addr} {od19 an19 : Option Addr} {sl19 : Array (Option Value)} {oc19 kV19 dc19 pm19 cd19 ct19 : Value}
    (a19 : PySem.W.nsIn K mainGlobals "is_rate" = some (some (.ref f19)))
    (l19 : K.lookup f19 = some ⟨oc19, od19, .func (PySem.W.fnOf "is_rate" "is_rate" (defArgs s_is_rate) (defBody s_is_rate) (defScope s_is_rate) .none kV19 dc19 pm19 an19 cd19 ct19), sl19⟩) (c19 : PySem.W.codeIn K cd19 "is_rate" = true) (k19 : PySem.W.keepIn K (.ref f19) = true)
    {f20 : Addr} {od20 an20 : Option Addr} {sl20 : Array (Option Value)} {oc20 kV20 dc20 pm20 cd20 ct20 : Value}
    (a20 : PySem.W.nsIn K mainGlobals "are_rates" = some (some (.ref f20)))
    (l20 : K.lookup f20 = some ⟨oc20, od20, .func (PySem.W.fnOf "are_rates" "are_rates" (defArgs s_are_rates) (defBody s_are_rates) (defScope s_are_rates) .none kV20 dc20 pm20 an20 cd20 ct20), sl20⟩) (c20 : PySem.W.codeIn K cd20 "are_rates" = true) (k20 : PySem.W.keepIn K (.ref f20) = true)
    {f21 : Addr} {od21 an21 : Option Addr} {sl21 : Array (Option Value)} {oc21 kV21 dc21 pm21 cd21 ct21 : Value}
    (a21 : PySem.W.nsIn K mainGlobals "is_name" = some (some (.ref f21)))
    (l21 : K.lookup f21 = some ⟨oc21, od21, .func (PySem.W.fnOf "is_name" "is_name" (defArgs s_is_name) (defBody s_is_name) (defScope s_is_name) .none kV21 dc21 pm21 an21 cd21 ct21), sl21⟩) (c21 : PySem.W.codeIn K cd21 "is_name" = true) (k21 : PySem.W.keepIn K (.ref f21) = true)
    {f22 : Addr} {od22 an22 : Option Addr} {sl22 : Array (Option Value)} {oc22 kV22 dc22 pm22 cd22 ct22 : Value}
    (a22 : PySem.W.nsIn K mainGlobals "is_row" = some (some (.ref f22)))
    (l22 : K.lookup f22 = some ⟨oc22, od22, .func (PySem.W.fnOf "is_row" "is_row" (defArgs s_is_row) (defBody s_is_row) (defScope s_is_row) .none kV22 dc22 pm22 an22 cd22 ct22), sl22⟩) (c22 : PySem.W.codeIn K cd22 "is_row" = true) (k22 : PySem.W.keepIn K (.ref f22) = true)
    {f23 : Addr} {od23 an23 : Option Addr} {sl23 : Array (Option Value)} {oc23 kV23 dc23 pm23 cd23 ct23 : Value}
    (a23 : PySem.W.nsIn K mainGlobals "is_rows" = some (some (.ref f23)))
    (l23 : K.lookup f23 = some ⟨oc23, od23, .func (PySem.W.fnOf "is_rows" "is_rows" (defArgs s_is_rows) (defBody s_is_rows) (defScope s_is_rows) .none kV23 dc23 pm23 an23 cd23 ct23), sl23⟩) (c23 : PySem.W.codeIn K cd23 "is_rows" = true) (k23 : PySem.W.keepIn K (.ref f23) = true)
    {f24 : Addr} {od24 an24 : Option Addr} {sl24 : Array (Option Value)} {oc24 kV24 dc24 pm24 cd24 ct24 : Value}
    (a24 : PySem.W.nsIn K mainGlobals "_law_whole" = some (some (.ref f24)))
    (l24 : K.lookup f24 = some ⟨oc24, od24, .func (PySem.W.fnOf "_law_whole" "_law_whole" (defArgs s__law_whole) (defBody s__law_whole) (defScope s__law_whole) .none kV24 dc24 pm24 an24 cd24 ct24), sl24⟩) (c24 : PySem.W.codeIn K cd24 "_law_whole" = true) (k24 : PySem.W.keepIn K (.ref f24) = true)
    {f25 : Addr} {od25 an25 : Option Addr} {sl25 : Array (Option Value)} {oc25 kV25 dc25 pm25 cd25 ct25 : Value}
    (a25 : PySem.W.nsIn K mainGlobals "_law_is_part" = some (some (.ref f25)))
    (l25 : K.lookup f25 = some ⟨oc25, od25, .func (PySem.W.fnOf "_law_is_part" "_law_is_part" (defArgs s__law_is_part) (defBody s__law_is_part) (defScope s__law_is_part) .none kV25 dc25 pm25 an25 cd25 ct25), sl25⟩) (c25 : PySem.W.codeIn K cd25 "_law_is_part" = true) (k25 : PySem.W.keepIn K (.ref f25) = true)
    {f26 : Addr} {od26 an26 : Option Addr} {sl26 : Array (Option Value)} {oc26 kV26 dc26 pm26 cd26 ct26 : Value}
    (a26 : PySem.W.nsIn K mainGlobals "_law_are_rates" = some (some (.ref f26)))
    (l26 : K.lookup f26 = some ⟨oc26, od26, .func (PySem.W.fnOf "_law_are_rates" "_law_are_rates" (defArgs s__law_are_rates) (defBody s__law_are_rates) (defScope s__law_are_rates) .none kV26 dc26 pm26 an26 cd26 ct26), sl26⟩) (c26 : PySem.W.codeIn K cd26 "_law_are_rates" = true) (k26 : PySem.W.keepIn K (.ref f26) = true)
    {f27 : Addr} {od27 an27 : Option Addr} {sl27 : Array (Option Value)} {oc27 kV27 dc27 pm27 cd27 ct27 : Value}
    (a27 : PySem.W.nsIn K mainGlobals "_law_is_row" = some (some (.ref f27)))
    (l27 : K.lookup f27 = some ⟨oc27, od27, .func (PySem.W.fnOf "_law_is_row" "_law_is_row" (defArgs s__law_is_row) (defBody s__law_is_row) (defScope s__law_is_row) .none kV27 dc27 pm27 an27 cd27 ct27), sl27⟩) (c27 : PySem.W.codeIn K cd27 "_law_is_row" = true) (k27 : PySem.W.keepIn K (.ref f27) = true)
    {f28 : Addr} {od28 an28 : Option Addr} {sl28 : Array (Option Value)} {oc28 kV28 dc28 pm28 cd28 ct28 : Value}
    (a28 : PySem.W.nsIn K mainGlobals "_law_due" = some (some (.ref f28)))
    (l28 : K.lookup f28 = some ⟨oc28, od28, .func (PySem.W.fnOf "_law_due" "_law_due" (defArgs s__law_due) (defBody s__law_due) (defScope s__law_due) .none kV28 dc28 pm28 an28 cd28 ct28), sl28⟩) (c28 : PySem.W.codeIn K cd28 "_law_due" = true) (k28 : PySem.W.keepIn K (.ref f28) = true)
    {f29 : Addr} {od29 an29 : Option Addr} {sl29 : Array (Option Value)} {oc29 kV29 dc29 pm29 cd29 ct29 : Value}
    (a29 : PySem.W.nsIn K mainGlobals "law" = some (some (.ref f29)))
    (l29 : K.lookup f29 = some ⟨oc29, od29, .func (PySem.W.fnOf "law" "law" (defArgs s_law) (defBody s_law) (defScope s_law) .none kV29 dc29 pm29 an29 cd29 ct29), sl29⟩) (c29 : PySem.W.codeIn K cd29 "law" = true) (k29 : PySem.W.keepIn K (.ref f29) = true)
    (z0 : PySem.W.nsIn K mainGlobals "abs" = some none)
    (z1 : PySem.W.nsIn K mainGlobals "len" = some none)
    (z2 : PySem.W.nsIn K mainGlobals "isinstance" = some none)
    (z3 : PySem.W.nsIn K mainGlobals "all" = some none)
    (z4 : PySem.W.nsIn K mainGlobals "any" = some none)
    (z5 : PySem.W.nsIn K mainGlobals "sum" = some none)
    (z6 : PySem.W.nsIn K mainGlobals "list" = some none)
    (z7 : PySem.W.nsIn K mainGlobals "tuple" = some none)
    (z8 : PySem.W.nsIn K mainGlobals "int" = some none)
    (z9 : PySem.W.nsIn K mainGlobals "bool" = some none)
    (z10 : PySem.W.nsIn K mainGlobals "str" = some none)
    (z11 : PySem.W.nsIn K mainGlobals "min" = some none)
    (z12 : PySem.W.nsIn K mainGlobals "max" = some none)
    (z13 : PySem.W.nsIn K mainGlobals "range" = some none)
    (z14 : PySem.W.nsIn K mainGlobals "zip" = some none)
    (z15 : PySem.W.nsIn K mainGlobals "sorted" = some none)
    (z16 : PySem.W.nsIn K mainGlobals "enumerate" = some none)
    (z17 : PySem.W.nsIn K mainGlobals "divmod" = some none)
    {tk0 : Tok} (m0 : PySem.W.nsIn K mainGlobals "MOST_BELOW" = some (some (.int (60) tk0)))
    {tk1 : Tok} (m1 : PySem.W.nsIn K mainGlobals "MOST_UNITS" = some (some (.int (1000000) tk1)))
    {tk2 : Tok} (m2 : PySem.W.nsIn K mainGlobals "LETTERS" = some (some (.str "abcdefghijklmnopqrstuvwxyz" tk2)))
    {tk3 : Tok} (m3 : PySem.W.nsIn K mainGlobals "MOST_LENGTH" = some (some (.int (1000) tk3)))
    {tk4 : Tok} (m4 : PySem.W.nsIn K mainGlobals "MOST_LEFT" = some (some (.int (3) tk4)))
    {tk5 : Tok} (m5 : PySem.W.nsIn K mainGlobals "MOST_ROWS" = some (some (.int (8) tk5)))
    : ∃ fd : FuncData, (∀ (s : Shared) (v : Value), BindsTo s fd ⟨[v], []⟩ [("_law_script", v)]) ∧ ∀ base : Heap, K.In base → base.Ns mainGlobals mg → FnOkG l.prog w K mg base CX0 8 fa fd ["_law_script"] (upF 1 K sp_law) := by
  have e := hfa.symm.trans (PySem.W.mg_of X G a29)
  cases e
  have B : Blt mg := ⟨PySem.W.mg_none_of X G z0, PySem.W.mg_none_of X G z1, PySem.W.mg_none_of X G z2, PySem.W.mg_none_of X G z3, PySem.W.mg_none_of X G z4, PySem.W.mg_none_of X G z5, PySem.W.mg_none_of X G z6, PySem.W.mg_none_of X G z7, PySem.W.mg_none_of X G z8, PySem.W.mg_none_of X G z9, PySem.W.mg_none_of X G z10, PySem.W.mg_none_of X G z11, PySem.W.mg_none_of X G z12, PySem.W.mg_none_of X G z13, PySem.W.mg_none_of X G z14, PySem.W.mg_none_of X G z15, PySem.W.mg_none_of X G z16, PySem.W.mg_none_of X G z17⟩
  have U0 := fun_mk (st := s__law_begin) l0 c0 k0
  have T0 : DefAt K mg "_law_begin" s__law_begin ["_law_script"] := ⟨_, _, U0, PySem.W.mg_of X G a0, U0.binds (ps := ["_law_script"]) fun _ _ _ _ _ _ us hl => match us, hl with | [_], _ => rfl⟩
  have U1 := fun_mk (st := s__law_take) l1 c1 k1
  have T1 : DefAt K mg "_law_take" s__law_take ["_law_state", "_law_many"] := ⟨_, _, U1, PySem.W.mg_of X G a1, U1.binds (ps := ["_law_state", "_law_many"]) fun _ _ _ _ _ _ us hl => match us, hl with | [_, _], _ => rfl⟩
  have U2 := fun_mk (st := s__law_lowest) l2 c2 k2
  have T2 : DefAt K mg "_law_lowest" s__law_lowest ["_law_top", "_law_below"] := ⟨_, _, U2, PySem.W.mg_of X G a2, U2.binds (ps := ["_law_top", "_law_below"]) fun _ _ _ _ _ _ us hl => match us, hl with | [_, _], _ => rfl⟩
  have U3 := fun_mk (st := s__law_part) l3 c3 k3
  have T3 : DefAt K mg "_law_part" s__law_part ["_law_state"] := ⟨_, _, U3, PySem.W.mg_of X G a3, U3.binds (ps := ["_law_state"]) fun _ _ _ _ _ _ us hl => match us, hl with | [_], _ => rfl⟩
  have U4 := fun_mk (st := s__law_row) l4 c4 k4
  have T4 : DefAt K mg "_law_row" s__law_row ["_law_state", "_law_name", "_law_room"] := ⟨_, _, U4, PySem.W.mg_of X G a4, U4.binds (ps := ["_law_state", "_law_name", "_law_room"]) fun _ _ _ _ _ _ us hl => match us, hl with | [_, _, _], _ => rfl⟩
  have U5 := fun_mk (st := s__law_rows) l5 c5 k5
  have T5 : DefAt K mg "_law_rows" s__law_rows ["_law_state", "_law_names_here", "_law_many"] := ⟨_, _, U5, PySem.W.mg_of X G a5, U5.binds (ps := ["_law_state", "_law_names_here", "_law_many"]) fun _ _ _ _ _ _ us hl => match us, hl with | [_, _, _], _ => rfl⟩
  have U6 := fun_mk (st := s__law_any_name) l6 c6 k6
  have T6 : DefAt K mg "_law_any_name" s__law_any_name ["_law_state"] := ⟨_, _, U6, PySem.W.mg_of X G a6, U6.binds (ps := ["_law_state"]) fun _ _ _ _ _ _ us hl => match us, hl with | [_], _ => rfl⟩
  have U7 := fun_mk (st := s__law_names) l7 c7 k7
  have T7 : DefAt K mg "_law_names" s__law_names ["_law_state", "_law_many"] := ⟨_, _, U7, PySem.W.mg_of X G a7, U7.binds (ps := ["_law_state", "_law_many"]) fun _ _ _ _ _ _ us hl => match us, hl with | [_, _], _ => rfl⟩
  have U8 := fun_mk (st := s__law_some_rows) l8 c8 k8
  have T8 : DefAt K mg "_law_some_rows" s__law_some_rows ["_law_state"] := ⟨_, _, U8, PySem.W.mg_of X G a8, U8.binds (ps := ["_law_state"]) fun _ _ _ _ _ _ us hl => match us, hl with | [_], _ => rfl⟩
  have U9 := fun_mk (st := s__law_odd) l9 c9 k9
  have T9 : DefAt K mg "_law_odd" s__law_odd ["_law_state"] := ⟨_, _, U9, PySem.W.mg_of X G a9, U9.binds (ps := ["_law_state"]) fun _ _ _ _ _ _ us hl => match us, hl with | [_], _ => rfl⟩
  have U10 := fun_mk (st := s__law_signed) l10 c10 k10
  have T10 : DefAt K mg "_law_signed" s__law_signed ["_law_state", "_law_name"] := ⟨_, _, U10, PySem.W.mg_of X G a10, U10.binds (ps := ["_law_state", "_law_name"]) fun _ _ _ _ _ _ us hl => match us, hl with | [_, _], _ => rfl⟩
  have U11 := fun_mk (st := s__law_bent_rates) l11 c11 k11
  have T11 : DefAt K mg "_law_bent_rates" s__law_bent_rates ["_law_state", "_law_rates"] := ⟨_, _, U11, PySem.W.mg_of X G a11, U11.binds (ps := ["_law_state", "_law_rates"]) fun _ _ _ _ _ _ us hl => match us, hl with | [_, _], _ => rfl⟩
  have U12 := fun_mk (st := s__law_bent_row) l12 c12 k12
  have T12 : DefAt K mg "_law_bent_row" s__law_bent_row ["_law_state", "_law_row_here"] := ⟨_, _, U12, PySem.W.mg_of X G a12, U12.binds (ps := ["_law_state", "_law_row_here"]) fun _ _ _ _ _ _ us hl => match us, hl with | [_, _], _ => rfl⟩
  have U13 := fun_mk (st := s__law_bent) l13 c13 k13
  have T13 : DefAt K mg "_law_bent" s__law_bent ["_law_state", "_law_rows_here"] := ⟨_, _, U13, PySem.W.mg_of X G a13, U13.binds (ps := ["_law_state", "_law_rows_here"]) fun _ _ _ _ _ _ us hl => match us, hl with | [_, _], _ => rfl⟩
  have U14 := fun_mk (st := s_rows_by) l14 c14 k14
  have T14 : DefAt K mg "rows_by" s_rows_by ["rows", "kind"] := ⟨_, _, U14, PySem.W.mg_of X G a14, U14.binds (ps := ["rows", "kind"]) fun _ _ _ _ _ _ us hl => match us, hl with | [_, _], _ => rfl⟩
  have U15 := fun_mk (st := s_divisor_of) l15 c15 k15
  have T15 : DefAt K mg "divisor_of" s_divisor_of ["one", "other"] := ⟨_, _, U15, PySem.W.mg_of X G a15, U15.binds (ps := ["one", "other"]) fun _ _ _ _ _ _ us hl => match us, hl with | [_, _], _ => rfl⟩
  have U16 := fun_mk (st := s_fraction_of) l16 c16 k16
  have T16 : DefAt K mg "fraction_of" s_fraction_of ["top", "below"] := ⟨_, _, U16, PySem.W.mg_of X G a16, U16.binds (ps := ["top", "below"]) fun _ _ _ _ _ _ us hl => match us, hl with | [_, _], _ => rfl⟩
  have U17 := fun_mk (st := s_is_number) l17 c17 k17
  have T17 : DefAt K mg "is_number" s_is_number ["thing", "least", "most"] := ⟨_, _, U17, PySem.W.mg_of X G a17, U17.binds (ps := ["thing", "least", "most"]) fun _ _ _ _ _ _ us hl => match us, hl with | [_, _, _], _ => rfl⟩
  have U18 := fun_mk (st := s_is_part) l18 c18 k18
  have T18 : DefAt K mg "is_part" s_is_part ["thing"] := ⟨_, _, U18, PySem.W.mg_of X G a18, U18.binds (ps := ["thing"]) fun _ _ _ _ _ _ us hl => match us, hl with | [_], _ => rfl⟩
  have U19 := fun_mk (st := s_is_rate) l19 c19 k19
  have T19 : DefAt K mg "is_rate" s_is_rate ["thing", "ahead", "is_last"] := ⟨_, _, U19, PySem.W.mg_of X G a19, U19.binds (ps := ["thing", "ahead", "is_last"]) fun _ _ _ _ _ _ us hl => match us, hl with | [_, _, _], _ => rfl⟩
  have U20 := fun_mk (st := s_are_rates) l20 c20 k20
  have T20 : DefAt K mg "are_rates" s_are_rates ["thing"] := ⟨_, _, U20, PySem.W.mg_of X G a20, U20.binds (ps := ["thing"]) fun _ _ _ _ _ _ us hl => match us, hl with | [_], _ => rfl⟩
  have U21 := fun_mk (st := s_is_name) l21 c21 k21
  have T21 : DefAt K mg "is_name" s_is_name ["thing"] := ⟨_, _, U21, PySem.W.mg_of X G a21, U21.binds (ps := ["thing"]) fun _ _ _ _ _ _ us hl => match us, hl with | [_], _ => rfl⟩
  have U22 := fun_mk (st := s_is_row) l22 c22 k22
  have T22 : DefAt K mg "is_row" s_is_row ["thing"] := ⟨_, _, U22, PySem.W.mg_of X G a22, U22.binds (ps := ["thing"]) fun _ _ _ _ _ _ us hl => match us, hl with | [_], _ => rfl⟩
  have U23 := fun_mk (st := s_is_rows) l23 c23 k23
  have T23 : DefAt K mg "is_rows" s_is_rows ["thing"] := ⟨_, _, U23, PySem.W.mg_of X G a23, U23.binds (ps := ["thing"]) fun _ _ _ _ _ _ us hl => match us, hl with | [_], _ => rfl⟩
  have U24 := fun_mk (st := s__law_whole) l24 c24 k24
  have T24 : DefAt K mg "_law_whole" s__law_whole ["_law_thing", "_law_least", "_law_most"] := ⟨_, _, U24, PySem.W.mg_of X G a24, U24.binds (ps := ["_law_thing", "_law_least", "_law_most"]) fun _ _ _ _ _ _ us hl => match us, hl with | [_, _, _], _ => rfl⟩
  have U25 := fun_mk (st := s__law_is_part) l25 c25 k25
  have T25 : DefAt K mg "_law_is_part" s__law_is_part ["_law_thing"] := ⟨_, _, U25, PySem.W.mg_of X G a25, U25.binds (ps := ["_law_thing"]) fun _ _ _ _ _ _ us hl => match us, hl with | [_], _ => rfl⟩
  have U26 := fun_mk (st := s__law_are_rates) l26 c26 k26
  have T26 : DefAt K mg "_law_are_rates" s__law_are_rates ["_law_thing"] := ⟨_, _, U26, PySem.W.mg_of X G a26, U26.binds (ps := ["_law_thing"]) fun _ _ _ _ _ _ us hl => match us, hl with | [_], _ => rfl⟩
  have U27 := fun_mk (st := s__law_is_row) l27 c27 k27
  have T27 : DefAt K mg "_law_is_row" s__law_is_row ["_law_thing"] := ⟨_, _, U27, PySem.W.mg_of X G a27, U27.binds (ps := ["_law_thing"]) fun _ _ _ _ _ _ us hl => match us, hl with | [_], _ => rfl⟩
  have U28 := fun_mk (st := s__law_due) l28 c28 k28
  have T28 : DefAt K mg "_law_due" s__law_due ["_law_thing"] := ⟨_, _, U28, PySem.W.mg_of X G a28, U28.binds (ps := ["_law_thing"]) fun _ _ _ _ _ _ us hl => match us, hl with | [_], _ => rfl⟩
  have U29 := fun_mk (st := s_law) l29 c29 k29
  refine ⟨PySem.W.fnOf "law" "law" (defArgs s_law) (defBody s_law) (defScope s_law) .none kV29 dc29 pm29 an29 cd29 ct29, fun s v => .of_eq rfl, fun base _ _ => ?_⟩
  have R0 : FnAt l.prog w K mg base CX0 1 "_law_begin" 1 sp__law_begin := ok__law_begin T0 B 
  have R1 : FnAt l.prog w K mg base CX0 1 "_law_take" 2 sp__law_take := ok__law_take T1 B 
  have R2 : FnAt l.prog w K mg base CX0 1 "_law_lowest" 2 sp__law_lowest := ok__law_lowest T2 B 
  have R3 : FnAt l.prog w K mg base CX0 2 "_law_part" 1 sp__law_part := ok__law_part T3 B R2 R1
  have R4 : FnAt l.prog w K mg base CX0 3 "_law_row" 3 sp__law_row := ok__law_row T4 B R1 R2 R3
  have R5 : FnAt l.prog w K mg base CX0 4 "_law_rows" 3 sp__law_rows := ok__law_rows T5 B R4 R1
  have R6 : FnAt l.prog w K mg base CX0 2 "_law_any_name" 1 sp__law_any_name := ok__law_any_name T6 B R1
  have R7 : FnAt l.prog w K mg base CX0 3 "_law_names" 2 sp__law_names := ok__law_names T7 B R6 R1
  have R8 : FnAt l.prog w K mg base CX0 5 "_law_some_rows" 1 sp__law_some_rows := ok__law_some_rows T8 B R5 R7 R1
  have R9 : FnAt l.prog w K mg base CX0 2 "_law_odd" 1 sp__law_odd := ok__law_odd T9 B R1
  have R10 : FnAt l.prog w K mg base CX0 2 "_law_signed" 2 sp__law_signed := ok__law_signed T10 B R1
  have R11 : FnAt l.prog w K mg base CX0 3 "_law_bent_rates" 2 sp__law_bent_rates := ok__law_bent_rates T11 B R1 R9
  have R12 : FnAt l.prog w K mg base CX0 4 "_law_bent_row" 2 sp__law_bent_row := ok__law_bent_row T12 B R1 R10 R11 R9
  have R13 : FnAt l.prog w K mg base CX0 5 "_law_bent" 2 sp__law_bent := ok__law_bent T13 B R1 R9 R12
  have R14 : FnAt l.prog w K mg base CX0 1 "rows_by" 2 sp_rows_by := ok_rows_by T14 B 
  have R15 : FnAt l.prog w K mg base CX0 1 "divisor_of" 2 sp_divisor_of := ok_divisor_of T15 B 
  have R16 : FnAt l.prog w K mg base CX0 2 "fraction_of" 2 sp_fraction_of := ok_fraction_of T16 B R15
  have R17 : FnAt l.prog w K mg base CX0 1 "is_number" 3 sp_is_number := ok_is_number T17 B 
  have R18 : FnAt l.prog w K mg base CX0 3 "is_part" 1 sp_is_part := ok_is_part T18 B R16 R17 (PySem.W.mg_of X G m0)
  have R19 : FnAt l.prog w K mg base CX0 4 "is_rate" 3 sp_is_rate := ok_is_rate T19 B R17 R18 (PySem.W.mg_of X G m1)
  have R20 : FnAt l.prog w K mg base CX0 5 "are_rates" 1 sp_are_rates := ok_are_rates T20 B R19
  have R21 : FnAt l.prog w K mg base CX0 1 "is_name" 1 sp_is_name := ok_is_name T21 B  (PySem.W.mg_of X G m2)
  have R22 : FnAt l.prog w K mg base CX0 6 "is_row" 1 sp_is_row := ok_is_row T22 B R18 R20 R17 R21 (PySem.W.mg_of X G m3)
  have R23 : FnAt l.prog w K mg base CX0 7 "is_rows" 1 sp_is_rows := ok_is_rows T23 B R14 R22 (PySem.W.mg_of X G m4) (PySem.W.mg_of X G m5)
  have R24 : FnAt l.prog w K mg base CX0 1 "_law_whole" 3 sp__law_whole := ok__law_whole T24 B 
  have R25 : FnAt l.prog w K mg base CX0 2 "_law_is_part" 1 sp__law_is_part := ok__law_is_part T25 B R24 R2
  have R26 : FnAt l.prog w K mg base CX0 3 "_law_are_rates" 1 sp__law_are_rates := ok__law_are_rates T26 B R25 R24
  have R27 : FnAt l.prog w K mg base CX0 4 "_law_is_row" 1 sp__law_is_row := ok__law_is_row T27 B R24 R26 R25
  have R28 : FnAt l.prog w K mg base CX0 5 "_law_due" 1 sp__law_due := ok__law_due T28 B R27
  exact ok_law U29 B R0 R8 R13 R23 R28
end LW

open PySem PySem.W PyProof.Rows
set_option maxHeartbeats 0 in
theorem PySem.Challenge.cw_royaltree_k06_what_rows_are_holds : PySem.Challenge.rw_royaltree_k06_what_rows_are.Holds := by
  w_on; o_law; k_head; (case hw => w_witness2)
  k_fill
  refine DL.walkG (l := PySem.Challenge.rw_royaltree_k06_what_rows_are) (n := 63) (k := 8) (x := "_law_script") rfl rfl ⟨rfl, by decide, by decide⟩ (fun w h Y => PySem.W.kIn_of Y) ?F (by decide)
  case F =>
    intro w mg fa h KX G hmg
    refine' LW.all_mk KX G hmg ?a0 ?l0 ?c0 ?k0 ?a1 ?l1 ?c1 ?k1 ?a2 ?l2 ?c2 ?k2 ?a3 ?l3 ?c3 ?k3 ?a4 ?l4 ?c4 ?k4 ?a5 ?l5 ?c5 ?k5 ?a6 ?l6 ?c6 ?k6 ?a7 ?l7 ?c7 ?k7 ?a8 ?l8 ?c8 ?k8 ?a9 ?l9 ?c9 ?k9 ?a10 ?l10 ?c10 ?k10 ?a11 ?l11 ?c11 ?k11 ?a12 ?l12 ?c12 ?k12 ?a13 ?l13 ?c13 ?k13 ?a14 ?l14 ?c14 ?k14 ?a15 ?l15 ?c15 ?k15 ?a16 ?l16 ?c16 ?k16 ?a17 ?l17 ?c17 ?k17 ?a18 ?l18 ?c18 ?k18 ?a19 ?l19 ?c19 ?k19 ?a20 ?l20 ?c20 ?k20 ?a21 ?l21 ?c21 ?k21 ?a22 ?l22 ?c22 ?k22 ?a23 ?l23 ?c23 ?k23 ?a24 ?l24 ?c24 ?k24 ?a25 ?l25 ?c25 ?k25 ?a26 ?l26 ?c26 ?k26 ?a27 ?l27 ?c27 ?k27 ?a28 ?l28 ?c28 ?k28 ?a29 ?l29 ?c29 ?k29 ?z0 ?z1 ?z2 ?z3 ?z4 ?z5 ?z6 ?z7 ?z8 ?z9 ?z10 ?z11 ?z12 ?z13 ?z14 ?z15 ?z16 ?z17 ?m0 ?m1 ?m2 ?m3 ?m4 ?m5
    (case a0 => k_is); (case l0 => k_is); (case c0 => k_is); (case k0 => k_is); (case a1 => k_is); (case l1 => k_is); (case c1 => k_is); (case k1 => k_is); (case a2 => k_is); (case l2 => k_is); (case c2 => k_is); (case k2 => k_is); (case a3 => k_is); (case l3 => k_is); (case c3 => k_is); (case k3 => k_is); (case a4 => k_is); (case l4 => k_is); (case c4 => k_is); (case k4 => k_is); (case a5 => k_is); (case l5 => k_is); (case c5 => k_is); (case k5 => k_is); (case a6 => k_is); (case l6 => k_is); (case c6 => k_is); (case k6 => k_is); (case a7 => k_is); (case l7 => k_is); (case c7 => k_is); (case k7 => k_is); (case a8 => k_is); (case l8 => k_is); (case c8 => k_is); (case k8 => k_is); (case a9 => k_is); (case l9 => k_is); (case c9 => k_is); (case k9 => k_is); (case a10 => k_is); (case l10 => k_is); (case c10 => k_is); (case k10 => k_is); (case a11 => k_is); (case l11 => k_is); (case c11 => k_is); (case k11 => k_is); (case a12 => k_is); (case l12 => k_is); (case c12 => k_is); (case k12 => k_is); (case a13 => k_is); (case l13 => k_is); (case c13 => k_is); (case k13 => k_is); (case a14 => k_is); (case l14 => k_is); (case c14 => k_is); (case k14 => k_is); (case a15 => k_is); (case l15 => k_is); (case c15 => k_is); (case k15 => k_is); (case a16 => k_is); (case l16 => k_is); (case c16 => k_is); (case k16 => k_is); (case a17 => k_is); (case l17 => k_is); (case c17 => k_is); (case k17 => k_is); (case a18 => k_is); (case l18 => k_is); (case c18 => k_is); (case k18 => k_is); (case a19 => k_is); (case l19 => k_is); (case c19 => k_is); (case k19 => k_is); (case a20 => k_is); (case l20 => k_is); (case c20 => k_is); (case k20 => k_is); (case a21 => k_is); (case l21 => k_is); (case c21 => k_is); (case k21 => k_is); (case a22 => k_is); (case l22 => k_is); (case c22 => k_is); (case k22 => k_is); (case a23 => k_is); (case l23 => k_is); (case c23 => k_is); (case k23 => k_is); (case a24 => k_is); (case l24 => k_is); (case c24 => k_is); (case k24 => k_is); (case a25 => k_is); (case l25 => k_is); (case c25 => k_is); (case k25 => k_is); (case a26 => k_is); (case l26 => k_is); (case c26 => k_is); (case k26 => k_is); (case a27 => k_is); (case l27 => k_is); (case c27 => k_is); (case k27 => k_is); (case a28 => k_is); (case l28 => k_is); (case c28 => k_is); (case k28 => k_is); (case a29 => k_is); (case l29 => k_is); (case c29 => k_is); (case k29 => k_is); (case z0 => k_is); (case z1 => k_is); (case z2 => k_is); (case z3 => k_is); (case z4 => k_is); (case z5 => k_is); (case z6 => k_is); (case z7 => k_is); (case z8 => k_is); (case z9 => k_is); (case z10 => k_is); (case z11 => k_is); (case z12 => k_is); (case z13 => k_is); (case z14 => k_is); (case z15 => k_is); (case z16 => k_is); (case z17 => k_is); (case m0 => k_is); (case m1 => k_is); (case m2 => k_is); (case m3 => k_is); (case m4 => k_is); (case m5 => k_is)


