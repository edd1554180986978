import PyProof.Rows.All
import Wide.All
import OpenK.AllK
import Wide.FinOn
import HandS.Exc
import HandS.ExcOwn
import HandS.ExcValue
import HandS.WordsExc
import HandS.IsInst
import HandS.ExcIs
import HandS.ForMost
import HandS.Wide
import HandS.WideBits
import HandS.Lambda
import HandS.Zip
import HandS.Style
import HandS.TupAny
import HandS.List
import HandS.Text
import HandS.SetFor
import HandS.Dict
import HandS.SetKeys
import HandS.Small
import HandS.More
import KE.KLam
import KE.SortKeyHeap
import KE.SortData
import HandS.Iter
import KE.KNestM
import HandS.EndTab
import HandS.ListItems
import HandS.Deep
import KE.DatumOrd
import HandS.Strs
import KE.KDictPairs
import PyProof.FactsAll.dict_3
import KE.KDictList
import KE.KEqDict
import HandS.DictComp
import KE.GoesMore
import KE.KIntText
import PyProof.Rows.StrOr
import PyProof.StrOps2
import HandS.Codes
import HandS.Steps
import HandS.Sort
import HandS.HeadHook2
import KE.OsRunLaw
import PySem.Challenge.RW_royaltree_k11_whole_units_parted
set_option Elab.async false
set_option linter.all false
set_option maxRecDepth 100000
namespace L2
open PySem PySem.Spec PyProof.Rows
def ExcAt (a : Addr) (cls : Value) (dx : Option Addr) : HO := .ext fun h => ∃ o, h.get? a = some o ∧ Zc cls dx o ∧ ∃ vs, o.data = .fields vs
section
variable {X : Cx} {pins : List (Addr × Obj)} {σ σ' : St} {H H' : Hp} {s sI : Shared}
end
def wNote (K : PySem.W.Frag) (c : Value) (i : Nat) (ts : Addr → Value → Option Addr → TS) (Wout : WX) (D : Ends) : WX := fun cls d σ H =>
  ∃ b, PySem.W.exmOne K cls c = some b ∧ (b = true → ∀ a, H a = none → ts a cls d { nx := fun σ' H' => H' a = none → D.nx (σ'.set i none) (upd H' a (ExcAt a cls d)), rt := fun _ _ => False } (σ.set i (some (.ref a))) H) ∧ (b = false → Wout cls d σ H)
section
variable {X : Cx} {x n : Str} {c : Value} {i : Nat} {body suite : List Stmt} {b₀ : Stmt} {np pos pos' : Pos} {tb : WX → TS} {ts : Addr → Value → Option Addr → TS} {Wout : WX}
end
def rIsiE (K : PySem.W.Frag) : List V → Hp → VK → Prop := fun xs H Q => ∃ (a D : Addr) (c : V) (u : Value) (b : Bool), xs = [.ref a, c] ∧ ExcC K D ∧ H a = some (ExcAt a (.ref D) none) ∧ ClsV c u ∧ PySem.W.kitOne K (.ref D) u = some b ∧ Q (.bl b) H
def rIsiTE (K : PySem.W.Frag) : List V → Hp → VK → Prop := fun xs H Q => ∃ (a D tp : Addr) (cs : List V) (us : List Value) (b : Bool), xs = [.ref a, .ref tp] ∧ ExcC K D ∧ H a = some (ExcAt a (.ref D) none) ∧ SqT K H tp cs ∧ Paired ClsV cs us ∧ PySem.W.kitAny K (.ref D) us = some b ∧ Q (.bl b) H
section
variable {X : Cx} {pins : List (Addr × Obj)} {σ : St} {H : Hp} {s : Shared}
end
end L2

namespace DL
open PySem PySem.Spec PyProof.Rows L2

inductive D where
  | non | bl (b : Bool) | int (i : Int) | str (x : Str)
  | lst (xs : List D) | tup (xs : List D)
  | rf (i : Nat) | st | ob (v : V) | scr (ns : List Int)

inductive Cell where
  | dead | lst (xs : List D) | dk (kvs : List (Key × D)) | ins (C : Addr) (fs : List (Str × D))
  /-- a caught exception of the class at C, without fields -/
  | exc (C : Addr)
  /-- a caught exception of the class at C, with fields -/
  | exf (C : Addr) (fs : List (Str × D))
  /-- the table at P of code objects of the name q -/
  | tbl (P : Addr) (q : Str)
  /-- a dict that is walked -/
  | lk (o : Obj) (ks : List (Key × V)) (kvs : List (Key × D))

structure Wd where
  M : List Cell
  n : Option Nat

structure Gh where
  al : List Addr
  st : Option (Addr × Addr)
  fr : List (Addr × HO)

def isOb : V → Bool
  | .ty _ => true
  | .ref _ => true
  | _ => false

mutual
inductive Rep (K : PySem.W.Frag) (G : Gh) (S : Hp) : V → D → Prop
  | non : Rep K G S .non .non
  | bl (b : Bool) : Rep K G S (.bl b) (.bl b)
  | int (i : Int) : Rep K G S (.int i) (.int i)
  | str (x : Str) : Rep K G S (.str x) (.str x)
  | lst {a : Addr} {xs : List V} {ds : List D} : S a = some (.lst xs) → RepAll K G S xs ds → Rep K G S (.ref a) (.lst ds)
  | tup {a : Addr} {xs : List V} {ds : List D} : SqT K S a xs → RepAll K G S xs ds → Rep K G S (.ref a) (.tup ds)
  | rf {a : Addr} {i : Nat} : G.al[i]? = some a → Rep K G S (.ref a) (.rf i)
  | st {a c : Addr} : G.st = some (a, c) → Rep K G S (.ref a) .st
  | ob {v : V} : isOb v = true → Rep K G S v (.ob v)
  | scr {a : Addr} {ns : List Int} : SqL K S a (ns.map V.int) → Rep K G S (.ref a) (.scr ns)
inductive RepAll (K : PySem.W.Frag) (G : Gh) (S : Hp) : List V → List D → Prop
  | nil : RepAll K G S [] []
  | cons {v : V} {vs : List V} {d : D} {ds : List D} : Rep K G S v d → RepAll K G S vs ds → RepAll K G S (v :: vs) (d :: ds)
end

theorem sqT_up {K : PySem.W.Frag} {H H' : Hp} (e : ∀ b o, H b = some o → H' b = some o) {a : Addr} {xs : List V} (h : SqT K H a xs) : SqT K H' a xs := by
  unfold SqT at h ⊢
  rcases h with (h | ⟨o, h⟩) | h
  · exact .inl (.inl (e _ _ h))
  · exact .inl (.inr ⟨o, e _ _ h⟩)
  · exact .inr h
structure Ext (G : Gh) (S : Hp) (G' : Gh) (S' : Hp) : Prop where
  al : ∃ r, G'.al = G.al ++ r
  st : ∀ p, G.st = some p → G'.st = some p
  fr : ∀ p ∈ G.fr, p ∈ G'.fr
  same : Same S S'
theorem Ext.refl (G : Gh) (S : Hp) : Ext G S G S := ⟨⟨[], by simp⟩, fun _ h => h, fun _ h => h, Same.refl S⟩
theorem Ext.trans {G G1 G2 : Gh} {S S1 S2 : Hp} (a : Ext G S G1 S1) (b : Ext G1 S1 G2 S2) : Ext G S G2 S2 := by
  obtain ⟨r1, e1⟩ := a.al
  obtain ⟨r2, e2⟩ := b.al
  exact ⟨⟨r1 ++ r2, by rw [e2, e1, List.append_assoc]⟩, fun p h => b.st p (a.st p h), fun p h => b.fr p (a.fr p h), a.same.trans b.same⟩
theorem Ext.alGet {G G' : Gh} {S S' : Hp} (x : Ext G S G' S') {i : Nat} {a : Addr} (h : G.al[i]? = some a) : G'.al[i]? = some a := by
  obtain ⟨r, e⟩ := x.al
  rw [e, List.getElem?_append_left (List.getElem?_eq_some_iff.mp h).1]
  exact h

section
variable {K : PySem.W.Frag} {G G' : Gh} {S S' : Hp}
mutual
theorem Rep.mono (x : Ext G S G' S') : ∀ {v : V} {d : D}, Rep K G S v d → Rep K G' S' v d
  | _, _, .non => .non
  | _, _, .bl b => .bl b
  | _, _, .int i => .int i
  | _, _, .str i => .str i
  | _, _, .lst h r => .lst (x.same _ _ h) (RepAll.mono x r)
  | _, _, .tup h r => .tup (sqT_up x.same h) (RepAll.mono x r)
  | _, _, .rf h => .rf (x.alGet h)
  | _, _, .st h => .st (x.st _ h)
  | _, _, .ob h => .ob h
  | _, _, .scr h => .scr (x.same.seq h)
theorem RepAll.mono (x : Ext G S G' S') : ∀ {v : List V} {d : List D}, RepAll K G S v d → RepAll K G' S' v d
  | _, _, .nil => .nil
  | _, _, .cons h r => .cons (Rep.mono x h) (RepAll.mono x r)
end
theorem RepAll.length : ∀ {vs : List V} {ds : List D}, RepAll K G S vs ds → vs.length = ds.length
  | _, _, .nil => rfl
  | _, _, .cons _ r => congrArg (· + 1) (RepAll.length r)
theorem RepAll.get : ∀ {vs : List V} {ds : List D} {i : Nat} {d : D}, RepAll K G S vs ds → ds[i]? = some d → ∃ v, vs[i]? = some v ∧ Rep K G S v d
  | _, _, _, _, .nil, h => by simp at h
  | _, _, 0, _, .cons h _, e => by
    simp at e
    subst e
    exact ⟨_, rfl, h⟩
  | _, _, i + 1, d, .cons _ r, e => by
    obtain ⟨v, h1, h2⟩ := RepAll.get (i := i) (d := d) r (by simpa using e)
    exact ⟨v, by simpa using h1, h2⟩
theorem RepAll.append : ∀ {vs ws : List V} {ds es : List D}, RepAll K G S vs ds → RepAll K G S ws es → RepAll K G S (vs ++ ws) (ds ++ es)
  | _, _, _, _, .nil, h => h
  | _, _, _, _, .cons h r, q => .cons h (RepAll.append r q)
theorem RepAll.set {v : V} {d : D} (h : Rep K G S v d) : ∀ {vs : List V} {ds : List D} (i : Nat), RepAll K G S vs ds → RepAll K G S (vs.set i v) (ds.set i d)
  | _, _, _, .nil => .nil
  | _, _, 0, .cons _ r => .cons h r
  | _, _, i + 1, .cons q r => .cons q (RepAll.set h i r)
theorem RepAll.drop : ∀ {vs : List V} {ds : List D} (i : Nat), RepAll K G S vs ds → RepAll K G S (vs.drop i) (ds.drop i)
  | _, _, 0, h => h
  | _, _, _ + 1, .nil => .nil
  | _, _, i + 1, .cons _ r => RepAll.drop i r
theorem RepAll.take : ∀ {vs : List V} {ds : List D} (i : Nat), RepAll K G S vs ds → RepAll K G S (vs.take i) (ds.take i)
  | _, _, 0, _ => .nil
  | _, _, _ + 1, .nil => .nil
  | _, _, i + 1, .cons h r => .cons h (RepAll.take i r)
theorem RepAll.eraseIdx : ∀ {vs : List V} {ds : List D} (i : Nat), RepAll K G S vs ds → RepAll K G S (vs.eraseIdx i) (ds.eraseIdx i)
  | _, _, _, .nil => .nil
  | _, _, 0, .cons _ r => r
  | _, _, i + 1, .cons h r => .cons h (RepAll.eraseIdx i r)
theorem RepAll.reverse {vs : List V} {ds : List D} (h : RepAll K G S vs ds) : RepAll K G S vs.reverse ds.reverse := by
  induction h using RepAll.rec (motive_1 := fun _ _ _ => True) with
  | nil => exact .nil
  | cons h r _ ih =>
    rw [List.reverse_cons, List.reverse_cons]
    exact RepAll.append ih (.cons h .nil)
  | _ => trivial
end

section
variable {K : PySem.W.Frag} {S : Hp} {al : List Addr} {st : Option (Addr × Addr)} {f f' : List (Addr × HO)}
mutual
theorem Rep.refr : ∀ {v : V} {d : D}, Rep K ⟨al, st, f⟩ S v d → Rep K ⟨al, st, f'⟩ S v d
  | _, _, .non => .non
  | _, _, .bl b => .bl b
  | _, _, .int i => .int i
  | _, _, .str i => .str i
  | _, _, .lst h r => .lst h (RepAll.refr r)
  | _, _, .tup h r => .tup h (RepAll.refr r)
  | _, _, .rf h => .rf h
  | _, _, .st h => .st h
  | _, _, .ob h => .ob h
  | _, _, .scr h => .scr h
theorem RepAll.refr : ∀ {v : List V} {d : List D}, RepAll K ⟨al, st, f⟩ S v d → RepAll K ⟨al, st, f'⟩ S v d
  | _, _, .nil => .nil
  | _, _, .cons h r => .cons (Rep.refr h) (RepAll.refr r)
end
end

def FsRep (K : PySem.W.Frag) (G : Gh) (S : Hp) {κ : Type} : List (κ × V) → List (κ × D) → Prop := Paired fun p q => p.1 = q.1 ∧ Rep K G S p.2 q.2
def CellOk (K : PySem.W.Frag) (G : Gh) (S H : Hp) (a : Addr) : Cell → Prop
  | .dead => H a ≠ none
  | .lst ds => S a = none ∧ ∃ xs, H a = some (.lst xs) ∧ RepAll K G S xs ds
  | .dk kvs => S a = none ∧ ∃ ks, H a = some (.dK ks) ∧ FsRep K G S ks kvs
  | .ins C fs => S a = none ∧ ∃ dx gs, H a = some (.ins C dx gs) ∧ FsRep K G S gs fs
  | .exc C => S a = none ∧ H a = some (ExcAt a (.ref C) none)
  | .exf C fs => S a = none ∧ ∃ dx gs, H a = some (ExcAt a (.ref C) (some dx)) ∧ S dx = some (.xd gs) ∧ FsRep K G S gs fs
  | .tbl P q => a = P ∧ S a = none ∧ ∃ ps : Array Value, H a = some (.tbl ps) ∧ TriplesOk ps.toList ∧ ∀ (pos : Pos) (cv : Value), codeAmong pos ps.toList = some cv → ∃ c, cv = .ref c ∧ S c = some (LamX.CodeO c q)
  | .lk o ks kvs => S a = none ∧ H a = some (.frz o (.dK ks)) ∧ FsRep K G S ks kvs
theorem CellOk.some {K : PySem.W.Frag} {G : Gh} {S H : Hp} {a : Addr} {c : Cell} (h : CellOk K G S H a c) : H a ≠ none := by
  cases c with
  | dead => exact h
  | lst ds => obtain ⟨_, xs, e, _⟩ := h; rw [e]; exact fun z => nomatch z
  | dk ds => obtain ⟨_, xs, e, _⟩ := h; rw [e]; exact fun z => nomatch z
  | ins C ds => obtain ⟨_, xs, _, e, _⟩ := h; rw [e]; exact fun z => nomatch z
  | exc C => rw [h.2]; exact fun z => nomatch z
  | exf C fs => obtain ⟨_, dx, gs, e, _⟩ := h; rw [e]; exact fun z => nomatch z
  | tbl P q => obtain ⟨_, _, ps, e, _⟩ := h; rw [e]; exact fun z => nomatch z
  | lk o ks kvs => rw [h.2.1]; exact fun z => nomatch z

def StOk (G : Gh) (S : Hp) (n : Option Nat) (H : Hp) : Prop := (n = none → G.st = none) ∧ ∀ a c, G.st = some (a, c) → S a = none ∧ S c = none ∧ a ≠ c ∧ a ∉ G.al ∧ c ∉ G.al ∧ (∀ p ∈ G.fr, p.1 ≠ a ∧ p.1 ≠ c) ∧
  ∃ (cells : List Int) (turn : Int), H a = some (.dK [(.inr "cells", .ref c), (.inr "turn", .int turn)]) ∧ H c = some (.lst (cells.map V.int)) ∧ cells ≠ [] ∧ cells.length ≤ 63 ∧ 0 ≤ turn ∧ turn + (n.getD 0 : Nat) ≤ 1000000000

structure HR (K : PySem.W.Frag) (G : Gh) (S : Hp) (w : Wd) (H : Hp) : Prop where
  same : Same S H
  len : G.al.length = w.M.length
  nod : G.al.Nodup
  cell : ∀ (i : Nat) (a : Addr) (c : Cell), G.al[i]? = some a → w.M[i]? = some c → CellOk K G S H a c
  st : StOk G S w.n H
  fr : ∀ p ∈ G.fr, S p.1 = none ∧ p.1 ∉ G.al ∧ H p.1 = some p.2

end DL

namespace DL
open PySem PySem.Spec PyProof.Rows L2
section
variable {K : PySem.W.Frag} {G G' : Gh} {S S' H : Hp} {w : Wd}

theorem HR.alSome (h : HR K G S w H) {a : Addr} (ha : a ∈ G.al) : H a ≠ none := by
  obtain ⟨i, hi⟩ := List.getElem?_of_mem ha
  have l : i < w.M.length := by
    rw [← h.len]
    exact (List.getElem?_eq_some_iff.mp hi).1
  exact (h.cell i a _ hi (List.getElem?_eq_getElem l)).some
theorem HR.freshAl (h : HR K G S w H) {p : Addr} (hp : H p = none) : p ∉ G.al := fun z => h.alSome z hp
theorem HR.freshS (h : HR K G S w H) {p : Addr} (hp : H p = none) : S p = none := h.same.free hp
theorem HR.freshSt (h : HR K G S w H) {p : Addr} (hp : H p = none) {a c : Addr} (e : G.st = some (a, c)) : p ≠ a ∧ p ≠ c := by
  obtain ⟨_, _, _, _, _, _, cells, turn, h1, h2, _⟩ := h.st.2 a c e
  exact ⟨fun z => (by rw [← z, hp] at h1; cases h1), fun z => (by rw [← z, hp] at h2; cases h2)⟩
theorem HR.freshFr (h : HR K G S w H) {p : Addr} (hp : H p = none) : ∀ q ∈ G.fr, q.1 ≠ p := fun q hq z => by
  have e := (h.fr q hq).2.2
  rw [z, hp] at e
  cases e
theorem CellOk.mono {a : Addr} {c : Cell} {H H' : Hp} (x : Ext G S G' S') (h : CellOk K G S H a c) (e : H' a = H a) (n : S' a = none ∨ c = .dead) : CellOk K G' S' H' a c := by
  cases c with
  | dead =>
    show H' a ≠ none
    rw [e]
    exact h
  | exc C => exact ⟨n.elim id (fun z => nomatch z), by rw [e]; exact h.2⟩
  | exf C fs =>
    obtain ⟨_, dx, gs, h1, h2, r⟩ := h
    exact ⟨n.elim id (fun z => nomatch z), dx, gs, by rw [e]; exact h1, x.same _ _ h2, Paired.mapP r fun p q z => ⟨z.1, z.2.mono x⟩⟩
  | tbl P q =>
    obtain ⟨e0, _, ps, e1, e2, e3⟩ := h
    refine ⟨e0, n.elim id (fun z => nomatch z), ps, by rw [e]; exact e1, e2, fun pos cv hc => ?_⟩
    obtain ⟨c, r1, r2⟩ := e3 pos cv hc
    exact ⟨c, r1, x.same _ _ r2⟩
  | lk o ks kvs =>
    obtain ⟨_, e1, r⟩ := h
    exact ⟨n.elim id (fun z => nomatch z), by rw [e]; exact e1, Paired.mapP r fun p q z => ⟨z.1, z.2.mono x⟩⟩
  | lst ds =>
    obtain ⟨_, xs, e1, r⟩ := h
    exact ⟨n.elim id (fun z => nomatch z), xs, by rw [e]; exact e1, r.mono x⟩
  | dk ds =>
    obtain ⟨_, xs, e1, r⟩ := h
    exact ⟨n.elim id (fun z => nomatch z), xs, by rw [e]; exact e1, Paired.mapP r fun p q z => ⟨z.1, z.2.mono x⟩⟩
  | ins C ds =>
    obtain ⟨_, dx, xs, e1, r⟩ := h
    exact ⟨n.elim id (fun z => nomatch z), dx, xs, by rw [e]; exact e1, Paired.mapP r fun p q z => ⟨z.1, z.2.mono x⟩⟩
theorem CellOk.sNone {a : Addr} {c : Cell} {H : Hp} (h : CellOk K G S H a c) : S a = none ∨ c = .dead := by
  cases c with
  | dead => exact .inr rfl
  | exc C => exact .inl h.1
  | exf C fs => exact .inl h.1
  | tbl P q => exact .inl h.2.1
  | lk o ks kvs => exact .inl h.1
  | lst ds => exact .inl h.1
  | dk ds => exact .inl h.1
  | ins C ds => exact .inl h.1

theorem HR.newS (h : HR K G S w H) {p : Addr} (hp : H p = none) (o : HO) : HR K G (upd S p o) w (upd H p o) ∧ Ext G S G (upd S p o) := by
  have sp := h.freshS hp
  have x : Ext G S G (upd S p o) := ⟨⟨[], by simp⟩, fun _ z => z, fun _ z => z, fun b u e => by rw [upd_ne (ne_of_none e sp)]; exact e⟩
  refine ⟨⟨fun b u e => ?_, h.len, h.nod, fun i a c e1 e2 => ?_, ⟨h.st.1, fun a c e => ?_⟩, fun q hq => ?_⟩, x⟩
  · by_cases hb : b = p
    · subst hb
      rw [upd_same] at e ⊢
      exact e
    · rw [upd_ne hb] at e ⊢
      exact h.same _ _ e
  · have ne : a ≠ p := fun z => h.freshAl hp (z ▸ List.mem_of_getElem? e1)
    have q := h.cell i a c e1 e2
    exact q.mono x (upd_ne ne) (by rw [upd_ne ne]; exact q.sNone)
  · obtain ⟨n1, n2⟩ := h.freshSt hp e
    obtain ⟨z1, z2, z3, z4, z5, z6, cells, turn, z7, z8, z9⟩ := h.st.2 a c e
    exact ⟨by rw [upd_ne n1.symm]; exact z1, by rw [upd_ne n2.symm]; exact z2, z3, z4, z5, z6, cells, turn, by rw [upd_ne n1.symm]; exact z7, by rw [upd_ne n2.symm]; exact z8, z9⟩
  · obtain ⟨z1, z2, z3⟩ := h.fr q hq
    have ne := h.freshFr hp q hq
    exact ⟨by rw [upd_ne ne]; exact z1, z2, by rw [upd_ne ne]; exact z3⟩

theorem HR.newC (h : HR K G S w H) {p : Addr} (hp : H p = none) (o : HO) (c : Cell) (hc : CellOk K ⟨G.al ++ [p], G.st, G.fr⟩ S (upd H p o) p c) :
    HR K ⟨G.al ++ [p], G.st, G.fr⟩ S ⟨w.M ++ [c], w.n⟩ (upd H p o) ∧ Ext G S ⟨G.al ++ [p], G.st, G.fr⟩ S := by
  have sp := h.freshS hp
  have x : Ext G S ⟨G.al ++ [p], G.st, G.fr⟩ S := ⟨⟨[p], rfl⟩, fun _ z => z, fun _ z => z, Same.refl S⟩
  refine ⟨⟨fun b u e => ?_, by simp [h.len], ?_, fun i a c' e1 e2 => ?_, ⟨h.st.1, fun a c' e => ?_⟩, fun q hq => ?_⟩, x⟩
  · rw [upd_ne (ne_of_none e sp)]
    exact h.same _ _ e
  · show (G.al ++ [p]).Nodup
    rw [List.nodup_append]
    refine ⟨h.nod, by simp, fun a ha b hb z => ?_⟩
    rw [List.mem_singleton] at hb
    exact h.freshAl hp (by rw [← hb, ← z]; exact ha)
  · have e1 : (G.al ++ [p])[i]? = some a := e1
    have e2 : (w.M ++ [c])[i]? = some c' := e2
    by_cases hi : i < G.al.length
    · rw [List.getElem?_append_left hi] at e1
      rw [List.getElem?_append_left (by rw [← h.len]; exact hi)] at e2
      have ne : a ≠ p := fun z => h.freshAl hp (z ▸ List.mem_of_getElem? e1)
      have q := h.cell i a c' e1 e2
      exact q.mono x (upd_ne ne) q.sNone
    · have hi2 : G.al.length ≤ i := Nat.le_of_not_lt hi
      rw [List.getElem?_append_right hi2] at e1
      rw [List.getElem?_append_right (by rw [← h.len]; exact hi2), ← h.len] at e2
      have l := (List.getElem?_eq_some_iff.mp e1).1
      have l0 : i - G.al.length = 0 := by
        rw [List.length_singleton] at l
        omega
      rw [l0] at e1 e2
      have e1' : p = a := by simpa using e1
      have e2' : c = c' := by simpa using e2
      subst e1'
      subst e2'
      exact hc
  · obtain ⟨n1, n2⟩ := h.freshSt hp e
    obtain ⟨z1, z2, z3, z4, z5, z6, cells, turn, z7, z8, z9⟩ := h.st.2 a c' e
    refine ⟨z1, z2, z3, fun hm => ?_, fun hm => ?_, z6, cells, turn, by rw [upd_ne n1.symm]; exact z7, by rw [upd_ne n2.symm]; exact z8, z9⟩
    · rcases List.mem_append.mp hm with hm | hm
      · exact z4 hm
      · exact n1 (List.mem_singleton.mp hm).symm
    · rcases List.mem_append.mp hm with hm | hm
      · exact z5 hm
      · exact n2 (List.mem_singleton.mp hm).symm
  · obtain ⟨z1, z2, z3⟩ := h.fr q hq
    have ne := h.freshFr hp q hq
    refine ⟨z1, fun hm => ?_, by rw [upd_ne ne]; exact z3⟩
    rcases List.mem_append.mp hm with hm | hm
    · exact z2 hm
    · exact ne (List.mem_singleton.mp hm)

theorem HR.setC (h : HR K G S w H) {i : Nat} {a : Addr} {c0 c : Cell} {o : HO} (e1 : G.al[i]? = some a) (e2 : w.M[i]? = some c0) (hs : S a = none) (hc : CellOk K G S (upd H a o) a c) : HR K G S ⟨w.M.set i c, w.n⟩ (upd H a o) := by
  have il : i < w.M.length := (List.getElem?_eq_some_iff.mp e2).1
  refine ⟨fun b u e => ?_, by simp [h.len], h.nod, fun j b c' f1 f2 => ?_, ⟨h.st.1, fun b c' e => ?_⟩, fun q hq => ?_⟩
  · rw [upd_ne (ne_of_none e hs)]
    exact h.same _ _ e
  · have f2 : (w.M.set i c)[j]? = some c' := f2
    by_cases hj : j = i
    · subst hj
      rw [List.getElem?_set_self il] at f2
      cases f2
      rw [e1] at f1
      cases f1
      exact hc
    · rw [List.getElem?_set_ne (Ne.symm hj)] at f2
      have ne : b ≠ a := fun z => by
        subst z
        exact hj ((List.getElem?_inj (List.getElem?_eq_some_iff.mp f1).1 h.nod).mp (f1.trans e1.symm))
      have q := h.cell j b c' f1 f2
      exact q.mono (Ext.refl _ _) (upd_ne ne) q.sNone
  · obtain ⟨z1, z2, z3, z4, z5, z6, cells, turn, z7, z8, z9⟩ := h.st.2 b c' e
    have n1 : b ≠ a := fun z => z4 (z ▸ List.mem_of_getElem? e1)
    have n2 : c' ≠ a := fun z => z5 (z ▸ List.mem_of_getElem? e1)
    exact ⟨z1, z2, z3, z4, z5, z6, cells, turn, by rw [upd_ne n1]; exact z7, by rw [upd_ne n2]; exact z8, z9⟩
  · obtain ⟨z1, z2, z3⟩ := h.fr q hq
    have ne : q.1 ≠ a := fun z => z2 (z ▸ List.mem_of_getElem? e1)
    exact ⟨z1, z2, by rw [upd_ne ne]; exact z3⟩

theorem HR.push (h : HR K G S w H) {p : Addr} {o : HO} (hp : H p = none) : HR K ⟨G.al, G.st, (p, o) :: G.fr⟩ S w (upd H p o) ∧ Ext G S ⟨G.al, G.st, (p, o) :: G.fr⟩ S := by
  have sp := h.freshS hp
  have x : Ext G S ⟨G.al, G.st, (p, o) :: G.fr⟩ S := ⟨⟨[], by simp⟩, fun _ z => z, fun _ z => List.mem_cons_of_mem _ z, Same.refl S⟩
  refine ⟨⟨fun b u e => ?_, h.len, h.nod, fun i a c e1 e2 => ?_, ⟨h.st.1, fun a c e => ?_⟩, fun q hq => ?_⟩, x⟩
  · rw [upd_ne (ne_of_none e sp)]
    exact h.same _ _ e
  · have ne : a ≠ p := fun z => h.freshAl hp (z ▸ List.mem_of_getElem? e1)
    have q := h.cell i a c e1 e2
    exact q.mono x (upd_ne ne) q.sNone
  · obtain ⟨n1, n2⟩ := h.freshSt hp e
    obtain ⟨z1, z2, z3, z4, z5, z6, cells, turn, z7, z8, z9⟩ := h.st.2 a c e
    refine ⟨z1, z2, z3, z4, z5, fun q hq => ?_, cells, turn, by rw [upd_ne n1.symm]; exact z7, by rw [upd_ne n2.symm]; exact z8, z9⟩
    rcases List.mem_cons.mp hq with rfl | hq
    · exact ⟨n1, n2⟩
    · exact z6 q hq
  · rcases List.mem_cons.mp hq with rfl | hq
    · exact ⟨sp, h.freshAl hp, upd_same⟩
    · obtain ⟨z1, z2, z3⟩ := h.fr q hq
      have ne := h.freshFr hp q hq
      exact ⟨z1, z2, by rw [upd_ne ne]; exact z3⟩
theorem HR.poke (h : HR K G S w H) {p : Addr} {o o' : HO} {fr : List (Addr × HO)} (hp : (p, o) ∈ G.fr) (hf : ∀ q ∈ fr, q ∈ G.fr ∧ q.1 ≠ p) : HR K ⟨G.al, G.st, (p, o') :: fr⟩ S w (upd H p o') := by
  obtain ⟨y1, y2, y3⟩ := h.fr _ hp
  refine ⟨fun b u e => ?_, h.len, h.nod, fun i a c e1 e2 => ?_, ⟨h.st.1, fun a c e => ?_⟩, fun q hq => ?_⟩
  · rw [upd_ne (ne_of_none e y1)]
    exact h.same _ _ e
  · have ne : a ≠ p := fun z => y2 (z ▸ List.mem_of_getElem? e1)
    have q := h.cell i a c e1 e2
    have x : Ext G S ⟨G.al, G.st, G.fr⟩ S := Ext.refl _ _
    have x2 : Ext G S G S := Ext.refl _ _
    have q2 := q.mono x2 (upd_ne (o := o') ne) q.sNone
    cases c with
    | dead => exact q2
    | exc C => exact q2
    | exf C fs =>
      obtain ⟨n0, dx, gs, e3, e4, r⟩ := q2
      exact ⟨n0, dx, gs, e3, e4, Paired.mapP r fun p q z => ⟨z.1, Rep.refr z.2⟩⟩
    | tbl P q => exact q2
    | lk o ks kvs =>
      obtain ⟨n0, e3, r⟩ := q2
      exact ⟨n0, e3, Paired.mapP r fun p q z => ⟨z.1, Rep.refr z.2⟩⟩
    | lst ds =>
      obtain ⟨n0, xs, e3, r⟩ := q2
      exact ⟨n0, xs, e3, RepAll.refr r⟩
    | dk ds =>
      obtain ⟨n0, xs, e3, r⟩ := q2
      exact ⟨n0, xs, e3, Paired.mapP r fun p q z => ⟨z.1, Rep.refr z.2⟩⟩
    | ins C ds =>
      obtain ⟨n0, dx, xs, e3, r⟩ := q2
      exact ⟨n0, dx, xs, e3, Paired.mapP r fun p q z => ⟨z.1, Rep.refr z.2⟩⟩
  · obtain ⟨z1, z2, z3, z4, z5, z6, cells, turn, z7, z8, z9⟩ := h.st.2 a c e
    obtain ⟨n1, n2⟩ := z6 _ hp
    refine ⟨z1, z2, z3, z4, z5, fun q hq => ?_, cells, turn, by rw [upd_ne (Ne.symm n1)]; exact z7, by rw [upd_ne (Ne.symm n2)]; exact z8, z9⟩
    rcases List.mem_cons.mp hq with rfl | hq
    · exact ⟨n1, n2⟩
    · exact z6 q (hf q hq).1
  · rcases List.mem_cons.mp hq with rfl | hq
    · exact ⟨y1, y2, upd_same⟩
    · obtain ⟨z1, z2, z3⟩ := h.fr q (hf q hq).1
      exact ⟨z1, z2, by rw [upd_ne (hf q hq).2]; exact z3⟩
end
end DL

namespace DL
open PySem PySem.Spec PyProof.Rows L2

inductive Exn where
  | own (C : Addr)
  | flds (C : Addr) (fs : List (Str × D))
def ExRep (K : PySem.W.Frag) (G : Gh) (S H : Hp) (cls : Value) (d : Option Addr) : Exn → Prop
  | .own C => cls = .ref C ∧ d = none
  | .flds C fs => cls = .ref C ∧ ∃ a gs, d = some a ∧ S a = some (.xd gs) ∧ FsRep K G S gs fs
abbrev KD := D → Wd → Prop
abbrev KX := Exn → Wd → Prop
abbrev KB := Bool → Wd → Prop
abbrev KA := List D → Wd → Prop
abbrev Rho := List (Option D)
abbrev GE := Rho → Wd → KX → KD → Prop
abbrev GT := Rho → Wd → KX → KB → Prop
abbrev GA := Rho → Wd → KX → KA → Prop
structure DEnds where
  nx : Rho → Wd → Prop
  rt : KD
  ex : KX
  bk : Rho → Wd → Prop := fun _ _ => False
  ct : Rho → Wd → Prop := fun _ _ => False
abbrev GS := DEnds → Rho → Wd → Prop

section
variable (K : PySem.W.Frag) (G : Gh) (S : Hp)
def SR (σ : L2.St) (ρ : Rho) : Prop := σ.length = ρ.length ∧ ∀ (i : Nat) (d : D), ρ[i]? = some (some d) → ∃ v, σ[i]? = some (some v) ∧ Rep K G S v d
def XL (kx : KX) (E : XK) : Prop := ∀ G' S' H' w' e cls d, Ext G S G' S' → HR K G' S' w' H' → ExRep K G' S' H' cls d e → kx e w' → E cls d H'
def KL (k : KD) (Q : VK) : Prop := ∀ G' S' H' w' d v, Ext G S G' S' → HR K G' S' w' H' → Rep K G' S' v d → k d w' → Q v H'
def BL (k : KB) (Q : Bool → Hp → Prop) : Prop := ∀ G' S' H' w' b, Ext G S G' S' → HR K G' S' w' H' → k b w' → Q b H'
def AL (k : KA) (Q : List V → Hp → Prop) : Prop := ∀ G' S' H' w' ds vs, Ext G S G' S' → HR K G' S' w' H' → RepAll K G' S' vs ds → k ds w' → Q vs H'
def NL (k : Rho → Wd → Prop) (Q : L2.St → Hp → Prop) : Prop := ∀ G' S' H' w' ρ' σ', Ext G S G' S' → HR K G' S' w' H' → SR K G' S' σ' ρ' → k ρ' w' → Q σ' H'
end
section
variable {K : PySem.W.Frag} {G G' : Gh} {S S' : Hp}
theorem SR.mono {σ : L2.St} {ρ : Rho} (x : Ext G S G' S') (h : SR K G S σ ρ) : SR K G' S' σ ρ := ⟨h.1, fun i d e => let ⟨v, h1, h2⟩ := h.2 i d e; ⟨v, h1, h2.mono x⟩⟩
theorem XL.mono {kx : KX} {E : XK} (x : Ext G S G' S') (h : XL K G S kx E) : XL K G' S' kx E := fun G1 S1 H1 w1 e c d x1 => h G1 S1 H1 w1 e c d (x.trans x1)
theorem KL.mono {k : KD} {Q : VK} (x : Ext G S G' S') (h : KL K G S k Q) : KL K G' S' k Q := fun G1 S1 H1 w1 d v x1 => h G1 S1 H1 w1 d v (x.trans x1)
theorem BL.mono {k : KB} {Q : Bool → Hp → Prop} (x : Ext G S G' S') (h : BL K G S k Q) : BL K G' S' k Q := fun G1 S1 H1 w1 d x1 => h G1 S1 H1 w1 d (x.trans x1)
theorem AL.mono {k : KA} {Q : List V → Hp → Prop} (x : Ext G S G' S') (h : AL K G S k Q) : AL K G' S' k Q := fun G1 S1 H1 w1 d v x1 => h G1 S1 H1 w1 d v (x.trans x1)
theorem NL.mono {k : Rho → Wd → Prop} {Q : L2.St → Hp → Prop} (x : Ext G S G' S') (h : NL K G S k Q) : NL K G' S' k Q := fun G1 S1 H1 w1 d v x1 => h G1 S1 H1 w1 d v (x.trans x1)
theorem SR.set {σ : L2.St} {ρ : Rho} {v : V} {d : D} (h : SR K G S σ ρ) (r : Rep K G S v d) (i : Nat) : SR K G S (σ.set i (some v)) (ρ.set i (some d)) := by
  refine ⟨by simp [h.1], fun j e hj => ?_⟩
  by_cases hi : j = i
  · subst hi
    have hl : j < ρ.length := by
      have := (List.getElem?_eq_some_iff.mp hj).1
      simpa using this
    rw [List.getElem?_set_self hl] at hj
    cases hj
    exact ⟨v, List.getElem?_set_self (by rw [h.1]; exact hl), r⟩
  · rw [List.getElem?_set_ne (Ne.symm hi)] at hj
    obtain ⟨u, h1, h2⟩ := h.2 j e hj
    exact ⟨u, by rw [List.getElem?_set_ne (Ne.symm hi)]; exact h1, h2⟩
end

def upE (K : PySem.W.Frag) (E : XK) (g : GE) : TE := fun σ H Q => ∃ G S ρ w kx k, HR K G S w H ∧ SR K G S σ ρ ∧ XL K G S kx E ∧ KL K G S k Q ∧ g ρ w kx k
def upT (K : PySem.W.Frag) (E : XK) (g : GT) : TT := fun σ H Q => ∃ G S ρ w kx k, HR K G S w H ∧ SR K G S σ ρ ∧ XL K G S kx E ∧ BL K G S k Q ∧ g ρ w kx k
def upA (K : PySem.W.Frag) (E : XK) (g : GA) : TA := fun σ H Q => ∃ G S ρ w kx k, HR K G S w H ∧ SR K G S σ ρ ∧ XL K G S kx E ∧ AL K G S k Q ∧ g ρ w kx k
structure EL (K : PySem.W.Frag) (G : Gh) (S : Hp) (E : XK) (F : DEnds) (D : Ends) : Prop where
  nx : NL K G S F.nx D.nx
  rt : KL K G S F.rt D.rt
  bk : NL K G S F.bk D.bk
  ct : NL K G S F.ct D.ct
  ex : XL K G S F.ex E
theorem EL.mono {K : PySem.W.Frag} {G G' : Gh} {S S' : Hp} {E : XK} {F : DEnds} {D : Ends} (x : Ext G S G' S') (h : EL K G S E F D) : EL K G' S' E F D := ⟨h.nx.mono x, h.rt.mono x, h.bk.mono x, h.ct.mono x, h.ex.mono x⟩
def upS (K : PySem.W.Frag) (E : XK) (g : GS) : TS := fun D σ H => ∃ G S ρ w F, HR K G S w H ∧ SR K G S σ ρ ∧ EL K G S E F D ∧ g F ρ w

def DE (X : Cx) (E : XK) (e : Expr) (g : GE) : Prop := PE X e (upE X.K E g)
def DT (X : Cx) (E : XK) (e : Expr) (g : GT) : Prop := PT X e (upT X.K E g)
def DW (X : Cx) (E : XK) (e : Expr) (g : GT) : Prop := PW X e (upT X.K E g)
def DA (X : Cx) (E : XK) (es : List Expr) (g : GA) : Prop := PA X es (upA X.K E g)
def DS (X : Cx) (E : XK) (st : Stmt) (g : GS) : Prop := PS X st (upS X.K E g)
def DSs (X : Cx) (E : XK) (st : List Stmt) (g : GS) : Prop := PSs X st (upS X.K E g)
section
variable {X : Cx}
theorem pe_imp {e : Expr} {t t' : TE} (h : PE X e t) (i : ∀ σ H Q, t' σ H Q → t σ H Q) : PE X e t' := ⟨fun pins s σ H Q I q => h.run pins s σ H Q I (i _ _ _ q)⟩
theorem pt_imp {e : Expr} {t t' : TT} (h : PT X e t) (i : ∀ σ H Q, t' σ H Q → t σ H Q) : PT X e t' := ⟨fun pins s σ H Q I q => h.run pins s σ H Q I (i _ _ _ q)⟩
theorem pw_imp {e : Expr} {t t' : TT} (h : PW X e t) (i : ∀ σ H Q, t' σ H Q → t σ H Q) : PW X e t' := ⟨fun wh pins s σ H Q I q => h.run wh pins s σ H Q I (i _ _ _ q)⟩
theorem pa_imp {e : List Expr} {t t' : TA} (h : PA X e t) (i : ∀ σ H Q, t' σ H Q → t σ H Q) : PA X e t' := ⟨fun pos pins s σ H Q I q => h.run pos pins s σ H Q I (i _ _ _ q)⟩
theorem ps_imp {e : Stmt} {t t' : TS} (h : PS X e t) (i : ∀ D σ H, t' D σ H → t D σ H) : PS X e t' := ⟨fun pins s σ H D I q => h.run pins s σ H D I (i _ _ _ q)⟩
theorem pss_imp {e : List Stmt} {t t' : TS} (h : PSs X e t) (i : ∀ D σ H, t' D σ H → t D σ H) : PSs X e t' := ⟨fun pins s σ H D I q => h.run pins s σ H D I (i _ _ _ q)⟩
end

def gVar (i : Nat) : GE := fun ρ w _ k => match ρ[i]? with
  | some (some d) => k d w
  | _ => False
def gC (d : D) : GE := fun _ w _ k => k d w
section
variable {X : Cx} {E : XK}
theorem de_var (i : Nat) {x : Str} {pos : Pos} (hN : X.N[i]? = some x := by rfl) (hv : Vis X.env.scope x := by first | exact Or.inl rfl | exact Or.inr (Or.inl rfl) | exact Or.inr (Or.inr rfl)) (hd : (x == ("__debug__" : Str)) = false := by decide)
    (hcd : (x == ("__classdict__" : Str)) = false := by decide) : DE X E (.Name x pos) (gVar i) := by
  refine pe_imp (pe_var hN hv hd hcd) ?_
  rintro σ H Q ⟨G, S, ρ, w, kx, k, hr, sr, xl, kl, h⟩
  unfold gVar at h
  split at h
  · rename_i d e
    obtain ⟨v, h1, h2⟩ := sr.2 i d e
    exact ⟨v, h1, kl _ _ _ _ _ _ (Ext.refl _ _) hr h2 h⟩
  · exact h.elim
theorem de_int {i : Int} {j pos} : DE X E (.Constant (.int i) j pos) (gC (.int i)) := pe_imp pe_int (by
  rintro σ H Q ⟨G, S, ρ, w, kx, k, hr, sr, xl, kl, h⟩
  exact kl _ _ _ _ _ _ (Ext.refl _ _) hr (.int i) h)
theorem de_bl {i : Bool} {j pos} : DE X E (.Constant (.bool i) j pos) (gC (.bl i)) := pe_imp pe_bl (by
  rintro σ H Q ⟨G, S, ρ, w, kx, k, hr, sr, xl, kl, h⟩
  exact kl _ _ _ _ _ _ (Ext.refl _ _) hr (.bl i) h)
theorem de_non {j pos} : DE X E (.Constant .none j pos) (gC .non) := pe_imp pe_non (by
  rintro σ H Q ⟨G, S, ρ, w, kx, k, hr, sr, xl, kl, h⟩
  exact kl _ _ _ _ _ _ (Ext.refl _ _) hr .non h)
theorem de_str {x : Str} {j pos} : DE X E (.Constant (.str x) j pos) (gC (.str x)) := pe_imp pe_str (by
  rintro σ H Q ⟨G, S, ρ, w, kx, k, hr, sr, xl, kl, h⟩
  exact kl _ _ _ _ _ _ (Ext.refl _ _) hr (.str x) h)
theorem de_gint {x : Str} {i : Int} {t : Tok} {pos : Pos} (hg : Gl X x) (hm : X.mg x = some (.int i t)) (hd : (x == ("__debug__" : Str)) = false := by decide) : DE X E (.Name x pos) (gC (.int i)) := pe_imp (pe_glob (v := .int i) hg hm ⟨_, rfl⟩ hd) (by
  rintro σ H Q ⟨G, S, ρ, w, kx, k, hr, sr, xl, kl, h⟩
  exact kl _ _ _ _ _ _ (Ext.refl _ _) hr (.int i) h)
theorem de_gstr {x : Str} {i : Str} {t : Tok} {pos : Pos} (hg : Gl X x) (hm : X.mg x = some (.str i t)) (hd : (x == ("__debug__" : Str)) = false := by decide) : DE X E (.Name x pos) (gC (.str i)) := pe_imp (pe_glob (v := .str i) hg hm ⟨_, rfl⟩ hd) (by
  rintro σ H Q ⟨G, S, ρ, w, kx, k, hr, sr, xl, kl, h⟩
  exact kl _ _ _ _ _ _ (Ext.refl _ _) hr (.str i) h)
theorem de_type {x : Str} {n : String} {pos : Pos} (hg : Gl X x) (hm : X.mg x = none) (hv : bootBuiltins x = some (.type n)) (hn : x ≠ "__name__" := by decide) (hd : (x == ("__debug__" : Str)) = false := by decide) : DE X E (.Name x pos) (gC (.ob (.ty n))) := pe_imp (pe_bltn (v := .ty n) hg hm hv rfl hn hd) (by
  rintro σ H Q ⟨G, S, ρ, w, kx, k, hr, sr, xl, kl, h⟩
  exact kl _ _ _ _ _ _ (Ext.refl _ _) hr (.ob rfl) h)
end

abbrev F2 := D → D → Wd → KD → Prop
def gBin (f : F2) (ga gb : GE) : GE := fun ρ w kx k => ga ρ w kx fun x w1 => gb ρ w1 kx fun y w2 => f x y w2 k
def BinOk (K : PySem.W.Frag) (r : R2) (f : F2) : Prop := ∀ {G S H w x y d e k Q}, HR K G S w H → Rep K G S x d → Rep K G S y e → KL K G S k Q → f d e w k → r x y H Q
section
variable {X : Cx} {E : XK} {a b c : Expr} {ga gb gc : GE} {pos : Pos}
theorem bin_up {K : PySem.W.Frag} {r : R2} {f : F2} (hf : BinOk K r f) : ∀ σ H Q, upE K E (gBin f ga gb) σ H Q → tOp r (upE K E ga) (upE K E gb) σ H Q := by
  rintro σ H Q ⟨G, S, ρ, w, kx, k, hr, sr, xl, kl, h⟩
  exact ⟨G, S, ρ, w, kx, _, hr, sr, xl, fun G1 S1 H1 w1 d x x1 hr1 rp h1 => ⟨G1, S1, ρ, w1, kx, _, hr1, sr.mono x1, xl.mono x1, fun G2 S2 H2 w2 e y x2 hr2 rp2 h2 => hf hr2 (rp.mono x2) rp2 (kl.mono (x1.trans x2)) h2, h1⟩, h⟩
theorem de_bin {op : Operator} {r : R2} {f : F2} (ho : OpR X (binaryOp op) r) (hf : BinOk X.K r f) (ha : DE X E a ga) (hb : DE X E b gb) : DE X E (.BinOp a op b pos) (gBin f ga gb) :=
  pe_imp (pe_op ho ha hb) (bin_up hf)
theorem de_cmp {op : CmpOp} {r : R2} {f : F2} (ho : OpR X (compareOp op) r) (hf : BinOk X.K r f) (ha : DE X E a ga) (hb : DE X E b gb) (hm : behindInMarks op b = false) : DE X E (.Compare a [op] [b] pos) (gBin f ga gb) :=
  pe_imp (pe_cmpR ho ha hb hm) (bin_up hf)
end

def addD : F2 := fun x y w k => match x, y with
  | .int i, .int j => k (.int (i + j)) w
  | .str i, .str j => i.length + j.length ≤ sizeLine ∧ k (.str (i ++ j)) w
  | .lst i, .lst j => i.length + j.length ≤ sizeLine ∧ k (.lst (i ++ j)) w
  | .tup i, .tup j => i ≠ [] ∧ i.length + j.length ≤ sizeLine ∧ k (.tup (i ++ j)) w
  | _, _ => False
def subD : F2 := fun x y w k => match x, y with
  | .int i, .int j => k (.int (i - j)) w
  | _, _ => False
def mulD : F2 := fun x y w k => match x, y with
  | .int i, .int j => CMulX i j ∧ k (.int (i * j)) w
  | .lst i, .int j => -(2 ^ 63) ≤ j ∧ j < 2 ^ 63 ∧ i.length * j.toNat ≤ sizeLine ∧ k (.lst (List.replicate j.toNat i).flatten) w
  | _, _ => False
def fdivD : F2 := fun x y w k => match x, y with
  | .int i, .int j => (j ≠ 0 ∧ j.natAbs.log2 < 9000) ∧ k (.int (i.fdiv j)) w
  | _, _ => False
def modD : F2 := fun x y w k => match x, y with
  | .int i, .int j => j ≠ 0 ∧ k (.int (i.fmod j)) w
  | _, _ => False
def powD : F2 := fun x y w k => match x, y with
  | .int i, .int j => CPow i j ∧ k (.int (i ^ j.toNat)) w
  | _, _ => False
def ltD : F2 := fun x y w k => match x, y with
  | .int i, .int j => k (.bl (decide (i < j))) w
  | .str i, .str j => k (.bl (decide (i.cps.toList < j.cps.toList))) w
  | _, _ => False
def leD : F2 := fun x y w k => match x, y with
  | .int i, .int j => k (.bl (decide (i ≤ j))) w
  | _, _ => False
def gtD : F2 := fun x y w k => match x, y with
  | .int i, .int j => k (.bl (decide (j < i))) w
  | _, _ => False
def geD : F2 := fun x y w k => match x, y with
  | .int i, .int j => k (.bl (decide (j ≤ i))) w
  | _, _ => False
mutual
def toPD : D → Option PyData
  | .non => some .none
  | .bl b => some (.bool b)
  | .int i => some (.int i)
  | .str x => some (.str x)
  | .lst xs => (toPDs xs).map .list
  | .tup xs => (toPDs xs).map .tuple
  | .rf _ => none
  | .st => none
  | .ob _ => none
  | .scr _ => none
def toPDs : List D → Option (List PyData)
  | [] => some []
  | x :: xs => match toPD x, toPDs xs with
    | some p, some ps => some (p :: ps)
    | _, _ => none
end
def eqD0 : F2 := fun x y w k => match toPD x, toPD y with
  | some p, some q => SeqAt.shaped p = true ∧ SeqAt.shaped q = true ∧ k (.bl (PyData.eqv p q)) w
  | _, _ => False
def neD0 : F2 := fun x y w k => match toPD x, toPD y with
  | some p, some q => SeqAt.shaped p = true ∧ SeqAt.shaped q = true ∧ k (.bl (!PyData.eqv p q)) w
  | _, _ => False
def eqD : F2 := fun x y w k => match x, y with
  | .str s, .str t => k (.bl (decide (s = t))) w
  | x, y => eqD0 x y w k
def neD : F2 := fun x y w k => match x, y with
  | .str s, .str t => k (.bl (!decide (s = t))) w
  | x, y => neD0 x y w k
def isNonD : D → Bool
  | .non => true
  | _ => false
def isD : F2 := fun x y w k => match y with
  | .non => k (.bl (isNonD x)) w
  | _ => False
def isnotD : F2 := fun x y w k => match y with
  | .non => k (.bl (!isNonD x)) w
  | _ => False
section
variable {K : PySem.W.Frag} {G : Gh} {S H : Hp}
mutual
theorem rep_dp (h : Same S H) : ∀ {v : V} {d : D} {p : PyData}, Rep K G S v d → toPD d = some p → Dp K H v p
  | _, _, _, .non, e => by cases e; exact .non
  | _, _, _, .bl b, e => by cases e; exact .bl b
  | _, _, _, .int i, e => by cases e; exact .int i
  | _, _, _, .str i, e => by cases e; exact .str i
  | _, _, _, .lst h1 r, e => by
    rw [toPD] at e
    obtain ⟨ps, e1, rfl⟩ := Option.map_eq_some_iff.mp e
    exact .lst (.inl (.inl (h _ _ h1))) (reps_dp h r e1)
  | _, _, _, .tup h1 r, e => by
    rw [toPD] at e
    obtain ⟨ps, e1, rfl⟩ := Option.map_eq_some_iff.mp e
    exact .tup (sqT_up h h1) (reps_dp h r e1)
  | _, _, _, .rf _, e => by cases e
  | _, _, _, .st _, e => by cases e
  | _, _, _, .ob _, e => by cases e
  | _, _, _, .scr _, e => by cases e
theorem reps_dp (h : Same S H) : ∀ {vs : List V} {ds : List D} {ps : List PyData}, RepAll K G S vs ds → toPDs ds = some ps → DpAll K H vs ps
  | _, _, _, .nil, e => by cases e; exact .nil
  | _, _, _, .cons h1 r, e => by
    rw [toPDs] at e
    split at e
    · rename_i p ps e1 e2
      cases e
      exact .cons (rep_dp h h1 e1) (reps_dp h r e2)
    · cases e
end
end
theorem KL.here {K : PySem.W.Frag} {G : Gh} {S H : Hp} {w : Wd} {k : KD} {Q : VK} {v : V} {d : D} (kl : KL K G S k Q) (hr : HR K G S w H) (r : Rep K G S v d) (h : k d w) : Q v H := kl _ _ _ _ _ _ (Ext.refl _ _) hr r h
theorem KL.newL {K : PySem.W.Frag} {G : Gh} {S H : Hp} {w : Wd} {k : KD} {Q : VK} {xs : List V} {ds : List D} (kl : KL K G S k Q) (hr : HR K G S w H) (r : RepAll K G S xs ds) (h : k (.lst ds) w) : ∀ p, H p = none → Q (.ref p) (upd H p (.lst xs)) := fun p hp => by
  obtain ⟨h1, x⟩ := hr.newS hp (.lst xs)
  exact kl _ _ _ _ _ _ x h1 (.lst upd_same (r.mono x)) h
theorem KL.newT {K : PySem.W.Frag} {G : Gh} {S H : Hp} {w : Wd} {k : KD} {Q : VK} {xs : List V} {ds : List D} (kl : KL K G S k Q) (hr : HR K G S w H) (r : RepAll K G S xs ds) (h : k (.tup ds) w) : ∀ p, H p = none → Q (.ref p) (upd H p (.tup xs)) := fun p hp => by
  obtain ⟨h1, x⟩ := hr.newS hp (.tup xs)
  exact kl _ _ _ _ _ _ x h1 (.tup (.inl (.inl upd_same)) (r.mono x)) h

def rAddD (K : PySem.W.Frag) : R2 := fun x y H Q => (rI0 (fun i j => .int (i + j))) x y H Q ∨ (fun x y H Q => ∃ i j, x = .str i ∧ y = .str j ∧ i.length + j.length ≤ sizeLine ∧ Q (.str (i ++ j)) H : R2) x y H Q ∨ rCat x y H Q ∨ rCatT K x y H Q
theorem op_addD {X : Cx} : OpR X (binaryOp .Add) (rAddD X.K) := op_add.or (op_add_str.or (op_cat.or op_catT))
theorem ok_addD {K : PySem.W.Frag} : BinOk K (rAddD K) addD := by
  intro G S H w x y d e k Q hr rx ry kl h
  unfold addD at h
  split at h
  · cases rx; cases ry
    exact .inl ⟨_, _, rfl, rfl, kl.here hr (.int _) h⟩
  · cases rx; cases ry
    exact .inr (.inl ⟨_, _, rfl, rfl, h.1, kl.here hr (.str _) h.2⟩)
  · cases rx with
    | lst h1 r1 => cases ry with
      | lst h2 r2 => exact .inr (.inr (.inl ⟨_, _, _, _, rfl, rfl, hr.same _ _ h1, hr.same _ _ h2, by rw [r1.length, r2.length]; exact h.1, kl.newL hr (r1.append r2) h.2⟩))
  · cases rx with
    | tup h1 r1 => cases ry with
      | tup h2 r2 =>
        obtain ⟨hne, hz, hk⟩ := h
        have l1 := r1.length
        have l2 := r2.length
        refine .inr (.inr (.inr ⟨_, _, _, _, rfl, rfl, sqT_up hr.same h1, sqT_up hr.same h2, fun z => hne ?_, by rw [l1, l2]; exact hz, fun z => ?_, fun _ => kl.newT hr (r1.append r2) hk⟩))
        · rw [z] at l1
          exact List.length_eq_zero_iff.mp l1.symm
        · rw [z] at l2
          have e := List.length_eq_zero_iff.mp l2.symm
          subst e
          rw [List.append_nil] at hk
          exact kl.here hr (.tup h1 r1) hk
  · exact h.elim
def rI2 (C : Int → Int → Prop) (g : Int → Int → V) : R2 := rI C g
theorem ok_subD {K : PySem.W.Frag} : BinOk K (rI0 fun i j => .int (i - j)) subD := by
  intro G S H w x y d e k Q hr rx ry kl h
  unfold subD at h
  split at h
  · cases rx; cases ry
    exact ⟨_, _, rfl, rfl, kl.here hr (.int _) h⟩
  · exact h.elim
def rMulD : R2 := fun x y H Q => (rI CMulX fun i j => .int (i * j)) x y H Q ∨ rRep x y H Q
theorem op_mulD {X : Cx} : OpR X (binaryOp .Mult) rMulD := op_mulX.or op_rep
theorem RepAll.rep {K : PySem.W.Frag} {G : Gh} {S : Hp} {xs : List V} {ds : List D} (h : RepAll K G S xs ds) : ∀ k : Nat, RepAll K G S (List.replicate k xs).flatten (List.replicate k ds).flatten
  | 0 => .nil
  | k + 1 => by
    rw [List.replicate_succ, List.replicate_succ, List.flatten_cons, List.flatten_cons]
    exact h.append (RepAll.rep h k)
theorem ok_mulD {K : PySem.W.Frag} : BinOk K rMulD mulD := by
  intro G S H w x y d e k Q hr rx ry kl h
  unfold mulD at h
  split at h
  · cases rx; cases ry
    exact .inl ⟨_, _, rfl, rfl, h.1, kl.here hr (.int _) h.2⟩
  · cases ry
    cases rx with
    | lst h1 r1 =>
      obtain ⟨z1, z2, z3, z4⟩ := h
      exact .inr ⟨_, _, _, rfl, rfl, hr.same _ _ h1, z1, z2, by rw [r1.length]; exact z3, kl.newL hr (r1.rep _) z4⟩
  · exact h.elim
theorem op_fdivX {X : Cx} : OpR X (binaryOp .FloorDiv) (rI (fun _ j => j ≠ 0 ∧ j.natAbs.log2 < 9000) fun i j => .int (i.fdiv j)) := opI fun i j _ _ _ _ _ hc q =>
  floordiv_int hc.1 q (.inl (PyProof.noPylong_of_log2 hc.2))
theorem ok_fdivD {K : PySem.W.Frag} : BinOk K (rI (fun _ j => j ≠ 0 ∧ j.natAbs.log2 < 9000) fun i j => .int (i.fdiv j)) fdivD := by
  intro G S H w x y d e k Q hr rx ry kl h
  unfold fdivD at h
  split at h
  · cases rx; cases ry
    exact ⟨_, _, rfl, rfl, h.1, kl.here hr (.int _) h.2⟩
  · exact h.elim
theorem ok_modD {K : PySem.W.Frag} : BinOk K (rI (fun _ j => j ≠ 0) fun i j => .int (i.fmod j)) modD := by
  intro G S H w x y d e k Q hr rx ry kl h
  unfold modD at h
  split at h
  · cases rx; cases ry
    exact ⟨_, _, rfl, rfl, h.1, kl.here hr (.int _) h.2⟩
  · exact h.elim
theorem ok_powD {K : PySem.W.Frag} : BinOk K (rI CPow fun i j => .int (i ^ j.toNat)) powD := by
  intro G S H w x y d e k Q hr rx ry kl h
  unfold powD at h
  split at h
  · cases rx; cases ry
    exact ⟨_, _, rfl, rfl, h.1, kl.here hr (.int _) h.2⟩
  · exact h.elim
def rLtD : R2 := fun x y H Q => (rI0 fun i j => .bl (decide (i < j))) x y H Q ∨ (fun x y H Q => ∃ i j, x = .str i ∧ y = .str j ∧ Q (.bl (decide (i.cps.toList < j.cps.toList))) H : R2) x y H Q
theorem op_ltD {X : Cx} : OpR X (compareOp .Lt) rLtD := op_lt.or op_lt_str
theorem ok_ltD {K : PySem.W.Frag} : BinOk K rLtD ltD := by
  intro G S H w x y d e k Q hr rx ry kl h
  unfold ltD at h
  split at h
  · cases rx; cases ry
    exact .inl ⟨_, _, rfl, rfl, kl.here hr (.bl _) h⟩
  · cases rx; cases ry
    exact .inr ⟨_, _, rfl, rfl, kl.here hr (.bl _) h⟩
  · exact h.elim
theorem ok_leD {K : PySem.W.Frag} : BinOk K (rI0 fun i j => .bl (decide (i ≤ j))) leD := by
  intro G S H w x y d e k Q hr rx ry kl h
  unfold leD at h
  split at h
  · cases rx; cases ry
    exact ⟨_, _, rfl, rfl, kl.here hr (.bl _) h⟩
  · exact h.elim
theorem ok_gtD {K : PySem.W.Frag} : BinOk K (rI0 fun i j => .bl (decide (j < i))) gtD := by
  intro G S H w x y d e k Q hr rx ry kl h
  unfold gtD at h
  split at h
  · cases rx; cases ry
    exact ⟨_, _, rfl, rfl, kl.here hr (.bl _) h⟩
  · exact h.elim
theorem ok_eqD0 {K : PySem.W.Frag} : BinOk K (rEqD K) eqD0 := by
  intro G S H w x y d e k Q hr rx ry kl h
  unfold eqD0 at h
  split at h
  · rename_i p q e1 e2
    exact ⟨p, q, rep_dp hr.same rx e1, rep_dp hr.same ry e2, h.1, h.2.1, kl.here hr (.bl _) h.2.2⟩
  · exact h.elim
theorem ok_neD0 {K : PySem.W.Frag} : BinOk K (rNeD K) neD0 := by
  intro G S H w x y d e k Q hr rx ry kl h
  unfold neD0 at h
  split at h
  · rename_i p q e1 e2
    exact ⟨p, q, rep_dp hr.same rx e1, rep_dp hr.same ry e2, h.1, h.2.1, kl.here hr (.bl _) h.2.2⟩
  · exact h.elim
def rEqS (K : PySem.W.Frag) : R2 := fun x y H Q => rEq x y H Q ∨ rEqD K x y H Q
def rNeS (K : PySem.W.Frag) : R2 := fun x y H Q => rNe x y H Q ∨ rNeD K x y H Q
theorem dec_strV {s t : Str} : decide (V.str s = V.str t) = decide (s = t) := by
  rw [Bool.eq_iff_iff]
  simp
theorem ok_eqD {K : PySem.W.Frag} : BinOk K (rEqS K) eqD := by
  intro G S H w x y d e k Q hr rx ry kl h
  unfold eqD at h
  split at h
  · cases rx; cases ry
    refine .inl ⟨rfl, ?_⟩
    rw [dec_strV]
    exact kl.here hr (.bl _) h
  · exact .inr (ok_eqD0 hr rx ry kl h)
theorem ok_neD {K : PySem.W.Frag} : BinOk K (rNeS K) neD := by
  intro G S H w x y d e k Q hr rx ry kl h
  unfold neD at h
  split at h
  · cases rx; cases ry
    refine .inl ⟨rfl, ?_⟩
    rw [dec_strV]
    exact kl.here hr (.bl _) h
  · exact .inr (ok_neD0 hr rx ry kl h)
theorem rep_non {K : PySem.W.Frag} {G : Gh} {S : Hp} {v : V} {d : D} (r : Rep K G S v d) : decide (v = .non) = isNonD d := by
  cases r
  case ob h => cases v <;> first | rfl | cases h
  all_goals rfl
theorem ok_isD {K : PySem.W.Frag} : BinOk K (fun x y H Q => y = .non ∧ Q (.bl (decide (x = .non))) H) isD := by
  intro G S H w x y d e k Q hr rx ry kl h
  unfold isD at h
  split at h
  · cases ry
    refine ⟨rfl, ?_⟩
    rw [rep_non rx]
    exact kl.here hr (.bl _) h
  · exact h.elim
theorem ok_isnotD {K : PySem.W.Frag} : BinOk K (fun x y H Q => y = .non ∧ Q (.bl (!decide (x = .non))) H) isnotD := by
  intro G S H w x y d e k Q hr rx ry kl h
  unfold isnotD at h
  split at h
  · cases ry
    refine ⟨rfl, ?_⟩
    rw [rep_non rx]
    exact kl.here hr (.bl _) h
  · exact h.elim

section
variable {X : Cx} {E : XK} {a b c : Expr} {ga gb gc : GE} {pos : Pos}
theorem de_add (ha : DE X E a ga) (hb : DE X E b gb) : DE X E (.BinOp a .Add b pos) (gBin addD ga gb) := de_bin op_addD ok_addD ha hb
theorem de_sub (ha : DE X E a ga) (hb : DE X E b gb) : DE X E (.BinOp a .Sub b pos) (gBin subD ga gb) := de_bin op_sub ok_subD ha hb
theorem de_mul (ha : DE X E a ga) (hb : DE X E b gb) : DE X E (.BinOp a .Mult b pos) (gBin mulD ga gb) := de_bin op_mulD ok_mulD ha hb
theorem de_fdiv (ha : DE X E a ga) (hb : DE X E b gb) : DE X E (.BinOp a .FloorDiv b pos) (gBin fdivD ga gb) := de_bin op_fdivX ok_fdivD ha hb
theorem de_mod (ha : DE X E a ga) (hb : DE X E b gb) : DE X E (.BinOp a .Mod b pos) (gBin modD ga gb) := de_bin op_modN ok_modD ha hb
theorem de_pow (ha : DE X E a ga) (hb : DE X E b gb) : DE X E (.BinOp a .Pow b pos) (gBin powD ga gb) := de_bin op_pow ok_powD ha hb
theorem de_lt (ha : DE X E a ga) (hb : DE X E b gb) : DE X E (.Compare a [.Lt] [b] pos) (gBin ltD ga gb) := de_cmp op_ltD ok_ltD ha hb (nomark _)
theorem de_le (ha : DE X E a ga) (hb : DE X E b gb) : DE X E (.Compare a [.LtE] [b] pos) (gBin leD ga gb) := de_cmp op_le ok_leD ha hb (nomark _)
theorem de_eq {k : Nat} (hr : Room k X.A) (ha : DE X E a ga) (hb : DE X E b gb) : DE X E (.Compare a [.Eq] [b] pos) (gBin eqD ga gb) := de_cmp (op_eq.or (op_eqD hr.units)) ok_eqD ha hb (nomark _)
theorem de_ne {k : Nat} (hr : Room k X.A) (ha : DE X E a ga) (hb : DE X E b gb) : DE X E (.Compare a [.NotEq] [b] pos) (gBin neD ga gb) := de_cmp (op_ne.or (op_neD hr.units)) ok_neD ha hb (nomark _)
theorem de_is (ha : DE X E a ga) (hb : DE X E b gb) : DE X E (.Compare a [.Is] [b] pos) (gBin isD ga gb) := de_cmp op_isN ok_isD ha hb (nomark _)
def gChain (f f' : F2) (ga gb gc : GE) : GE := fun ρ w kx k => ga ρ w kx fun x w1 => gb ρ w1 kx fun y w2 => f x y w2 fun z w3 => match z with
  | .bl true => gc ρ w3 kx fun u w4 => f' y u w4 k
  | .bl false => k (.bl false) w3
  | _ => False
theorem de_chain {op op' : CmpOp} {r r' : R2} {f f' : F2} (ho : OpR X (compareOp op) r) (hf : BinOk X.K r f) (ho' : OpR X (compareOp op') r') (hf' : BinOk X.K r' f') (ha : DE X E a ga) (hb : DE X E b gb) (hc : DE X E c gc)
    (hm : lastMarks [op, op'] [b, c] = false := by with_unfolding_all rfl) : DE X E (.Compare a [op, op'] [b, c] pos) (gChain f f' ga gb gc) := by
  refine pe_imp (pe_chain ho ho' ha hb hc hm) ?_
  rintro σ H Q ⟨G, S, ρ, w, kx, k, hr, sr, xl, kl, h⟩
  refine ⟨G, S, ρ, w, kx, _, hr, sr, xl, fun G1 S1 H1 w1 d x x1 hr1 rp h1 => ⟨G1, S1, ρ, w1, kx, _, hr1, sr.mono x1, xl.mono x1, fun G2 S2 H2 w2 e y x2 hr2 rp2 h2 => hf hr2 (rp.mono x2) rp2 (k := fun z w3 => match z with
    | .bl true => gc ρ w3 kx fun u w4 => f' e u w4 k
    | .bl false => k (.bl false) w3
    | _ => False) ?_ h2, h1⟩, h⟩
  intro G3 S3 H3 w3 z v x3 hr3 rp3 h3
  cases z with
  | bl q =>
    cases rp3
    cases q with
    | false => exact ⟨false, rfl, (kl.mono ((x1.trans x2).trans x3)).here hr3 (.bl _) h3⟩
    | true => exact ⟨true, rfl, G3, S3, ρ, w3, kx, _, hr3, sr.mono ((x1.trans x2).trans x3), xl.mono ((x1.trans x2).trans x3), fun G4 S4 H4 w4 u v' x4 hr4 rp4 h4 => hf' hr4 ((rp2.mono x3).mono x4) rp4 (kl.mono (((x1.trans x2).trans x3).trans x4)) h4, h3⟩
  | _ => exact h3.elim
def negD : D → Wd → KD → Prop := fun x w k => match x with
  | .int i => k (.int (-i)) w
  | _ => False
def gUn (f : D → Wd → KD → Prop) (ga : GE) : GE := fun ρ w kx k => ga ρ w kx fun x w1 => f x w1 k
theorem de_neg (ha : DE X E a ga) : DE X E (.UnaryOp .USub a pos) (gUn negD ga) := by
  refine pe_imp (pe_un un_neg ha) ?_
  rintro σ H Q ⟨G, S, ρ, w, kx, k, hr, sr, xl, kl, h⟩
  refine ⟨G, S, ρ, w, kx, _, hr, sr, xl, fun G1 S1 H1 w1 d x x1 hr1 rp h1 => ?_, h⟩
  unfold negD at h1
  split at h1
  · cases rp
    exact ⟨_, rfl, (kl.mono x1).here hr1 (.int _) h1⟩
  · exact h1.elim
end

def gB (g : GE) : GT := fun ρ w kx k => g ρ w kx fun x w1 => match x with
  | .bl b => k b w1
  | _ => False
section
variable {X : Cx} {E : XK} {a b c : Expr} {ga gb gc : GE} {ta tb tc : GT} {pos : Pos} {rest : List Expr}
theorem dt_cmp {op : CmpOp} {r : R2} {f : F2} (ho : OpR X (compareOp op) r) (hf : BinOk X.K r f) (ha : DE X E a ga) (hb : DE X E b gb) (hm : behindInMarks op b = false) : DT X E (.Compare a [op] [b] pos) (gB (gBin f ga gb)) := by
  refine pt_imp (pt_cmpR ho ha hb hm) ?_
  rintro σ H Q ⟨G, S, ρ, w, kx, k, hr, sr, xl, kl, h⟩
  refine ⟨G, S, ρ, w, kx, _, hr, sr, xl, fun G1 S1 H1 w1 d x x1 hr1 rp h1 => ⟨G1, S1, ρ, w1, kx, _, hr1, sr.mono x1, xl.mono x1, fun G2 S2 H2 w2 e y x2 hr2 rp2 h2 => hf hr2 (rp.mono x2) rp2 (k := fun x w1 => match x with
    | .bl b => k b w1
    | _ => False) ?_ h2, h1⟩, h⟩
  intro G3 S3 H3 w3 z v x3 hr3 rp3 h3
  cases z with
  | bl q =>
    cases rp3
    exact ⟨q, rfl, kl _ _ _ _ _ ((x1.trans x2).trans x3) hr3 h3⟩
  | _ => exact h3.elim
theorem dt_lt (ha : DE X E a ga) (hb : DE X E b gb) : DT X E (.Compare a [.Lt] [b] pos) (gB (gBin ltD ga gb)) := dt_cmp op_ltD ok_ltD ha hb (nomark _)
theorem dt_gt (ha : DE X E a ga) (hb : DE X E b gb) : DT X E (.Compare a [.Gt] [b] pos) (gB (gBin gtD ga gb)) := dt_cmp op_gt ok_gtD ha hb (nomark _)
theorem dt_eq {k : Nat} (hr : Room k X.A) (ha : DE X E a ga) (hb : DE X E b gb) : DT X E (.Compare a [.Eq] [b] pos) (gB (gBin eqD ga gb)) := dt_cmp (op_eq.or (op_eqD hr.units)) ok_eqD ha hb (nomark _)
theorem dt_ne {k : Nat} (hr : Room k X.A) (ha : DE X E a ga) (hb : DE X E b gb) : DT X E (.Compare a [.NotEq] [b] pos) (gB (gBin neD ga gb)) := dt_cmp (op_ne.or (op_neD hr.units)) ok_neD ha hb (nomark _)
theorem dt_is (ha : DE X E a ga) (hb : DE X E b gb) : DT X E (.Compare a [.Is] [b] pos) (gB (gBin isD ga gb)) := dt_cmp op_isN ok_isD ha hb (nomark _)
theorem dt_isnot (ha : DE X E a ga) (hb : DE X E b gb) : DT X E (.Compare a [.IsNot] [b] pos) (gB (gBin isnotD ga gb)) := dt_cmp op_notN ok_isnotD ha hb (nomark _)
theorem dt_chain {op op' : CmpOp} {r r' : R2} {f f' : F2} (ho : OpR X (compareOp op) r) (hf : BinOk X.K r f) (ho' : OpR X (compareOp op') r') (hf' : BinOk X.K r' f') (ha : DE X E a ga) (hb : DE X E b gb) (hc : DE X E c gc)
    (hm : lastMarks [op, op'] [b, c] = false := by with_unfolding_all rfl) : DT X E (.Compare a [op, op'] [b, c] pos) (gB (gChain f f' ga gb gc)) := by
  refine pt_imp (pt_chain ho ho' ha hb hc hm) ?_
  rintro σ H Q ⟨G, S, ρ, w, kx, k, hr, sr, xl, kl, h⟩
  refine ⟨G, S, ρ, w, kx, _, hr, sr, xl, fun G1 S1 H1 w1 d x x1 hr1 rp h1 => ⟨G1, S1, ρ, w1, kx, _, hr1, sr.mono x1, xl.mono x1, fun G2 S2 H2 w2 e y x2 hr2 rp2 h2 => hf hr2 (rp.mono x2) rp2 (k := fun z w3 => match z with
    | .bl true => gc ρ w3 kx fun u w4 => f' e u w4 fun x w1 => match x with
      | .bl b => k b w1
      | _ => False
    | .bl false => k false w3
    | _ => False) ?_ h2, h1⟩, h⟩
  intro G3 S3 H3 w3 z v x3 hr3 rp3 h3
  have x03 := (x1.trans x2).trans x3
  cases z with
  | bl q =>
    cases rp3
    cases q with
    | false => exact ⟨false, rfl, false, rfl, kl _ _ _ _ _ x03 hr3 h3⟩
    | true => exact ⟨true, rfl, G3, S3, ρ, w3, kx, _, hr3, sr.mono x03, xl.mono x03, fun G4 S4 H4 w4 u v' x4 hr4 rp4 h4 => hf' hr4 ((rp2.mono x3).mono x4) rp4 (k := fun x w1 => match x with
      | .bl b => k b w1
      | _ => False) (fun G5 S5 H5 w5 z5 v5 x5 hr5 rp5 h5 => by
        cases z5 with
        | bl q5 =>
          cases rp5
          exact ⟨q5, rfl, kl _ _ _ _ _ ((x03.trans x4).trans x5) hr5 h5⟩
        | _ => exact h5.elim) h4, h3⟩
  | _ => exact h3.elim
def truD : D → Wd → KB → Prop := fun x w k => match x with
  | .non => k false w
  | .bl b => k b w
  | .int i => k (i != 0) w
  | .str y => y.length ≤ sizeLine ∧ k ((y.length : Int) != 0) w
  | .lst xs => k (!xs.isEmpty) w
  | .tup xs => k (!xs.isEmpty) w
  | _ => False
def gTru (g : GE) : GT := fun ρ w kx k => g ρ w kx fun x w1 => truD x w1 k
theorem rep_isEmpty {K : PySem.W.Frag} {G : Gh} {S : Hp} {xs : List V} {ds : List D} (r : RepAll K G S xs ds) : ds.isEmpty = xs.isEmpty := by
  cases r <;> rfl
theorem dt_truth (ha : DE X E a ga) (he : ∀ whole, isTrue a X.env whole = (do let v ← whole; standAt a.pos; holding [v] (truthy v)) := by intro _; rfl) : DT X E a (gTru ga) := by
  refine pt_imp (pt_truth ha he) ?_
  rintro σ H Q ⟨G, S, ρ, w, kx, k, hr, sr, xl, kl, h⟩
  refine ⟨G, S, ρ, w, kx, _, hr, sr, xl, fun G1 S1 H1 w1 d x x1 hr1 rp h1 => ?_, h⟩
  cases rp with
  | non => exact ⟨_, rfl, kl _ _ _ _ _ x1 hr1 h1⟩
  | bl b => exact ⟨_, rfl, kl _ _ _ _ _ x1 hr1 h1⟩
  | int i => exact ⟨_, rfl, kl _ _ _ _ _ x1 hr1 h1⟩
  | str y => exact ⟨_, ⟨h1.1, rfl⟩, kl _ _ _ _ _ x1 hr1 h1.2⟩
  | lst e r => exact ⟨_, .inl ⟨_, .inl (.inl (hr1.same _ _ e)), rfl⟩, by rw [← rep_isEmpty r]; exact kl _ _ _ _ _ x1 hr1 h1⟩
  | tup e r => exact ⟨_, .inr (.inl ⟨_, sqT_up hr1.same e, rfl⟩), by rw [← rep_isEmpty r]; exact kl _ _ _ _ _ x1 hr1 h1⟩
  | rf _ => exact h1.elim
  | st _ => exact h1.elim
  | ob _ => exact h1.elim
  | scr _ => exact h1.elim
def gAnd (t u : GT) : GT := fun ρ w kx k => t ρ w kx fun c w1 => if c = true then u ρ w1 kx k else k false w1
def gOr (t u : GT) : GT := fun ρ w kx k => t ρ w kx fun c w1 => if c = true then k true w1 else u ρ w1 kx k
def gNot (t : GT) : GT := fun ρ w kx k => t ρ w kx fun c w1 => k (!c) w1
theorem dw_and1 (ha : DT X E a ta) : DW X E (.BoolOp .And [a] pos) ta := pw_and1 ha
theorem dw_or1 (ha : DT X E a ta) : DW X E (.BoolOp .Or [a] pos) ta := pw_or1 ha
theorem dw_and (ha : DT X E a ta) (hb : DW X E (.BoolOp .And (b :: rest) pos) tb) : DW X E (.BoolOp .And (a :: b :: rest) pos) (gAnd ta tb) := by
  refine pw_imp (pw_and ha hb) ?_
  rintro σ H Q ⟨G, S, ρ, w, kx, k, hr, sr, xl, kl, h⟩
  refine ⟨G, S, ρ, w, kx, _, hr, sr, xl, fun G1 S1 H1 w1 c x1 hr1 h1 => ?_, h⟩
  cases c with
  | true => exact iteT ⟨G1, S1, ρ, w1, kx, k, hr1, sr.mono x1, xl.mono x1, kl.mono x1, by simpa using h1⟩
  | false => exact iteF (kl _ _ _ _ _ x1 hr1 (by simpa using h1))
theorem dw_or (ha : DT X E a ta) (hb : DW X E (.BoolOp .Or (b :: rest) pos) tb) : DW X E (.BoolOp .Or (a :: b :: rest) pos) (gOr ta tb) := by
  refine pw_imp (pw_or ha hb) ?_
  rintro σ H Q ⟨G, S, ρ, w, kx, k, hr, sr, xl, kl, h⟩
  refine ⟨G, S, ρ, w, kx, _, hr, sr, xl, fun G1 S1 H1 w1 c x1 hr1 h1 => ?_, h⟩
  cases c with
  | false => exact iteF ⟨G1, S1, ρ, w1, kx, k, hr1, sr.mono x1, xl.mono x1, kl.mono x1, by simpa using h1⟩
  | true => exact iteT (kl _ _ _ _ _ x1 hr1 (by simpa using h1))
theorem dt_w (h : DW X E a ta) : DT X E a ta := PW.pt h
theorem dt_not (ha : DT X E a ta) : DT X E (.UnaryOp .Not a pos) (gNot ta) := by
  refine pt_imp (pt_not ha) ?_
  rintro σ H Q ⟨G, S, ρ, w, kx, k, hr, sr, xl, kl, h⟩
  exact ⟨G, S, ρ, w, kx, _, hr, sr, xl, fun G1 S1 H1 w1 c x1 hr1 h1 => kl _ _ _ _ _ x1 hr1 h1, h⟩
def gAndV (ga gb : GE) : GE := fun ρ w kx k => ga ρ w kx fun x w1 => match x with
  | .bl true => gb ρ w1 kx k
  | .bl false => k (.bl false) w1
  | _ => False
def gOrV (ga gb : GE) : GE := fun ρ w kx k => ga ρ w kx fun x w1 => match x with
  | .bl true => k (.bl true) w1
  | .bl false => gb ρ w1 kx k
  | _ => False
def gNotV (ga : GE) : GE := fun ρ w kx k => ga ρ w kx fun x w1 => match x with
  | .bl b => k (.bl (!b)) w1
  | _ => False
theorem de_one {op} (h : DE X E a ga) : DE X E (.BoolOp op [a] pos) ga := pe_one h
theorem de_and (ha : DE X E a ga) (hb : DE X E (.BoolOp .And (b :: rest) pos) gb) : DE X E (.BoolOp .And (a :: b :: rest) pos) (gAndV ga gb) := by
  refine pe_imp (pe_and ha hb) ?_
  rintro σ H Q ⟨G, S, ρ, w, kx, k, hr, sr, xl, kl, h⟩
  refine ⟨G, S, ρ, w, kx, _, hr, sr, xl, fun G1 S1 H1 w1 d x x1 hr1 rp h1 => ?_, h⟩
  cases rp with
  | bl q =>
    cases q with
    | true => exact ⟨true, rfl, iteT ⟨G1, S1, ρ, w1, kx, k, hr1, sr.mono x1, xl.mono x1, kl.mono x1, h1⟩⟩
    | false => exact ⟨false, rfl, iteF ((kl.mono x1).here hr1 (.bl _) h1)⟩
  | _ => exact h1.elim
theorem de_not (ha : DE X E a ga) : DE X E (.UnaryOp .Not a pos) (gNotV ga) := by
  refine pe_imp (pe_not ha) ?_
  rintro σ H Q ⟨G, S, ρ, w, kx, k, hr, sr, xl, kl, h⟩
  refine ⟨G, S, ρ, w, kx, _, hr, sr, xl, fun G1 S1 H1 w1 d x x1 hr1 rp h1 => ?_, h⟩
  cases rp with
  | bl q => exact ⟨q, rfl, (kl.mono x1).here hr1 (.bl _) h1⟩
  | _ => exact h1.elim
def gIf (t : GT) (ga gb : GE) : GE := fun ρ w kx k => t ρ w kx fun c w1 => if c = true then ga ρ w1 kx k else gb ρ w1 kx k
theorem de_ifExp {t : GT} (hc : DT X E c t) (ha : DE X E a ga) (hb : DE X E b gb) : DE X E (.IfExp c a b pos) (gIf t ga gb) := by
  refine pe_imp (pe_ifExp hc ha hb) ?_
  rintro σ H Q ⟨G, S, ρ, w, kx, k, hr, sr, xl, kl, h⟩
  refine ⟨G, S, ρ, w, kx, _, hr, sr, xl, fun G1 S1 H1 w1 c x1 hr1 h1 => ?_, h⟩
  cases c with
  | true => exact iteT ⟨G1, S1, ρ, w1, kx, k, hr1, sr.mono x1, xl.mono x1, kl.mono x1, by simpa using h1⟩
  | false => exact iteF ⟨G1, S1, ρ, w1, kx, k, hr1, sr.mono x1, xl.mono x1, kl.mono x1, by simpa using h1⟩
end
end DL

namespace DL
open PySem PySem.Spec PyProof.Rows L2

def gaNil : GA := fun _ w _ k => k [] w
def gaCons (g : GE) (r : GA) : GA := fun ρ w kx k => g ρ w kx fun x w1 => r ρ w1 kx fun xs w2 => k (x :: xs) w2
def gTup (t : GA) : GE := fun ρ w kx k => t ρ w kx fun xs w1 => xs.length ≤ sizeLine ∧ k (.tup xs) w1
def gLst (t : GA) : GE := fun ρ w kx k => t ρ w kx fun xs w1 => xs.length ≤ sizeLine ∧ k (.lst xs) w1
def gLstC (t : GA) : GE := fun ρ w kx k => t ρ w kx fun xs w1 => xs.length ≤ sizeLine ∧ k (.rf w1.M.length) ⟨w1.M ++ [.lst xs], w1.n⟩
section
variable {X : Cx} {E : XK} {e : Expr} {es : List Expr} {g : GE} {t : GA} {pos : Pos}
theorem da_nil : DA X E [] gaNil := pa_imp pa_nil (by
  rintro σ H Q ⟨G, S, ρ, w, kx, k, hr, sr, xl, kl, h⟩
  exact kl _ _ _ _ _ _ (Ext.refl _ _) hr .nil h)
theorem da_cons (ha : DE X E e g) (hr : DA X E es t) (hs : starEach (e :: es) X.env = (false, eval e X.env) :: starEach es X.env := by rfl) : DA X E (e :: es) (gaCons g t) := by
  refine pa_imp (pa_cons ha hr hs) ?_
  rintro σ H Q ⟨G, S, ρ, w, kx, k, hr, sr, xl, kl, h⟩
  exact ⟨G, S, ρ, w, kx, _, hr, sr, xl, fun G1 S1 H1 w1 d x x1 hr1 rp h1 => ⟨G1, S1, ρ, w1, kx, _, hr1, sr.mono x1, xl.mono x1, fun G2 S2 H2 w2 ds xs x2 hr2 rp2 h2 => kl _ _ _ _ _ _ (x1.trans x2) hr2 (.cons (rp.mono x2) rp2) h2, h1⟩, h⟩
theorem de_tup {x1} (h : DA X E es t) : DE X E (.Tuple es x1 pos) (gTup t) := by
  refine pe_imp (pe_tup h) ?_
  rintro σ H Q ⟨G, S, ρ, w, kx, k, hr, sr, xl, kl, h⟩
  exact ⟨G, S, ρ, w, kx, _, hr, sr, xl, fun G1 S1 H1 w1 ds xs x1 hr1 rp h1 => ⟨by rw [rp.length]; exact h1.1, (kl.mono x1).newT hr1 rp h1.2⟩, h⟩
theorem de_lst (h : DA X E es t) : DE X E (.List es pos) (gLst t) := by
  refine pe_imp (pe_lst h) ?_
  rintro σ H Q ⟨G, S, ρ, w, kx, k, hr, sr, xl, kl, h⟩
  exact ⟨G, S, ρ, w, kx, _, hr, sr, xl, fun G1 S1 H1 w1 ds xs x1 hr1 rp h1 => ⟨by rw [rp.length]; exact h1.1, (kl.mono x1).newL hr1 rp h1.2⟩, h⟩
theorem KL.newCL {K : PySem.W.Frag} {G : Gh} {S H : Hp} {w : Wd} {k : KD} {Q : VK} {xs : List V} {ds : List D} (kl : KL K G S k Q) (hr : HR K G S w H) (r : RepAll K G S xs ds) (h : k (.rf w.M.length) ⟨w.M ++ [.lst ds], w.n⟩) : ∀ p, H p = none → Q (.ref p) (upd H p (.lst xs)) := fun p hp => by
  have x : Ext G S ⟨G.al ++ [p], G.st, G.fr⟩ S := ⟨⟨[p], rfl⟩, fun _ z => z, fun _ z => z, Same.refl S⟩
  obtain ⟨h1, _⟩ := hr.newC hp (.lst xs) (.lst ds) ⟨hr.freshS hp, xs, upd_same, r.mono x⟩
  refine kl _ _ _ _ _ _ x h1 (.rf ?_) h
  show (G.al ++ [p])[w.M.length]? = some p
  rw [List.getElem?_append_right (by rw [hr.len]; exact Nat.le_refl _), hr.len, Nat.sub_self]
  rfl
theorem de_lstC (h : DA X E es t) : DE X E (.List es pos) (gLstC t) := by
  refine pe_imp (pe_lst h) ?_
  rintro σ H Q ⟨G, S, ρ, w, kx, k, hr, sr, xl, kl, h⟩
  exact ⟨G, S, ρ, w, kx, _, hr, sr, xl, fun G1 S1 H1 w1 ds xs x1 hr1 rp h1 => ⟨by rw [rp.length]; exact h1.1, (kl.mono x1).newCL hr1 rp h1.2⟩, h⟩
def gFrz (g : GE) : GE := fun ρ w kx k => g ρ w kx fun x w1 => match x with
  | .rf i => match w1.M[i]? with
    | some (.lst ds) => k (.lst ds) ⟨w1.M.set i .dead, w1.n⟩
    | _ => False
  | _ => False
end

def seqD (d : D) (w : Wd) : Option (List D) := match d with
  | .lst xs => some xs
  | .tup xs => some xs
  | .rf c => match w.M[c]? with
    | some (.lst xs) => some xs
    | _ => none
  | _ => none
theorem rep_seq {K : PySem.W.Frag} {G : Gh} {S H : Hp} {w : Wd} {v : V} {d : D} {ds : List D} (hr : HR K G S w H) (r : Rep K G S v d) (h : seqD d w = some ds) :
    ∃ a xs, v = .ref a ∧ (SqL K H a xs ∨ SqT K H a xs) ∧ RepAll K G S xs ds := by
  cases r with
  | lst e r => cases h; exact ⟨_, _, rfl, .inl (.inl (.inl (hr.same _ _ e))), r⟩
  | tup e r => cases h; exact ⟨_, _, rfl, .inr (sqT_up hr.same e), r⟩
  | rf e =>
    rename_i a i
    unfold seqD at h
    simp only at h
    split at h
    · rename_i xs e2
      cases h
      obtain ⟨_, ys, h1, h2⟩ := hr.cell i a _ e e2
      exact ⟨_, _, rfl, .inl (.inl (.inl h1)), h2⟩
    · cases h
  | _ => cases h
theorem rep_at {K : PySem.W.Frag} {G : Gh} {S : Hp} {xs : List V} {ds : List D} {i : Int} {d : D} (r : RepAll K G S xs ds) (h : atI ds i = some d) : ∃ v, atI xs i = some v ∧ Rep K G S v d := by
  unfold atI at h ⊢
  rw [r.length]
  cases e : ixN ds.length i with
  | none => rw [e] at h; cases h
  | some j =>
    rw [e] at h
    exact r.get h
def ixD : F2 := fun x y w k => match y with
  | .int i => match x with
    | .str z => z.length ≤ sizeLine ∧ match atI z.cps.toList i with
      | some c => k (.str ⟨#[c]⟩) w
      | none => False
    | _ => match seqD x w with
      | some ds => match atI ds i with
        | some d => k d w
        | none => False
      | none => False
  | _ => False
theorem ok_ixD {K : PySem.W.Frag} : BinOk K (rIx K) ixD := by
  intro G S H w x y d e k Q hr rx ry kl h
  cases ry with
  | int i =>
    have seq : (match seqD d w with
      | some ds => match atI ds i with
        | some d => k d w
        | none => False
      | none => False) → rIx K x (.int i) H Q := fun h => by
      split at h
      · rename_i ds e1
        split at h
        · rename_i d2 e2
          obtain ⟨a, xs, rfl, hs, r⟩ := rep_seq hr rx e1
          obtain ⟨v, h1, h2⟩ := rep_at r e2
          rcases hs with hs | hs
          · exact .inl ⟨_, _, _, _, rfl, rfl, hs, h1, kl.here hr h2 h⟩
          · exact .inr (.inl ⟨_, _, _, _, rfl, rfl, hs, h1, kl.here hr h2 h⟩)
        · exact h.elim
      · exact h.elim
    cases rx with
    | str z =>
      obtain ⟨h1, h⟩ := h
      split at h
      · rename_i c e2
        exact .inr (.inr ⟨_, _, _, rfl, rfl, h1, e2, kl.here hr (.str _) h⟩)
      · exact h.elim
    | lst e1 r => exact seq h
    | tup e1 r => exact seq h
    | rf e1 => exact seq h
    | _ => exact h.elim
  | _ => exact h.elim
section
variable {X : Cx} {E : XK} {a b : Expr} {ga gb : GE} {pos : Pos}
theorem de_ix (ha : DE X E a ga) (hb : DE X E b gb) (hs : PlainIx b := by exact fun _ _ => rfl) : DE X E (.Subscript a b pos) (gBin ixD ga gb) := pe_imp (pe_ix ix_seq ha hb hs) (bin_up ok_ixD)
end
abbrev GO := Rho → Wd → KX → (Option Int → Wd → Prop) → Prop
def upO (K : PySem.W.Frag) (E : XK) (g : GO) : TO := fun σ H Q => ∃ G S ρ w kx k, HR K G S w H ∧ SR K G S σ ρ ∧ XL K G S kx E ∧ (∀ G' S' H' w' o, Ext G S G' S' → HR K G' S' w' H' → k o w' → Q o H') ∧ g ρ w kx k
def DO (X : Cx) (E : XK) (e : Option Expr) (g : GO) : Prop := PO X e (upO X.K E g)
def goNone : GO := fun _ w _ k => k none w
def goSome (g : GE) : GO := fun ρ w kx k => g ρ w kx fun x w1 => match x with
  | .int i => k (some i) w1
  | _ => False
def cutD {α : Type} (xs : List α) (lo hi : Option Int) : List α := (xs.drop (HT.sIx xs.length 0 lo)).take (HT.sIx xs.length xs.length hi - HT.sIx xs.length 0 lo)
def slD : D → Option Int → Option Int → Wd → KD → Prop := fun x lo hi w k => match x with
  | .lst ds => k (.lst (cutD ds lo hi)) w
  | .tup ds => ¬ (HT.sIx ds.length 0 lo = 0 ∧ HT.sIx ds.length ds.length hi = ds.length) ∧ k (.tup (cutD ds lo hi)) w
  | .rf i => match w.M[i]? with
    | some (.lst ds) => k (.lst (cutD ds lo hi)) w
    | _ => False
  | _ => False
def gSl (f : D → Option Int → Option Int → Wd → KD → Prop) (g : GE) (l h : GO) : GE := fun ρ w kx k => g ρ w kx fun x w1 => l ρ w1 kx fun lo w2 => h ρ w2 kx fun hi w3 => f x lo hi w3 k
def SlOk (K : PySem.W.Frag) (r : V → Option Int → Option Int → Hp → VK → Prop) (f : D → Option Int → Option Int → Wd → KD → Prop) : Prop := ∀ {G S H w x d lo hi k Q}, HR K G S w H → Rep K G S x d → KL K G S k Q → f d lo hi w k → r x lo hi H Q
theorem rep_cut {K : PySem.W.Frag} {G : Gh} {S : Hp} {xs : List V} {ds : List D} {lo hi : Option Int} (r : RepAll K G S xs ds) : RepAll K G S (cutV xs lo hi) (cutD ds lo hi) := by
  unfold cutV cutD
  rw [r.length]
  exact (r.drop _).take _
section
variable {X : Cx} {E : XK} {a b : Expr} {ga gb : GE} {gl gh : GO} {pos p2 : Pos} {lo hi : Option Expr}
theorem do_none : DO X E none goNone := by
  have h := po_none (X := X)
  refine ⟨fun pins s σ H Q I q => h.run pins s σ H Q I ?_⟩
  obtain ⟨G, S, ρ, w, kx, k, hr, sr, xl, kl, h⟩ := q
  exact kl _ _ _ _ _ (Ext.refl _ _) hr h
theorem do_some (ha : DE X E a ga) : DO X E (some a) (goSome ga) := by
  have h := po_some (X := X) ha
  refine ⟨fun pins s σ H Q I q => h.run pins s σ H Q I ?_⟩
  obtain ⟨G, S, ρ, w, kx, k, hr, sr, xl, kl, h⟩ := q
  refine ⟨G, S, ρ, w, kx, _, hr, sr, xl, fun G1 S1 H1 w1 d x x1 hr1 rp h1 => ?_, h⟩
  cases rp with
  | int i => exact ⟨i, rfl, kl _ _ _ _ _ x1 hr1 h1⟩
  | _ => exact h1.elim
theorem de_slice {r : V → Option Int → Option Int → Hp → VK → Prop} {f : D → Option Int → Option Int → Wd → KD → Prop} (hs : SlR X r) (hf : SlOk X.K r f) (he : DE X E a ga) (hl : DO X E lo gl) (hu : DO X E hi gh) : DE X E (.Subscript a (.Slice lo hi none p2) pos) (gSl f ga gl gh) := by
  refine pe_imp (pe_slice hs he hl hu) ?_
  rintro σ H Q ⟨G, S, ρ, w, kx, k, hr, sr, xl, kl, h⟩
  exact ⟨G, S, ρ, w, kx, _, hr, sr, xl, fun G1 S1 H1 w1 d x x1 hr1 rp h1 => ⟨G1, S1, ρ, w1, kx, _, hr1, sr.mono x1, xl.mono x1, fun G2 S2 H2 w2 l x2 hr2 h2 =>
    ⟨G2, S2, ρ, w2, kx, _, hr2, sr.mono (x1.trans x2), xl.mono (x1.trans x2), fun G3 S3 H3 w3 u x3 hr3 h3 => hf hr3 (rp.mono (x2.trans x3)) (kl.mono ((x1.trans x2).trans x3)) h3, h2⟩, h1⟩, h⟩
def rSlLT (K : PySem.W.Frag) : V → Option Int → Option Int → Hp → VK → Prop := fun x lo hi H Q => rSlL K x lo hi H Q ∨ rSlT K x lo hi H Q
end
end DL

namespace DL
open PySem PySem.Spec PyProof.Rows L2

abbrev GF := List D → Wd → KX → KD → Prop
abbrev noX : KX := fun _ _ => False
def upF (n : Nat) (K : PySem.W.Frag) (g : GF) : Sp := fun vs H Q E => ∃ G S ds w kx k, ds.length = n ∧ HR K G S w H ∧ RepAll K G S vs ds ∧ XL K G S kx E ∧ KL K G S k Q ∧ g ds w kx k
theorem up_imp {n : Nat} {K : PySem.W.Frag} {g g' : GF} (h : ∀ ds w kx k, g' ds w kx k → g ds w kx k) : ∀ vs H Q E, upF n K g' vs H Q E → upF n K g vs H Q E := by
  rintro vs H Q E ⟨G, S, ds, w, kx, k, h1, h2, h3, h4, h5, h6⟩
  exact ⟨G, S, ds, w, kx, k, h1, h2, h3, h4, h5, h _ _ _ _ h6⟩
theorem xl_no {K : PySem.W.Frag} {G : Gh} {S : Hp} {E : XK} : XL K G S noX E := fun _ _ _ _ _ _ _ _ _ _ h => h.elim
def rho (n : Nat) (ds : List D) : Rho := ds.map some ++ List.replicate (n - ds.length) none
def sem0 (n : Nat) (g : GS) : GF := fun ds w _ k => g { nx := fun _ w' => k .non w', rt := k, ex := noX } (rho n ds) w
def semX (n : Nat) (g : GS) : GF := fun ds w kx k => g { nx := fun _ w' => k .non w', rt := k, ex := kx } (rho n ds) w
theorem sr_start {K : PySem.W.Frag} {G : Gh} {S : Hp} {N : List Str} : ∀ {vs : List V} {ds : List D}, RepAll K G S vs ds → SR K G S (L2.start N vs) (rho N.length ds) := by
  intro vs ds r
  have l := r.length
  refine ⟨by simp [L2.start, rho, l], fun i d e => ?_⟩
  unfold rho at e
  by_cases hi : i < ds.length
  · rw [List.getElem?_append_left (by simpa using hi)] at e
    have e' : ds[i]? = some d := by
      rw [List.getElem?_map] at e
      cases q : ds[i]? with
      | none => rw [q] at e; cases e
      | some z => rw [q] at e; simpa using e
    obtain ⟨v, h1, h2⟩ := r.get e'
    refine ⟨v, ?_, h2⟩
    unfold L2.start
    rw [List.getElem?_append_left (by simpa [l] using hi), List.getElem?_map, h1]
    rfl
  · rw [List.getElem?_append_right (by simpa using Nat.le_of_not_lt hi)] at e
    have := List.mem_of_getElem? e
    rw [List.mem_replicate] at this
    cases this.2
structure DefAt (K : PySem.W.Frag) (mg : Str → Option Value) (x : Str) (st : Stmt) (ps : List Str) : Prop where
  ex : ∃ f fd, Fun K x x st f fd ∧ mg x = some (.ref f) ∧ Binds K fd ps []
structure FnAt (P : Program) (w : World) (K : PySem.W.Frag) (mg : Str → Option Value) (base : Heap) (CX : CXT) (k : Nat) (x : Str) (n : Nat) (g : GF) : Prop where
  ex : ∃ f fd ps, FnOk P w K mg base CX k f fd ps (upF n K g) ∧ mg x = some (.ref f) ∧ PySem.W.keepIn K (.ref f) = true ∧ Binds K fd ps []
section
variable {P : Program} {w : World} {K : PySem.W.Frag} {mg : Str → Option Value} {base : Heap}
theorem FnAt.imp {CX : CXT} {k : Nat} {x : Str} {n : Nat} {g g' : GF} (h : FnAt P w K mg base CX k x n g) (i : ∀ ds w kx k, g' ds w kx k → g ds w kx k) : FnAt P w K mg base CX k x n g' := by
  obtain ⟨f, fd, ps, h1, h2⟩ := h.ex
  exact ⟨f, fd, ps, h1.imp (up_imp i), h2⟩
theorem FnAt.mono {CX : CXT} {j k : Nat} {x : Str} {n : Nat} {g : GF} (h : FnAt P w K mg base CX j x n g) (i : j ≤ k) : FnAt P w K mg base CX k x n g := by
  obtain ⟨f, fd, ps, h1, h2⟩ := h.ex
  exact ⟨f, fd, ps, h1.mono i, h2⟩
theorem fun_fn0 {x : Str} {st : Stmt} {f : Addr} {fd : FuncData} {N ps : List Str} {k : Nat} {g : GS} (F : Fun K x x st f fd) (S : FnScope N ps (defScope st))
    (hbody : ∀ (f : Addr) (cdv : Value) (A : Around) (outer : List Env) (s : Shared) (H : Hp) (E : XK), Room k (A.deeper (envOfC x (defScope st) s.heap.objs.size f cdv)) →
      DSs (cxOf CX0 P w K mg base N x (defScope st) f cdv A outer s H E).nox E0 (defBody st) g) : FnOk P w K mg base CX0 (k + 1) f fd ps (upF ps.length K (sem0 N.length g)) := by
  refine F.ok S (fun vs H Q E h => ?_) (fun cdv A outer s H vs Q E hr h => ?_)
  · obtain ⟨G, S, ds, w, kx, k, h1, h2, h3, _⟩ := h
    rw [h3.length, h1]
  · obtain ⟨G, S1, ds, w1, kx, k1, h1, h2, h3, h4, h5, h6⟩ := h
    refine ⟨_, hbody f cdv A outer s H E hr, G, S1, rho N.length ds, w1, { nx := fun _ w' => k1 .non w', rt := k1, ex := noX }, h2, sr_start h3, ⟨fun G' S' H' w' ρ' σ' x1 hr1 _ hk => h5 _ _ _ _ _ _ x1 hr1 .non hk, h5, ?_, ?_, xl_no⟩, h6⟩
    · intro _ _ _ _ _ _ _ _ _ z
      exact z.elim
    · intro _ _ _ _ _ _ _ _ _ z
      exact z.elim
theorem DefAt.fn0 {x : Str} {st : Stmt} {N ps : List Str} {k : Nat} {g : GS} (T : DefAt K mg x st ps) (S : FnScope N ps (defScope st))
    (hbody : ∀ (f : Addr) (cdv : Value) (A : Around) (outer : List Env) (s : Shared) (H : Hp) (E : XK), Room k (A.deeper (envOfC x (defScope st) s.heap.objs.size f cdv)) →
      DSs (cxOf CX0 P w K mg base N x (defScope st) f cdv A outer s H E).nox E0 (defBody st) g) : FnAt P w K mg base CX0 (k + 1) x ps.length (sem0 N.length g) := by
  obtain ⟨f, fd, F, hm, hb⟩ := T.ex
  exact ⟨f, fd, ps, fun_fn0 F S hbody, hm, F.kp, hb⟩
theorem DefAt.mk0 {x : Str} {st : Stmt} {ps : List Str} {k n : Nat} {g : GF} (T : DefAt K mg x st ps) (h : ∀ f fd, Fun K x x st f fd → FnOk P w K mg base CX0 k f fd ps (upF n K g)) : FnAt P w K mg base CX0 k x n g := by
  obtain ⟨f, fd, F, hm, hb⟩ := T.ex
  exact ⟨f, fd, ps, h f fd F, hm, F.kp, hb⟩
end
section
variable {X : Cx} {E : XK} {k n : Nat} {g : GF} {x : Str} {e : Expr} {es : List Expr} {ga : GA} {p pos : Pos}
def gCall0 (n : Nat) (g : GF) (ga : GA) : GE := fun ρ w kx k => ga ρ w kx fun ds w1 => ds.length = n ∧ g ds w1 noX k
theorem de_call0 {j : Nat} (F : FnAt X.prog X.w X.K X.mg X.base CX0 j x n g) (hr : Room k X.A) (hg : Gl X x) (ha : DA X E (e :: es) ga) (hjk : j ≤ k := by decide) (hdb : (x == ("__debug__" : Str)) = false := by decide) (he : starEach (e :: es) X.env = (false, eval e X.env) :: starEach es X.env := by rfl) (hpl : (backTo pos (starEach es X.env)).any (·.1) = false := by rfl) :
    DE X E (.Call (.Name x p) (e :: es) [] pos) (gCall0 n g ga) := by
  obtain ⟨f, fd, ps, h1, h2, h3, h4⟩ := F.ex
  refine pe_imp (pe_call h1 (hr.mono hjk) hg h2 h3 h4 .nil pass0 ha hdb he hpl) ?_
  rintro σ H Q ⟨G, S, ρ, w, kx, k, hr, sr, xl, kl, h⟩
  refine ⟨G, S, ρ, w, kx, _, hr, sr, xl, fun G1 S1 H1 w1 ds vs x1 hr1 rp hq => ?_, h⟩
  show upF n X.K g (vs ++ []) H1 Q E0
  rw [List.append_nil]
  exact ⟨G1, S1, ds, w1, noX, k, hq.1, hr1, rp, xl_no, kl.mono x1, hq.2⟩
end

abbrev FB := List D → Wd → KD → Prop
def CallOk (K : PySem.W.Frag) (r : List V → Hp → VK → Prop) (f : FB) : Prop := ∀ {G S H w xs ds k Q}, HR K G S w H → RepAll K G S xs ds → KL K G S k Q → f ds w k → r xs H Q
def gCB (f : FB) (ga : GA) : GE := fun ρ w kx k => ga ρ w kx fun ds w1 => f ds w1 k
section
variable {X : Cx} {E : XK} {r : List V → Hp → VK → Prop} {f : FB} {id T : String} {x : Str} {e : Expr} {es : List Expr} {ga : GA} {p pos : Pos}
theorem cb_up {K : PySem.W.Frag} (hf : CallOk K r f) : ∀ σ H Q, upE K E (gCB f ga) σ H Q → tCB r (upA K E ga) σ H Q := by
  rintro σ H Q ⟨G, S, ρ, w, kx, k, hr, sr, xl, kl, h⟩
  exact ⟨G, S, ρ, w, kx, _, hr, sr, xl, fun G1 S1 H1 w1 ds vs x1 hr1 rp hq => hf hr1 rp (kl.mono x1) hq, h⟩
theorem de_cb (hc : CallR X (.builtin id) r) (hf : CallOk X.K r f) (hg : Gl X x) (hm : X.mg x = none) (hv : bootBuiltins x = some (.builtin id)) (ha : DA X E (e :: es) ga) (hn : x ≠ "__name__" := by decide) (hdb : (x == ("__debug__" : Str)) = false := by decide)
    (he : starEach (e :: es) X.env = (false, eval e X.env) :: starEach es X.env := by rfl) (hpl : (backTo pos (starEach es X.env)).any (·.1) = false := by rfl) : DE X E (.Call (.Name x p) (e :: es) [] pos) (gCB f ga) :=
  pe_imp (pe_callB hc hg hm hv ha hn hdb he hpl) (cb_up hf)
theorem de_ct (hc : CallR X (.type T) r) (hf : CallOk X.K r f) (hg : Gl X x) (hm : X.mg x = none) (hv : bootBuiltins x = some (.type T)) (ha : DA X E (e :: es) ga) (hn : x ≠ "__name__" := by decide) (hdb : (x == ("__debug__" : Str)) = false := by decide)
    (he : starEach (e :: es) X.env = (false, eval e X.env) :: starEach es X.env := by rfl) (hpl : (backTo pos (starEach es X.env)).any (·.1) = false := by rfl) : DE X E (.Call (.Name x p) (e :: es) [] pos) (gCB f ga) :=
  pe_imp (pe_callTy hc hg hm hv ha hn hdb he hpl) (cb_up hf)
end
theorem one_rep {K : PySem.W.Frag} {G : Gh} {S : Hp} {xs : List V} {d : D} (r : RepAll K G S xs [d]) : ∃ v, xs = [v] ∧ Rep K G S v d := by
  cases r with
  | cons h t => cases t; exact ⟨_, rfl, h⟩
theorem two_rep {K : PySem.W.Frag} {G : Gh} {S : Hp} {xs : List V} {d e : D} (r : RepAll K G S xs [d, e]) : ∃ v u, xs = [v, u] ∧ Rep K G S v d ∧ Rep K G S u e := by
  cases r with
  | cons h t =>
    obtain ⟨u, rfl, h2⟩ := one_rep t
    exact ⟨_, _, rfl, h, h2⟩
def fAbs : FB := fun ds w k => match ds with
  | [.int i] => k (.int i.natAbs) w
  | _ => False
theorem ok_abs {K : PySem.W.Frag} : CallOk K (fun xs H Q => ∃ i, xs = [.int i] ∧ Q (.int (if i < 0 then -i else i)) H) fAbs := by
  intro G S H w xs ds k Q hr rx kl h
  unfold fAbs at h
  split at h
  · rename_i i
    obtain ⟨v, rfl, r⟩ := one_rep rx
    cases r
    refine ⟨_, rfl, ?_⟩
    have e : (if i < 0 then -i else i) = (i.natAbs : Int) := by split <;> omega
    rw [e]
    exact kl.here hr (.int _) h
  · exact h.elim
def fLen : FB := fun ds w k => match ds with
  | [.str z] => z.length ≤ sizeLine ∧ k (.int z.length) w
  | [d] => match seqD d w with
    | some xs => k (.int xs.length) w
    | none => match d with
      | .rf c => match w.M[c]? with
        | some (.dk kvs) => k (.int kvs.length) w
        | _ => False
      | _ => False
  | _ => False
def rLen (K : PySem.W.Frag) : List V → Hp → VK → Prop := fun xs H Q => (∃ x n, xs = [x] ∧ LenV K x H n ∧ Q (.int n) H) ∨ (∃ (a : Addr) (kvs : List (Key × V)), xs = [V.ref a] ∧ Rd H a (.dK kvs) ∧ Q (.int kvs.length) H)
theorem call_lenR {X : Cx} : CallR X (.builtin "len") (rLen X.K) := by
  intro pins s σ H xs us Q I r h
  rcases h with h | ⟨a, kvs, rfl, hd, q⟩
  · exact call_len pins s σ H xs us Q I r h
  · obtain ⟨u, rfl, r1⟩ := vals1 r
    cases r1
    exact d_len I hd fun t s' I' => ⟨.int kvs.length, H, I', ⟨_, rfl⟩, q⟩
theorem fs_len {K : PySem.W.Frag} {G : Gh} {S : Hp} {κ : Type} {xs : List (κ × V)} {ds : List (κ × D)} (r : FsRep K G S xs ds) : xs.length = ds.length := Paired.length r
theorem ok_len {K : PySem.W.Frag} : CallOk K (rLen K) fLen := by
  intro G S H w xs ds k Q hr rx kl h
  unfold fLen at h
  split at h
  · obtain ⟨v, rfl, r⟩ := one_rep rx
    cases r
    exact .inl ⟨_, _, rfl, ⟨h.1, rfl⟩, kl.here hr (.int _) h.2⟩
  · rename_i d hd
    obtain ⟨v, rfl, r⟩ := one_rep rx
    split at h
    · rename_i xs e1
      obtain ⟨a, ys, rfl, hs, r2⟩ := rep_seq hr r e1
      refine .inl ⟨_, _, rfl, ?_, kl.here hr (.int _) h⟩
      rcases hs with hs | hs
      · exact .inl ⟨ys, hs, r2.length.symm⟩
      · exact .inr ⟨ys, hs, r2.length.symm⟩
    · split at h
      · rename_i c
        split at h
        · rename_i kvs e2
          cases r with
          | rf ha =>
            obtain ⟨_, ks, h1, h2⟩ := hr.cell _ _ _ ha e2
            refine .inr ⟨_, ks, rfl, .inl h1, ?_⟩
            rw [fs_len h2]
            exact kl.here hr (.int _) h
        · exact h.elim
      · exact h.elim
  · exact h.elim
def tyD (d : D) (w : Wd) : Option String := match d with
  | .non => some "NoneType"
  | .bl _ => some "bool"
  | .int _ => some "int"
  | .str _ => some "str"
  | .lst _ => some "list"
  | .tup _ => some "tuple"
  | .rf c => match w.M[c]? with
    | some (.lst _) => some "list"
    | some (.dk _) => some "dict"
    | _ => none
  | _ => none
theorem tyX_tup {K : PySem.W.Frag} {H : Hp} {a : Addr} {xs : List V} (h : SqT K H a xs) : TyX K H (.ref a) (.type "tuple") := by
  rcases h with (h | ⟨o, h⟩) | ⟨o, its, n, h1, h2, _⟩
  · exact .base (.tup h)
  · exact .fTuple h
  · exact .kTuple h1 h2
theorem rep_ty {K : PySem.W.Frag} {G : Gh} {S H : Hp} {w : Wd} {v : V} {d : D} {t : String} (hr : HR K G S w H) (r : Rep K G S v d) (h : tyD d w = some t) : TyX K H v (.type t) := by
  cases r with
  | non => cases h; exact .base .non
  | bl b => cases h; exact .base (.bl b)
  | int b => cases h; exact .base (.int b)
  | str b => cases h; exact .base (.str b)
  | lst e r => cases h; exact .base (.lst (hr.same _ _ e))
  | tup e r => cases h; exact tyX_tup (sqT_up hr.same e)
  | rf e =>
    unfold tyD at h
    simp only at h
    split at h
    · rename_i xs e2
      cases h
      obtain ⟨_, ys, h1, h2⟩ := hr.cell _ _ _ e e2
      exact .base (.lst h1)
    · rename_i xs e2
      cases h
      obtain ⟨_, ys, h1, h2⟩ := hr.cell _ _ _ e e2
      exact .base (.dK h1)
    · cases h
  | _ => cases h
def fIsi : FB := fun ds w k => match ds with
  | [x, .ob (.ty n)] => match tyD x w with
    | some t => match kitB t n with
      | some b => k (.bl b) w
      | none => False
    | none => False
  | _ => False
theorem ok_isi {K : PySem.W.Frag} : CallOk K (rIsi K) fIsi := by
  intro G S H w xs ds k Q hr rx kl h
  unfold fIsi at h
  split at h
  · rename_i x n
    split at h
    · rename_i t e1
      split at h
      · rename_i b e2
        obtain ⟨v, u, rfl, r1, r2⟩ := two_rep rx
        cases r2
        exact ⟨_, _, _, _, b, rfl, .ty n, rep_ty hr r1 e1, kit_ty e2, kl.here hr (.bl _) h⟩
      · exact h.elim
    · exact h.elim
  · exact h.elim
theorem kit_int_int : kitB "int" "int" = some true := by decide +kernel
theorem kit_bool_int : kitB "bool" "int" = some true := by decide +kernel
theorem kit_str_int : kitB "str" "int" = some false := by decide +kernel
theorem kit_non_int : kitB "NoneType" "int" = some false := by decide +kernel
theorem kit_list_int : kitB "list" "int" = some false := by decide +kernel
theorem kit_tuple_int : kitB "tuple" "int" = some false := by decide +kernel
theorem kit_int_bool : kitB "int" "bool" = some false := by decide +kernel
theorem kit_bool_bool : kitB "bool" "bool" = some true := by decide +kernel
theorem kit_str_bool : kitB "str" "bool" = some false := by decide +kernel
theorem kit_non_bool : kitB "NoneType" "bool" = some false := by decide +kernel
theorem kit_list_bool : kitB "list" "bool" = some false := by decide +kernel
theorem kit_tuple_bool : kitB "tuple" "bool" = some false := by decide +kernel
theorem kit_int_str : kitB "int" "str" = some false := by decide +kernel
theorem kit_bool_str : kitB "bool" "str" = some false := by decide +kernel
theorem kit_str_str : kitB "str" "str" = some true := by decide +kernel
theorem kit_non_str : kitB "NoneType" "str" = some false := by decide +kernel
theorem kit_list_str : kitB "list" "str" = some false := by decide +kernel
theorem kit_tuple_str : kitB "tuple" "str" = some false := by decide +kernel
theorem kit_int_list : kitB "int" "list" = some false := by decide +kernel
theorem kit_bool_list : kitB "bool" "list" = some false := by decide +kernel
theorem kit_str_list : kitB "str" "list" = some false := by decide +kernel
theorem kit_non_list : kitB "NoneType" "list" = some false := by decide +kernel
theorem kit_list_list : kitB "list" "list" = some true := by decide +kernel
theorem kit_tuple_list : kitB "tuple" "list" = some false := by decide +kernel
theorem kit_int_tuple : kitB "int" "tuple" = some false := by decide +kernel
theorem kit_bool_tuple : kitB "bool" "tuple" = some false := by decide +kernel
theorem kit_str_tuple : kitB "str" "tuple" = some false := by decide +kernel
theorem kit_non_tuple : kitB "NoneType" "tuple" = some false := by decide +kernel
theorem kit_list_tuple : kitB "list" "tuple" = some false := by decide +kernel
theorem kit_tuple_tuple : kitB "tuple" "tuple" = some true := by decide +kernel
def allBl : List D → Option (List Bool)
  | [] => some []
  | .bl b :: r => match allBl r with
    | some bs => some (b :: bs)
    | none => none
  | _ => none
def allInt : List D → Option (List Int)
  | [] => some []
  | .int b :: r => match allInt r with
    | some bs => some (b :: bs)
    | none => none
  | _ => none
theorem rep_bls {K : PySem.W.Frag} {G : Gh} {S : Hp} : ∀ {ds : List D} {vs : List V} {bs : List Bool}, RepAll K G S vs ds → allBl ds = some bs → vs = bs.map V.bl
  | [], _, _, r, e => by
    cases r
    cases e
    rfl
  | d :: ds, _, _, r, e => by
    cases r with
    | cons h r =>
      cases d with
      | bl b =>
        cases h
        unfold allBl at e
        cases q : allBl ds with
        | none =>
          rw [q] at e
          cases e
        | some bs =>
          rw [q] at e
          cases e
          rw [rep_bls r q]
          rfl
      | _ => simp [allBl] at e
theorem rep_ints {K : PySem.W.Frag} {G : Gh} {S : Hp} : ∀ {ds : List D} {vs : List V} {bs : List Int}, RepAll K G S vs ds → allInt ds = some bs → vs = bs.map V.int
  | [], _, _, r, e => by
    cases r
    cases e
    rfl
  | d :: ds, _, _, r, e => by
    cases r with
    | cons h r =>
      cases d with
      | int b =>
        cases h
        unfold allInt at e
        cases q : allInt ds with
        | none =>
          rw [q] at e
          cases e
        | some bs =>
          rw [q] at e
          cases e
          rw [rep_ints r q]
          rfl
      | _ => simp [allInt] at e
def fAll : FB := fun ds w k => match ds with
  | [.lst xs] => match allBl xs with
    | some bs => k (.bl (bs.all id)) w
    | none => False
  | _ => False
def fAny : FB := fun ds w k => match ds with
  | [.lst xs] => match allBl xs with
    | some bs => k (.bl (bs.any id)) w
    | none => False
  | _ => False
theorem ok_all {K : PySem.W.Frag} : CallOk K (rAll K) fAll := by
  intro G S H w xs ds k Q hr rx kl h
  unfold fAll at h
  split at h
  · split at h
    · rename_i bs e
      obtain ⟨v, rfl, r⟩ := one_rep rx
      cases r with
      | lst h1 r1 =>
        have e2 := rep_bls r1 e
        subst e2
        exact ⟨_, bs, rfl, .inl (.inl (hr.same _ _ h1)), kl.here hr (.bl _) h⟩
    · exact h.elim
  · exact h.elim
def fSum : FB := fun ds w k => match ds with
  | [.lst xs] => match allInt xs with
    | some bs => k (.int bs.sum) w
    | none => False
  | _ => False
theorem ok_sum {K : PySem.W.Frag} : CallOk K (rSum K) fSum := by
  intro G S H w xs ds k Q hr rx kl h
  unfold fSum at h
  split at h
  · split at h
    · rename_i bs e
      obtain ⟨v, rfl, r⟩ := one_rep rx
      cases r with
      | lst h1 r1 =>
        have e2 := rep_ints r1 e
        subst e2
        exact ⟨_, bs, rfl, .inl (.inl (hr.same _ _ h1)), kl.here hr (.int _) h⟩
    · exact h.elim
  · exact h.elim
def fList : FB := fun ds w k => match ds with
  | [d] => match seqD d w with
    | some xs => k (.lst xs) w
    | none => False
  | _ => False
def fTuple : FB := fun ds w k => match ds with
  | [d] => match seqD d w with
    | some xs => k (.tup xs) w
    | none => False
  | _ => False
theorem ok_tuple {K : PySem.W.Frag} : CallOk K (fun xs H Q => ∃ p ys, xs = [.ref p] ∧ ((SqL K H p ys ∧ ∀ l, H l = none → Q (.ref l) (upd H l (.tup ys))) ∨ (SqT K H p ys ∧ Q (.ref p) H))) fTuple := by
  intro G S H w xs ds k Q hr rx kl h
  unfold fTuple at h
  split at h
  · rename_i d
    split at h
    · rename_i bs e
      obtain ⟨v, rfl, r⟩ := one_rep rx
      cases r with
      | lst e1 r =>
        cases e
        exact ⟨_, _, rfl, .inl ⟨.inl (.inl (hr.same _ _ e1)), kl.newT hr r h⟩⟩
      | tup e1 r =>
        cases e
        exact ⟨_, _, rfl, .inr ⟨sqT_up hr.same e1, kl.here hr (.tup e1 r) h⟩⟩
      | rf e1 =>
        unfold seqD at e
        simp only at e
        split at e
        · rename_i xs e2
          cases e
          obtain ⟨_, ys, h1, h2⟩ := hr.cell _ _ _ e1 e2
          exact ⟨_, _, rfl, .inl ⟨.inl (.inl h1), kl.newT hr h2 h⟩⟩
        · cases e
      | _ => cases e
    · exact h.elim
  · exact h.elim
def fInt : FB := fun ds w k => match ds with
  | [.int i] => k (.int i) w
  | [.bl b] => k (.int (if b then 1 else 0)) w
  | _ => False
theorem ok_int {K : PySem.W.Frag} : CallOk K (fun xs H Q => (∃ i, xs = [.int i] ∧ Q (.int i) H) ∨ ∃ k, xs = [.bl k] ∧ Q (.int (if k then 1 else 0)) H) fInt := by
  intro G S H w xs ds k Q hr rx kl h
  unfold fInt at h
  split at h
  · obtain ⟨v, rfl, r⟩ := one_rep rx
    cases r
    exact .inl ⟨_, rfl, kl.here hr (.int _) h⟩
  · obtain ⟨v, rfl, r⟩ := one_rep rx
    cases r
    exact .inr ⟨_, rfl, kl.here hr (.int _) h⟩
  · exact h.elim
def fMin2 : FB := fun ds w k => match ds with
  | [.int i, .int j] => k (.int (if j < i then j else i)) w
  | _ => False
theorem ok_min2 {K : PySem.W.Frag} : CallOk K (fun xs H Q => ∃ i j, xs = [.int i, .int j] ∧ Q (.int (if j < i then j else i)) H) fMin2 := by
  intro G S H w xs ds k Q hr rx kl h
  unfold fMin2 at h
  split at h
  · obtain ⟨v, u, rfl, r1, r2⟩ := two_rep rx
    cases r1
    cases r2
    exact ⟨_, _, rfl, kl.here hr (.int _) h⟩
  · exact h.elim
structure Blt (mg : Str → Option Value) : Prop where
  abs_ : mg "abs" = none
  len_ : mg "len" = none
  isi_ : mg "isinstance" = none
  all_ : mg "all" = none
  any_ : mg "any" = none
  sum_ : mg "sum" = none
  list_ : mg "list" = none
  tuple_ : mg "tuple" = none
  int_ : mg "int" = none
  bool_ : mg "bool" = none
  str_ : mg "str" = none
  min_ : mg "min" = none
  max_ : mg "max" = none
  range_ : mg "range" = none
  zip_ : mg "zip" = none
  sorted_ : mg "sorted" = none
  enum_ : mg "enumerate" = none
  divmod_ : mg "divmod" = none
section
variable {X : Cx} {E : XK} {e : Expr} {es : List Expr} {ga : GA} {p pos : Pos} (B : Blt X.mg)
include B
theorem de_abs (hg : Gl X "abs") (ha : DA X E (e :: es) ga) (he : starEach (e :: es) X.env = (false, eval e X.env) :: starEach es X.env := by rfl) (hpl : (backTo pos (starEach es X.env)).any (·.1) = false := by rfl) : DE X E (.Call (.Name "abs" p) (e :: es) [] pos) (gCB fAbs ga) := de_cb call_abs ok_abs hg B.abs_ (by decide +kernel) ha (he := he) (hpl := hpl)
theorem de_len (hg : Gl X "len") (ha : DA X E (e :: es) ga) (he : starEach (e :: es) X.env = (false, eval e X.env) :: starEach es X.env := by rfl) (hpl : (backTo pos (starEach es X.env)).any (·.1) = false := by rfl) : DE X E (.Call (.Name "len" p) (e :: es) [] pos) (gCB fLen ga) := de_cb call_lenR ok_len hg B.len_ (by decide +kernel) ha (he := he) (hpl := hpl)
theorem de_isi (hg : Gl X "isinstance") (ha : DA X E (e :: es) ga) (he : starEach (e :: es) X.env = (false, eval e X.env) :: starEach es X.env := by rfl) (hpl : (backTo pos (starEach es X.env)).any (·.1) = false := by rfl) : DE X E (.Call (.Name "isinstance" p) (e :: es) [] pos) (gCB fIsi ga) := de_cb call_isi ok_isi hg B.isi_ (by decide +kernel) ha (he := he) (hpl := hpl)
theorem de_all (hc : X.calm = true) (hg : Gl X "all") (ha : DA X E (e :: es) ga) (he : starEach (e :: es) X.env = (false, eval e X.env) :: starEach es X.env := by rfl) (hpl : (backTo pos (starEach es X.env)).any (·.1) = false := by rfl) : DE X E (.Call (.Name "all" p) (e :: es) [] pos) (gCB fAll ga) := de_cb (cr_all hc) ok_all hg B.all_ (by decide +kernel) ha (he := he) (hpl := hpl)
theorem de_sum (hc : X.calm = true) (hg : Gl X "sum") (ha : DA X E (e :: es) ga) (he : starEach (e :: es) X.env = (false, eval e X.env) :: starEach es X.env := by rfl) (hpl : (backTo pos (starEach es X.env)).any (·.1) = false := by rfl) : DE X E (.Call (.Name "sum" p) (e :: es) [] pos) (gCB fSum ga) := de_cb (cr_sum hc) ok_sum hg B.sum_ (by decide +kernel) ha (he := he) (hpl := hpl)
theorem de_tuple (hg : Gl X "tuple") (ha : DA X E (e :: es) ga) (he : starEach (e :: es) X.env = (false, eval e X.env) :: starEach es X.env := by rfl) (hpl : (backTo pos (starEach es X.env)).any (·.1) = false := by rfl) : DE X E (.Call (.Name "tuple" p) (e :: es) [] pos) (gCB fTuple ga) := de_ct call_tuple_of ok_tuple hg B.tuple_ (by decide +kernel) ha (he := he) (hpl := hpl)
theorem de_toint (hg : Gl X "int") (ha : DA X E (e :: es) ga) (he : starEach (e :: es) X.env = (false, eval e X.env) :: starEach es X.env := by rfl) (hpl : (backTo pos (starEach es X.env)).any (·.1) = false := by rfl) : DE X E (.Call (.Name "int" p) (e :: es) [] pos) (gCB fInt ga) := de_ct call_int1 ok_int hg B.int_ (by decide +kernel) ha (he := he) (hpl := hpl)
theorem de_min2 (hc : X.calm = true) (hg : Gl X "min") (ha : DA X E (e :: es) ga) (he : starEach (e :: es) X.env = (false, eval e X.env) :: starEach es X.env := by rfl) (hpl : (backTo pos (starEach es X.env)).any (·.1) = false := by rfl) : DE X E (.Call (.Name "min" p) (e :: es) [] pos) (gCB fMin2 ga) := de_cb (call_min2 hc) ok_min2 hg B.min_ (by decide +kernel) ha (he := he) (hpl := hpl)
end
end DL

namespace DL
open PySem PySem.Spec PyProof.Rows L2

def gNext : GS := fun F ρ w => F.nx ρ w
def gSeq (t u : GS) : GS := fun F ρ w => t { F with nx := u F } ρ w
def gCut (t u : GS) : GS := fun F ρ w => ∃ M : Rho → Wd → Prop, t { F with nx := M } ρ w ∧ ∀ ρ w, M ρ w → u F ρ w
def gBreak : GS := fun F ρ w => F.bk ρ w
def gCont : GS := fun F ρ w => F.ct ρ w
def gDrop (g : GE) : GS := fun F ρ w => g ρ w F.ex fun _ w1 => F.nx ρ w1
def gRet (g : GE) : GS := fun F ρ w => g ρ w F.ex F.rt
def gRetN : GS := fun F _ w => F.rt .non w
def gIfS (c : GT) (t u : GS) : GS := fun F ρ w => c ρ w F.ex fun b w1 => if b = true then t F ρ w1 else u F ρ w1
def gNever : GS := fun _ _ _ => False
section
variable {X : Cx} {E : XK} {st : Stmt} {rest : List Stmt} {t u : GS} {e : Expr} {g : GE} {pos : Pos}
theorem el_seq {K : PySem.W.Frag} {G : Gh} {S : Hp} {F : DEnds} {D : Ends} (el : EL K G S E F D) (u : GS) : EL K G S E { F with nx := u F } { D with nx := upS K E u D } :=
  ⟨fun G1 S1 H1 w1 ρ1 σ1 x1 hr1 sr1 h1 => ⟨G1, S1, ρ1, w1, F, hr1, sr1, el.mono x1, h1⟩, el.rt, el.bk, el.ct, el.ex⟩
theorem dss_nil : DSs X E [] gNext := pss_imp pss_nil (by
  rintro D σ H ⟨G, S, ρ, w, F, hr, sr, el, h⟩
  exact el.nx _ _ _ _ _ _ (Ext.refl _ _) hr sr h)
theorem dss_cons (h1 : DS X E st t) (h2 : DSs X E rest u) : DSs X E (st :: rest) (gSeq t u) := pss_imp (pss_cons h1 h2) (by
  rintro D σ H ⟨G, S, ρ, w, F, hr, sr, el, h⟩
  exact ⟨G, S, ρ, w, { F with nx := u F }, hr, sr, el_seq el u, h⟩)
theorem dss_cut (h1 : DS X E st t) (h2 : DSs X E rest u) : DSs X E (st :: rest) (gCut t u) := pss_imp (pss_cons h1 h2) (by
  rintro D σ H ⟨G, S, ρ, w, F, hr, sr, el, M, h, hM⟩
  exact ⟨G, S, ρ, w, { F with nx := M }, hr, sr, ⟨fun G1 S1 H1 w1 ρ1 σ1 x1 hr1 sr1 h1 => ⟨G1, S1, ρ1, w1, F, hr1, sr1, el.mono x1, hM _ _ h1⟩, el.rt, el.bk, el.ct, el.ex⟩, h⟩)
theorem dss_one (h1 : DS X E st t) : DSs X E [st] t := pss_one h1
theorem ds_expr (he : DE X E e g) (hs : swapsWith e none pos.line X.env = pure false := by rfl) : DS X E (.Expr e pos) (gDrop g) := ps_imp (ps_expr he hs) (by
  rintro D σ H ⟨G, S, ρ, w, F, hr, sr, el, h⟩
  exact ⟨G, S, ρ, w, F.ex, _, hr, sr, el.ex, fun G1 S1 H1 w1 d v x1 hr1 _ h1 => el.nx _ _ _ _ _ _ x1 hr1 (sr.mono x1) h1, h⟩)
theorem ds_ret (he : DE X E e g) : DS X E (.Return (some e) pos) (gRet g) := ps_imp (ps_ret he) (by
  rintro D σ H ⟨G, S, ρ, w, F, hr, sr, el, h⟩
  exact ⟨G, S, ρ, w, F.ex, F.rt, hr, sr, el.ex, el.rt, h⟩)
theorem ds_if {c : Expr} {a b : List Stmt} {tc : GT} (hc : DT X E c tc) (ha : DSs X E a t) (hb : DSs X E b u) : DS X E (.If c a b pos) (gIfS tc t u) := ps_imp (ps_if hc ha hb) (by
  rintro D σ H ⟨G, S, ρ, w, F, hr, sr, el, h⟩
  refine ⟨G, S, ρ, w, F.ex, _, hr, sr, el.ex, fun G1 S1 H1 w1 c x1 hr1 h1 => ?_, h⟩
  cases c with
  | true => exact iteT ⟨G1, S1, ρ, w1, F, hr1, sr.mono x1, el.mono x1, by simpa using h1⟩
  | false => exact iteF ⟨G1, S1, ρ, w1, F, hr1, sr.mono x1, el.mono x1, by simpa using h1⟩)
end

abbrev GG := D → Rho → Wd → (Rho → Wd → Prop) → Prop
abbrev GGs := List D → Rho → Wd → (Rho → Wd → Prop) → Prop
def OffOk (vs : List Nat) (σ σ' : L2.St) : Prop := σ'.length = σ.length ∧ ∀ i, i ∉ vs → σ'[i]? = σ[i]?
def NLv (K : PySem.W.Frag) (G : Gh) (S : Hp) (vs : List Nat) (σ : L2.St) (k : Rho → Wd → Prop) (Q : L2.St → Hp → Prop) : Prop := ∀ G' S' H' w' ρ' σ', Ext G S G' S' → HR K G' S' w' H' → SR K G' S' σ' ρ' → OffOk vs σ σ' → k ρ' w' → Q σ' H'
def upG (K : PySem.W.Frag) (vs : List Nat) (g : GG) : TG := fun v σ H Q => ∃ G S ρ w d k, HR K G S w H ∧ SR K G S σ ρ ∧ Rep K G S v d ∧ NLv K G S vs σ k Q ∧ g d ρ w k
def upGs (K : PySem.W.Frag) (vs : List Nat) (g : GGs) : TGs := fun v σ H Q => ∃ G S ρ w d k, HR K G S w H ∧ SR K G S σ ρ ∧ RepAll K G S v d ∧ NLv K G S vs σ k Q ∧ g d ρ w k
def DG (X : Cx) (vs : List Nat) (e : Expr) (g : GG) : Prop := PG X e (upG X.K vs g)
def DGs (X : Cx) (vs : List Nat) (e : List Expr) (g : GGs) : Prop := PGs X e (upGs X.K vs g)
def ggName (i : Nat) : GG := fun d ρ w k => k (ρ.set i (some d)) w
def ggNil : GGs := fun ds ρ w k => ds = [] ∧ k ρ w
def ggCons (t : GG) (u : GGs) : GGs := fun ds ρ w k => match ds with
  | d :: r => t d ρ w fun ρ1 w1 => u r ρ1 w1 k
  | [] => False
def ggTup (n : Nat) (t : GGs) : GG := fun d ρ w k => match d with
  | .tup ds => ds.length = n ∧ t ds ρ w k
  | _ => False
section
variable {X : Cx} {E : XK} {pos : Pos}
theorem pg_imp {e : Expr} {t t' : TG} (h : PG X e t) (i : ∀ v σ H Q, t' v σ H Q → t v σ H Q) : PG X e t' := ⟨fun pins s σ H v u Q I r q => h.run pins s σ H v u Q I r (i _ _ _ _ q)⟩
theorem pgs_imp {e : List Expr} {t t' : TGs} (h : PGs X e t) (i : ∀ v σ H Q, t' v σ H Q → t v σ H Q) : PGs X e t' := ⟨fun pins s σ H v u Q I r q => h.run pins s σ H v u Q I r (i _ _ _ _ q)⟩
theorem dg_name {i : Nat} {x : Str} (hN : X.N.Nodup) (hi : X.N[i]? = some x) (hx : Loc X.env.scope x) (hf : X.fn x = true ∨ X.env.scope.names.lookup x = some .local := by first | exact .inl rfl | exact .inr rfl | assumption) : DG X [i] (.Name x pos) (ggName i) := pg_imp (pg_name hN hi hx hf) (by
  rintro v σ H Q ⟨G, S, ρ, w, d, k, hr, sr, rp, nl, h⟩
  refine nl _ _ _ _ _ _ (Ext.refl _ _) hr (sr.set rp i) ⟨by simp, fun j hj => ?_⟩ h
  rw [List.getElem?_set_ne]
  simpa using fun z => hj (by simp [z]))
theorem dgs_nil : DGs X [] [] ggNil := pgs_imp pgs_nil (by
  rintro v σ H Q ⟨G, S, ρ, w, d, k, hr, sr, rp, nl, h⟩
  obtain ⟨e, h⟩ := h
  subst e
  cases rp
  exact ⟨rfl, nl _ _ _ _ _ _ (Ext.refl _ _) hr sr ⟨rfl, fun _ _ => rfl⟩ h⟩)
theorem dgs_cons {e : Expr} {es : List Expr} {vs us : List Nat} {t : GG} {u : GGs} (h1 : DG X vs e t) (h2 : DGs X us es u)
    (hs : (assignEach (e :: es) X.env).map (·.2) = assign e X.env :: (assignEach es X.env).map (·.2) := by rfl) : DGs X (vs ++ us) (e :: es) (ggCons t u) := pgs_imp (pgs_cons h1 h2 hs) (by
  rintro v σ H Q ⟨G, S, ρ, w, d, k, hr, sr, rp, nl, h⟩
  cases rp with
  | nil => exact h.elim
  | cons r0 rr =>
    refine ⟨_, _, rfl, G, S, ρ, w, _, _, hr, sr, r0, fun G1 S1 H1 w1 ρ1 σ1 x1 hr1 sr1 off1 h1 => ⟨G1, S1, ρ1, w1, _, k, hr1, sr1, rr.mono x1, fun G2 S2 H2 w2 ρ2 σ2 x2 hr2 sr2 off2 h2 => nl _ _ _ _ _ _ (x1.trans x2) hr2 sr2 ⟨off2.1.trans off1.1, fun i hi => ?_⟩ h2, h1⟩, h⟩
    rw [List.mem_append, not_or] at hi
    exact (off2.2 i hi.2).trans (off1.2 i hi.1))
theorem dg_tup {es : List Expr} {j : Nat} {t : GGs} {vs : List Nat} {n : Nat} (hc : X.calm = true) (h : DGs X vs es t)
    (hn : (assignEach es X.env).length = n := by rfl) (hst : (assignEach es X.env).findIdx? (·.1) = none := by rfl) : DG X vs (.Tuple es j pos) (ggTup n t) := pg_imp (pg_tup hc h hn hst) (by
  rintro v σ H Q ⟨G, S, ρ, w, d, k, hr, sr, rp, nl, h⟩
  cases rp with
  | tup e r => exact ⟨_, _, rfl, (sqT_up hr.same e), by rw [r.length]; exact h.1, G, S, ρ, w, _, k, hr, sr, r, nl, h.2⟩
  | _ => exact h.elim)
def gAsg (ge : GE) (g : GG) : GS := fun F ρ w => ge ρ w F.ex fun d w1 => g d ρ w1 F.nx
theorem asg_up {K : PySem.W.Frag} {vs : List Nat} {ge : GE} {g : GG} : ∀ D σ H, upS K E (gAsg ge g) D σ H → tAsg (upE K E ge) (upG K vs g) D σ H := by
  rintro D σ H ⟨G, S, ρ, w, F, hr, sr, el, h⟩
  exact ⟨G, S, ρ, w, F.ex, _, hr, sr, el.ex, fun G1 S1 H1 w1 d v x1 hr1 rp h1 => ⟨G1, S1, ρ, w1, d, F.nx, hr1, sr.mono x1, rp, fun G2 S2 H2 w2 ρ2 σ2 x2 hr2 sr2 _ h2 => el.nx _ _ _ _ _ _ (x1.trans x2) hr2 sr2 h2, h1⟩, h⟩
theorem ds_asg {tg e : Expr} {vs : List Nat} {ge : GE} {g : GG} (he : DE X E e ge) (hg : DG X vs tg g) (hs : swapsWithSole [tg] e pos.line X.env = pure false := by rfl) (hw : swappedStores [tg] e X.env = pure none := by rfl)
    (h1 : (assignEach [tg] X.env).map (·.2) = [assign tg X.env] := by rfl) : DS X E (.Assign [tg] e pos) (gAsg ge g) := ps_imp (ps_asg he hg hs hw h1) asg_up
def gSet (i : Nat) (ge : GE) : GS := fun F ρ w => ge ρ w F.ex fun d w1 => F.nx (ρ.set i (some d)) w1
theorem set_up {K : PySem.W.Frag} {i : Nat} {ge : GE} : ∀ D σ H, upS K E (gSet i ge) D σ H → tAsg (upE K E ge) (gName i) D σ H := by
  rintro D σ H ⟨G, S, ρ, w, F, hr, sr, el, h⟩
  exact ⟨G, S, ρ, w, F.ex, _, hr, sr, el.ex, fun G1 S1 H1 w1 d v x1 hr1 rp h1 => el.nx _ _ _ _ _ _ x1 hr1 ((sr.mono x1).set rp i) h1, h⟩
theorem ds_set {i : Nat} {x : Str} {e : Expr} {ge : GE} {pos' : Pos} (hN : X.N.Nodup) (hi : X.N[i]? = some x) (hx : Loc X.env.scope x) (he : DE X E e ge) (hs : swapsWith e (some (.Name x pos')) pos.line X.env = pure false := by rfl) (hf : X.fn x = true ∨ X.env.scope.names.lookup x = some .local := by first | exact .inl rfl | exact .inr rfl | assumption) :
    DS X E (.Assign [.Name x pos'] e pos) (gSet i ge) := ps_imp (ps_set hN hi hx he hs hf) set_up
def gPar (i j : Nat) (ga : GA) : GS := fun F ρ w => ga ρ w F.ex fun ds w1 => match ds with
  | [d, e] => F.nx ((ρ.set i (some d)).set j (some e)) w1
  | _ => False
theorem ds_par {i j : Nat} {x y : Str} {a b : Expr} {ga : GA} {px py pt : Pos} {kt k2 pt2} (hc : X.calm = true) (hN : X.N.Nodup) (hi : X.N[i]? = some x) (hj : X.N[j]? = some y) (hij : i ≠ j)
    (hx : X.env.scope.names.lookup x = some .local) (hy : X.env.scope.names.lookup y = some .local) (ha : DA X E [a, b] ga)
    (hw : swappedStores [.Tuple [.Name x px, .Name y py] kt pt] (.Tuple [a, b] k2 pt2) X.env = pure (some [x, y]))
    (hs : swapsWithSole [.Tuple [.Name x px, .Name y py] kt pt] (.Tuple [a, b] k2 pt2) pos.line X.env = pure false := by rfl) :
    DS X E (.Assign [.Tuple [.Name x px, .Name y py] kt pt] (.Tuple [a, b] k2 pt2) pos) (gPar i j ga) := ps_imp (ps_par hc hN hi hj hij hx hy ha hw hs) (by
  rintro D σ H ⟨G, S, ρ, w, F, hr, sr, el, h⟩
  refine ⟨G, S, ρ, w, F.ex, _, hr, sr, el.ex, fun G1 S1 H1 w1 ds vs x1 hr1 rp h1 => ?_, h⟩
  split at h1
  · obtain ⟨v, u, rfl, r1, r2⟩ := two_rep rp
    exact ⟨v, u, rfl, el.nx _ _ _ _ _ _ x1 hr1 (((sr.mono x1).set r1 i).set r2 j) h1⟩
  · exact h1.elim)
def gAug (i : Nat) (ge : GE) (f : F2) : GS := fun F ρ w => match ρ[i]? with
  | some (some d) => ge ρ w F.ex fun e w1 => f d e w1 fun z w2 => F.nx (ρ.set i (some z)) w2
  | _ => False
def iaddD : F2 := fun x y w k => match x, y with
  | .int i, .int j => k (.int (i + j)) w
  | _, _ => False
end

def whileS (t : GT) (b : GS) (F : DEnds) (P : Nat → Rho → Wd → Prop) : Prop := ∀ m ρ w, P m ρ w → t ρ w F.ex fun c w1 => if c = true then b { F with nx := fun ρ' w' => ∃ m', m' < m ∧ P m' ρ' w', ct := fun ρ' w' => ∃ m', m' < m ∧ P m' ρ' w', bk := F.nx } ρ w1 else F.nx ρ w1
def gWhile (t : GT) (b : GS) : GS := fun F ρ w => ∃ P : Nat → Rho → Wd → Prop, (∃ m, P m ρ w) ∧ whileS t b F P
section
variable {X : Cx} {E : XK} {pos : Pos}
theorem ds_while {c : Expr} {body : List Stmt} {tc : GT} {tb : GS} (hp : PassesOwn (model X.prog X.w) X.A X.env X.xe) (hc : DT X E c tc) (hb : DSs X E body tb) : DS X E (.While c body [] pos) (gWhile tc tb) := ps_imp (ps_while hp hc hb) (by
  rintro D σ H ⟨G, S, ρ, w, F, hr, sr, el, P, ⟨n, h0⟩, hs⟩
  refine ⟨fun m σ' H' => ∃ G' S' ρ' w', HR X.K G' S' w' H' ∧ SR X.K G' S' σ' ρ' ∧ EL X.K G' S' E F D ∧ P m ρ' w', ⟨n, G, S, ρ, w, hr, sr, el, h0⟩, ?_⟩
  rintro m σ' H' ⟨G1, S1, ρ1, w1, hr1, sr1, el1, h1⟩
  refine ⟨G1, S1, ρ1, w1, F.ex, _, hr1, sr1, el1.ex, fun G2 S2 H2 w2 c x2 hr2 h2 => ?_, hs m ρ1 w1 h1⟩
  cases c with
  | false => exact iteF (el1.nx _ _ _ _ _ _ x2 hr2 (sr1.mono x2) (by simpa using h2))
  | true =>
    refine iteT ⟨fun σ' H' => ∃ m', m' < m ∧ ∃ G' S' ρ' w', HR X.K G' S' w' H' ∧ SR X.K G' S' σ' ρ' ∧ EL X.K G' S' E F D ∧ P m' ρ' w', fun σ3 H3 h3 => h3, ?_⟩
    refine ⟨G2, S2, ρ1, w2, { F with nx := fun ρ' w' => ∃ m', m' < m ∧ P m' ρ' w', ct := fun ρ' w' => ∃ m', m' < m ∧ P m' ρ' w', bk := F.nx }, hr2, sr1.mono x2, ⟨?_, (el1.mono x2).rt, (el1.mono x2).nx, ?_, (el1.mono x2).ex⟩, by simpa using h2⟩
    · rintro G3 S3 H3 w3 ρ3 σ3 x3 hr3 sr3 ⟨m', hm, h3⟩
      exact ⟨m', hm, G3, S3, ρ3, w3, hr3, sr3, (el1.mono x2).mono x3, h3⟩
    · rintro G3 S3 H3 w3 ρ3 σ3 x3 hr3 sr3 ⟨m', hm, h3⟩
      exact ⟨m', hm, G3, S3, ρ3, w3, hr3, sr3, (el1.mono x2).mono x3, h3⟩)
end

abbrev GI := Rho → Wd → KX → (List D → (Wd → Prop) → Wd → Prop) → Prop
def IterOk (K : PySem.W.Frag) (J : It) (items : List D) (Ok : Wd → Prop) (G : Gh) (S : Hp) : Prop := ∀ (i : Nat) G' S' w' H', Ext G S G' S' → HR K G' S' w' H' → Ok w' →
  (∀ d, items[i]? = some d → J.go i H' ∧ ∀ x H2, J.yld i H' x H2 → ∃ G2 S2, Ext G' S' G2 S2 ∧ HR K G2 S2 w' H2 ∧ Rep K G2 S2 x d) ∧ (items.length = i → J.stop i H')
theorem IterOk.mono {K : PySem.W.Frag} {J : It} {items : List D} {Ok : Wd → Prop} {G G' : Gh} {S S' : Hp} (x : Ext G S G' S') (h : IterOk K J items Ok G S) : IterOk K J items Ok G' S' := fun i G1 S1 w1 H1 x1 => h i G1 S1 w1 H1 (x.trans x1)
def upI (K : PySem.W.Frag) (E : XK) (g : GI) : TI := fun σ H R => ∃ G S ρ w kx k, HR K G S w H ∧ SR K G S σ ρ ∧ XL K G S kx E ∧
  (∀ G' S' H' w' items Ok J, Ext G S G' S' → HR K G' S' w' H' → IterOk K J items Ok G' S' → k items Ok w' → R J H') ∧ g ρ w kx k
def DI (X : Cx) (E : XK) (tg iter : Expr) (g : GI) : Prop := PI X tg iter (upI X.K E g)
def giSeq (ge : GE) : GI := fun ρ w kx k => ge ρ w kx fun d w1 => match d with
  | .lst xs => k xs (fun _ => True) w1
  | .tup xs => k xs (fun _ => True) w1
  | .rf c => match w1.M[c]? with
    | some (.lst xs) => k xs (fun w => w.M[c]? = some (.lst xs)) w1
    | _ => False
  | _ => False
def giRange1 (ga : GA) : GI := fun ρ w kx k => ga ρ w kx fun ds w1 => match ds with
  | [.int j] => (-(2 ^ 62) ≤ j ∧ j < 2 ^ 62) ∧ k ((List.range j.toNat).map fun (i : Nat) => .int (i : Int)) (fun _ => True) w1
  | _ => False
section
variable {X : Cx} {E : XK} {tg : Expr}
theorem pi_imp {e : Expr} {t t' : TI} (h : PI X tg e t) (i : ∀ σ H R, t' σ H R → t σ H R) : PI X tg e t' := ⟨fun pins s σ H R I q => h.run pins s σ H R I (i _ _ _ q)⟩
def iSq (K : PySem.W.Frag) (tl : TE) : TI := fun σ H R => tl σ H fun x H1 => ∃ a, x = .ref a ∧ (((∃ xs, SqL K H1 a xs) ∧ R (Itl K a) H1) ∨ ((∃ xs, SqT K H1 a xs) ∧ R (Itt K a) H1))
theorem pi_sq {l : Expr} {tl : TE} (hl : PE X l tl) : PI X tg l (iSq X.K tl) := by
  refine ⟨fun pins s σ H R I h => ?_⟩
  refine thn (hl.run pins s σ H _ I h) fun v s1 ⟨x, H1, I1, r1, q1⟩ => ?_
  obtain ⟨a, e, q1⟩ := q1
  subst e
  cases r1
  rcases q1 with ⟨⟨xs, hq⟩, q⟩ | ⟨⟨xs, hq⟩, q⟩
  · obtain ⟨its, rv, p, hz⟩ := I1.list hq
    refine wpAny_pyIter_list p.isList ?_
    refine ⟨s1.heap.objs.size, [s1.heap.objs.size], _, _, H1, rfl, I1.kept (t' := s1.toks) fun b o e => Heap.get?_push_of_some _ e, turn_list a _, ⟨_, Heap.get?_push_size _ rfl, rfl, rfl⟩, fun b hb => ?_, q⟩
    have e : b = s1.heap.objs.size := by simpa using hb
    subst e
    exact I1.fpOk (Nat.le_refl _) (I1.hok.fresh (Nat.le_refl _))
  · obtain ⟨its, rv, p, hz⟩ := I1.tuple hq
    refine wpAny_pyIter_tuple (show s1.heap.IsTuple a its.toArray from p) ?_
    refine ⟨s1.heap.objs.size, [s1.heap.objs.size], _, _, H1, rfl, I1.kept (t' := s1.toks) fun b o e => Heap.get?_push_of_some _ e, turn_tuple a _, ⟨_, Heap.get?_push_size _ rfl, rfl, rfl⟩, fun b hb => ?_, q⟩
    have e : b = s1.heap.objs.size := by simpa using hb
    subst e
    exact I1.fpOk (Nat.le_refl _) (I1.hok.fresh (Nat.le_refl _))
theorem iter_lst {K : PySem.W.Frag} {G : Gh} {S : Hp} {a : Addr} {xs : List V} {ds : List D} (e : S a = some (.lst xs)) (r : RepAll K G S xs ds) : IterOk K (Itl K a) ds (fun _ => True) G S := by
  intro i G1 S1 w1 H1 x1 hr1 _
  have q : SqL K H1 a xs := .inl (.inl (hr1.same _ _ (x1.same _ _ e)))
  refine ⟨fun d hd => ?_, fun hl => ⟨xs, q, by rw [r.length, hl]; exact Nat.le_refl _⟩⟩
  obtain ⟨v, h1, h2⟩ := r.get hd
  refine ⟨⟨xs, v, q, h1⟩, fun x H2 y => ?_⟩
  obtain ⟨rfl, y⟩ := y
  have := y xs q
  rw [h1] at this
  cases this
  exact ⟨G1, S1, Ext.refl _ _, hr1, h2.mono x1⟩
theorem iter_tup {K : PySem.W.Frag} {G : Gh} {S : Hp} {a : Addr} {xs : List V} {ds : List D} (e : SqT K S a xs) (r : RepAll K G S xs ds) : IterOk K (Itt K a) ds (fun _ => True) G S := by
  intro i G1 S1 w1 H1 x1 hr1 _
  have q : SqT K H1 a xs := sqT_up hr1.same (sqT_up x1.same e)
  refine ⟨fun d hd => ?_, fun hl => ⟨xs, q, by rw [r.length, hl]; exact Nat.le_refl _⟩⟩
  obtain ⟨v, h1, h2⟩ := r.get hd
  refine ⟨⟨xs, v, q, h1⟩, fun x H2 y => ?_⟩
  obtain ⟨rfl, y⟩ := y
  have := y xs q
  rw [h1] at this
  cases this
  exact ⟨G1, S1, Ext.refl _ _, hr1, h2.mono x1⟩
theorem iter_rf {K : PySem.W.Frag} {G : Gh} {S : Hp} {a : Addr} {c : Nat} {ds : List D} (e : G.al[c]? = some a) : IterOk K (Itl K a) ds (fun w => w.M[c]? = some (.lst ds)) G S := by
  intro i G1 S1 w1 H1 x1 hr1 hw
  obtain ⟨_, xs, h1, r⟩ := hr1.cell c a _ (x1.alGet e) hw
  have q : SqL K H1 a xs := .inl (.inl h1)
  refine ⟨fun d hd => ?_, fun hl => ⟨xs, q, by rw [r.length, hl]; exact Nat.le_refl _⟩⟩
  obtain ⟨v, h3, h2⟩ := r.get hd
  refine ⟨⟨xs, v, q, h3⟩, fun x H2 y => ?_⟩
  obtain ⟨rfl, y⟩ := y
  have := y xs q
  rw [h3] at this
  cases this
  exact ⟨G1, S1, Ext.refl _ _, hr1, h2⟩
theorem di_seq {l : Expr} {ge : GE} (hl : DE X E l ge) : DI X E tg l (giSeq ge) := pi_imp (pi_sq hl) (by
  rintro σ H R ⟨G, S, ρ, w, kx, k, hr, sr, xl, kl, h⟩
  refine ⟨G, S, ρ, w, kx, _, hr, sr, xl, fun G1 S1 H1 w1 d v x1 hr1 rp h1 => ?_, h⟩
  cases rp with
  | lst e r => exact ⟨_, rfl, .inl ⟨⟨_, .inl (.inl (hr1.same _ _ e))⟩, kl _ _ _ _ _ _ _ x1 hr1 (iter_lst e r) h1⟩⟩
  | tup e r => exact ⟨_, rfl, .inr ⟨⟨_, (sqT_up hr1.same e)⟩, kl _ _ _ _ _ _ _ x1 hr1 (iter_tup e r) h1⟩⟩
  | rf e =>
    simp only at h1
    split at h1
    · rename_i xs e2
      obtain ⟨_, ys, h3, h4⟩ := hr1.cell _ _ _ e e2
      exact ⟨_, rfl, .inl ⟨⟨_, .inl (.inl h3)⟩, kl _ _ _ _ _ _ _ x1 hr1 (iter_rf e) h1⟩⟩
    · exact h1.elim
  | _ => exact h1.elim)
theorem iter_rng {K : PySem.W.Frag} {G : Gh} {S : Hp} {n : Nat} : IterOk K (Itr 0 n) ((List.range n).map fun (i : Nat) => .int (i : Int)) (fun _ => True) G S := by
  intro i G1 S1 w1 H1 x1 hr1 _
  refine ⟨fun d hd => ?_, fun hl => ?_⟩
  · rw [List.getElem?_map] at hd
    cases q : (List.range n)[i]? with
    | none => rw [q] at hd; cases hd
    | some z =>
      rw [q] at hd
      have hd : D.int (z : Int) = d := by simpa using hd
      subst hd
      have hi := (List.getElem?_eq_some_iff.mp q).1
      have hz := (List.getElem?_eq_some_iff.mp q).2
      rw [List.length_range] at hi
      rw [List.getElem_range] at hz
      subst hz
      refine ⟨hi, fun x H2 y => ?_⟩
      obtain ⟨rfl, rfl⟩ := y
      rw [Int.zero_add]
      exact ⟨G1, S1, Ext.refl _ _, hr1, .int _⟩
  · rw [List.length_map, List.length_range] at hl
    exact Nat.le_of_eq hl
theorem di_range1 {a : Expr} {ga : GA} {p pos : Pos} (B : Blt X.mg) (hg : Gl X "range") (ha : DA X E [a] ga) (hs : starEach [a] X.env = [(false, eval a X.env)] := by rfl) : DI X E tg (.Call (.Name "range" p) [a] [] pos) (giRange1 ga) := pi_imp (pi_range1 hg B.range_ ha hs) (by
  rintro σ H R ⟨G, S, ρ, w, kx, k, hr, sr, xl, kl, h⟩
  refine ⟨G, S, ρ, w, kx, _, hr, sr, xl, fun G1 S1 H1 w1 ds vs x1 hr1 rp h1 => ?_, h⟩
  split at h1
  · rename_i j
    obtain ⟨v, rfl, r1⟩ := one_rep rp
    cases r1
    exact ⟨j, rfl, h1.1.1, h1.1.2, kl _ _ _ _ _ _ _ x1 hr1 iter_rng h1.2⟩
  · exact h1.elim)
end
end DL

namespace DL
open PySem PySem.Spec PyProof.Rows L2

structure ForS (gt : GG) (b : GS) (F : DEnds) (Ok : Wd → Prop) (P : List D → Rho → Wd → Prop) : Prop where
  done : ∀ ρ w, P [] ρ w → Ok w ∧ F.nx ρ w
  turn : ∀ x xs ρ w, P (x :: xs) ρ w → Ok w ∧ gt x ρ w fun ρ1 w1 => b { F with nx := P xs, ct := P xs, bk := F.nx } ρ1 w1
def gFor (gi : GI) (gt : GG) (b : GS) : GS := fun F ρ w => gi ρ w F.ex fun items Ok w1 => ∃ P : List D → Rho → Wd → Prop, P items ρ w1 ∧ ForS gt b F Ok P
def forD (gt : GG) (b : GS) (F : DEnds) (Ok : Wd → Prop) : List D → Rho → Wd → Prop
  | [], ρ, w => Ok w ∧ F.nx ρ w
  | x :: xs, ρ, w => Ok w ∧ gt x ρ w fun ρ1 w1 => b { F with nx := forD gt b F Ok xs, ct := forD gt b F Ok xs, bk := F.nx } ρ1 w1
section
variable {X : Cx} {E : XK} {pos : Pos}
theorem ds_for {tg iter : Expr} {body : List Stmt} {vs : List Nat} {gi : GI} {gt : GG} {gb : GS} (hp : PassesOwn (model X.prog X.w) X.A X.env X.xe) (hc : X.calm = true) (hi : DI X E tg iter gi) (hg : DG X vs tg gt) (hb : DSs X E body gb)
    (hs : ∀ x, foldedSetIterable iter X.env x = pure x := by intro _; rfl) : DS X E (.For tg iter body [] pos) (gFor gi gt gb) := ps_imp (ps_for hp hc hi hg hb hs) (by
  rintro D σ H ⟨G, S, ρ, w, F, hr, sr, el, h⟩
  refine ⟨G, S, ρ, w, F.ex, _, hr, sr, el.ex, fun G1 S1 H1 w1 items Ok J x1 hr1 it h1 => ?_, h⟩
  obtain ⟨P, h1, hP⟩ := h1
  refine ⟨fun i m σ' H' => m = items.length - i ∧ i ≤ items.length ∧ ∃ G' S' ρ' w', Ext G1 S1 G' S' ∧ HR X.K G' S' w' H' ∧ SR X.K G' S' σ' ρ' ∧ P (items.drop i) ρ' w', ⟨items.length, by simp, Nat.zero_le _, G1, S1, ρ, w1, Ext.refl _ _, hr1, sr.mono x1, h1⟩, ?_⟩
  rintro i m σ' H' ⟨rfl, hi, G2, S2, ρ2, w2, x2, hr2, sr2, h2⟩
  by_cases hlt : i < items.length
  · have e : items.drop i = items[i] :: items.drop (i + 1) := List.drop_eq_getElem_cons hlt
    rw [e] at h2
    obtain ⟨ok, h2⟩ := hP.turn _ _ _ _ h2
    obtain ⟨i1, _⟩ := it i G2 S2 w2 H' x2 hr2 ok
    obtain ⟨go, yld⟩ := i1 items[i] (List.getElem?_eq_getElem hlt)
    refine .inr ⟨go, fun σ3 H3 => ∃ G' S' ρ' w', Ext G1 S1 G' S' ∧ HR X.K G' S' w' H3 ∧ SR X.K G' S' σ3 ρ' ∧ P (items.drop (i + 1)) ρ' w', fun σ3 H3 h3 => ⟨items.length - (i + 1), by omega, rfl, hlt, h3⟩, fun x H3 y => ?_⟩
    obtain ⟨G3, S3, x3, hr3, rp⟩ := yld x H3 y
    refine ⟨G3, S3, ρ2, w2, items[i], _, hr3, sr2.mono x3, rp, fun G4 S4 H4 w4 ρ4 σ4 x4 hr4 sr4 _ h4 => ?_, h2⟩
    have x04 : Ext G S G4 S4 := x1.trans (x2.trans (x3.trans x4))
    refine ⟨G4, S4, ρ4, w4, { F with nx := P (items.drop (i + 1)), ct := P (items.drop (i + 1)), bk := F.nx }, hr4, sr4, ⟨?_, (el.mono x04).rt, (el.mono x04).nx, ?_, (el.mono x04).ex⟩, h4⟩
    · intro G5 S5 H5 w5 ρ5 σ5 x5 hr5 sr5 h5
      exact ⟨G5, S5, ρ5, w5, x2.trans (x3.trans (x4.trans x5)), hr5, sr5, h5⟩
    · intro G5 S5 H5 w5 ρ5 σ5 x5 hr5 sr5 h5
      exact ⟨G5, S5, ρ5, w5, x2.trans (x3.trans (x4.trans x5)), hr5, sr5, h5⟩
  · have e : i = items.length := by omega
    subst e
    rw [List.drop_length] at h2
    obtain ⟨ok, h2⟩ := hP.done _ _ h2
    obtain ⟨_, i2⟩ := it items.length G2 S2 w2 H' x2 hr2 ok
    exact .inl ⟨i2 rfl, el.nx _ _ _ _ _ _ (x1.trans x2) hr2 sr2 h2⟩)
end

def wipeR (ρ : Rho) : List Nat → Rho
  | [] => ρ
  | v :: vs => (wipeR ρ vs).set v none
def gYes : GT := fun _ w _ k => k true w
def DTs (X : Cx) (E : XK) (ifs : List Expr) (g : GT) : Prop := PTs X ifs (upT X.K E g)
structure LcS (gt : GG) (tt : GT) (ge : GE) (Ok : Wd → Prop) (ρ : Rho) (k : KD) (P : List D → List D → Wd → Prop) : Prop where
  done : ∀ acc w, P [] acc w → Ok w ∧ k (.lst acc) w
  turn : ∀ x xs acc w, P (x :: xs) acc w → Ok w ∧ gt x ρ w fun ρ1 w1 => tt ρ1 w1 noX fun b w2 => if b = true then ge ρ1 w2 noX fun y w3 => acc.length < sizeLine ∧ P xs (acc ++ [y]) w3 else P xs acc w2
def gLc (gi : GI) (gt : GG) (tt : GT) (ge : GE) (vs : List Nat) : GE := fun ρ w kx k => gi ρ w kx fun items Ok w1 => ∃ P : List D → List D → Wd → Prop, P items [] w1 ∧ LcS gt tt ge Ok (wipeR ρ vs) k P
def lcD (gt : GG) (tt : GT) (ge : GE) (Ok : Wd → Prop) (ρ : Rho) (k : KD) : List D → List D → Wd → Prop
  | [], acc, w => Ok w ∧ k (.lst acc) w
  | x :: xs, acc, w => Ok w ∧ gt x ρ w fun ρ1 w1 => tt ρ1 w1 noX fun b w2 => if b = true then ge ρ1 w2 noX fun y w3 => acc.length < sizeLine ∧ lcD gt tt ge Ok ρ k xs (acc ++ [y]) w3 else lcD gt tt ge Ok ρ k xs acc w2
section
variable {X : Cx} {E : XK} {pos : Pos}
theorem dts_nil : DTs X E [] gYes := by
  have h := pts_nil (X := X)
  refine ⟨fun pins s σ H Q I q => h.run pins s σ H Q I ?_⟩
  obtain ⟨G, S, ρ, w, kx, k, hr, sr, xl, kl, h⟩ := q
  exact kl _ _ _ _ _ (Ext.refl _ _) hr h
theorem dts_one {c : Expr} {t : GT} (h : DT X E c t) : DTs X E [c] t := pts_one h
theorem wipe_set {σ : L2.St} {ρ : Rho} {K : PySem.W.Frag} {G : Gh} {S : Hp} (sr : SR K G S σ ρ) (v : Nat) : SR K G S (σ.set v none) (ρ.set v none) := by
  refine ⟨by simp [sr.1], fun j e hj => ?_⟩
  by_cases hi : j = v
  · subst hi
    by_cases hl : j < ρ.length
    · rw [List.getElem?_set_self hl] at hj
      cases hj
    · rw [List.getElem?_eq_none (by simpa using hl)] at hj
      cases hj
  · rw [List.getElem?_set_ne (Ne.symm hi)] at hj
    obtain ⟨u, h1, h2⟩ := sr.2 j e hj
    exact ⟨u, by rw [List.getElem?_set_ne (Ne.symm hi)]; exact h1, h2⟩
theorem wipe_sr {σ : L2.St} {ρ : Rho} {K : PySem.W.Frag} {G : Gh} {S : Hp} (sr : SR K G S σ ρ) : ∀ vs : List Nat, SR K G S (wipe σ vs) (wipeR ρ vs)
  | [] => sr
  | v :: vs => wipe_set (wipe_sr sr vs) v
theorem wipe_get {σ : L2.St} : ∀ {vs : List Nat} {i : Nat}, (wipe σ vs)[i]? = if i ∈ vs then (if i < σ.length then some none else none) else σ[i]?
  | [], i => by simp [wipe]
  | v :: vs, i => by
    unfold wipe
    rw [List.getElem?_set]
    by_cases h : v = i
    · subst h
      simp [wipe_length]
    · rw [if_neg h, wipe_get]
      have : (i ∈ v :: vs) ↔ i ∈ vs := by
        simp only [List.mem_cons]
        exact ⟨fun z => z.elim (fun z => absurd z.symm h) id, .inr⟩
      simp only [this]
theorem wipe_off {σ σ2 : L2.St} {vs us : List Nat} (hu : ∀ i ∈ us, i ∈ vs) (h : OffOk us (wipe σ vs) σ2) : wipe σ2 vs = wipe σ vs := by
  refine List.ext_getElem? fun i => ?_
  rw [wipe_get, wipe_get]
  have hl : σ2.length = σ.length := by rw [h.1, wipe_length]
  by_cases hi : i ∈ vs
  · rw [if_pos hi, if_pos hi, hl]
  · rw [if_neg hi, if_neg hi, h.2 i (fun z => hi (hu i z)), wipe_get, if_neg hi]
theorem fr_ne {K : PySem.W.Frag} {G : Gh} {S H : Hp} {w : Wd} (hr : HR K G S w H) {Dl : Addr} (hD : H Dl = none) : ∀ q ∈ G.fr, q.1 ≠ Dl := hr.freshFr hD
theorem lc_go {K : PySem.W.Frag} {gi : GI} {gt : GG} {tt : GT} {ge : GE} {vs us : List Nat} (hu : ∀ i ∈ us, i ∈ vs) : ∀ σ H Q, upE K E (gLc gi gt tt ge vs) σ H Q → tLc (upI K E gi) (upG K us gt) (upT K E0 tt) (upE K E0 ge) vs σ H Q := by
  rintro σ H Q ⟨G, S, ρ, w, kx, k, hr, sr, xl, kl, h⟩
  refine ⟨G, S, ρ, w, kx, _, hr, sr, xl, fun G1 S1 H1 w1 items Ok J x1 hr1 it h1 Dl hD => ?_, h⟩
  obtain ⟨P, h1, hP⟩ := h1
  have hfr := fr_ne hr1 hD
  have sD := hr1.freshS hD
  -- the state between turns: the list so far stands apart
  refine ⟨fun i m H' => m = items.length - i ∧ i ≤ items.length ∧ ∃ (G' : Gh) (S' : Hp) (w' : Wd) (xs : List V) (acc : List D), Ext G1 S1 ⟨G'.al, G'.st, G1.fr⟩ S' ∧ (∀ q ∈ G1.fr, q ∈ G'.fr) ∧ (Dl, HO.lst xs) ∈ G'.fr ∧ HR K G' S' w' H' ∧ RepAll K G' S' xs acc ∧ P (items.drop i) acc w', ⟨items.length, ?_⟩, ?_⟩
  · obtain ⟨hr2, x2⟩ := hr1.push (o := .lst []) hD
    refine ⟨by simp, Nat.zero_le _, ⟨G1.al, G1.st, (Dl, .lst []) :: G1.fr⟩, S1, w1, [], [], ⟨⟨[], by simp⟩, fun _ z => z, fun _ z => z, Same.refl _⟩, fun q hq => List.mem_cons_of_mem _ hq, List.mem_cons_self, hr2, .nil, h1⟩
  rintro i m H' ⟨rfl, hi, G2, S2, w2, xs, acc, x2, f2, fD, hr2, ra, h2⟩
  have x12 : Ext G1 S1 G2 S2 := ⟨x2.al, x2.st, f2, x2.same⟩
  by_cases hlt : i < items.length
  · have e : items.drop i = items[i] :: items.drop (i + 1) := List.drop_eq_getElem_cons hlt
    rw [e] at h2
    obtain ⟨ok, h2⟩ := hP.turn _ _ _ _ h2
    obtain ⟨i1, _⟩ := it i G2 S2 w2 H' x12 hr2 ok
    obtain ⟨go, yld⟩ := i1 items[i] (List.getElem?_eq_getElem hlt)
    refine .inr ⟨go, fun H3 => ∃ (G' : Gh) (S' : Hp) (w' : Wd) (xs : List V) (acc : List D), Ext G1 S1 ⟨G'.al, G'.st, G1.fr⟩ S' ∧ (∀ q ∈ G1.fr, q ∈ G'.fr) ∧ (Dl, HO.lst xs) ∈ G'.fr ∧ HR K G' S' w' H3 ∧ RepAll K G' S' xs acc ∧ P (items.drop (i + 1)) acc w', fun H3 h3 => ⟨items.length - (i + 1), by omega, rfl, hlt, h3⟩, fun x H3 y => ?_⟩
    obtain ⟨G3, S3, x3, hr3, rp⟩ := yld x H3 y
    have x13 := x12.trans x3
    refine ⟨G3, S3, wipeR ρ vs, w2, items[i], _, hr3, (wipe_sr (sr.mono x1) vs).mono x13, rp, fun G4 S4 H4 w4 ρ4 σ4 x4 hr4 sr4 off4 h4 => ⟨wipe_off hu off4, ?_⟩, h2⟩
    have x24 : Ext G2 S2 G4 S4 := x3.trans x4
    refine ⟨G4, S4, ρ4, w4, noX, _, hr4, sr4, xl_no, fun G5 S5 H5 w5 b x5 hr5 h5 => ?_, h4⟩
    have x25 := x24.trans x5
    have x15 := x12.trans x25
    cases b with
    | false => exact iteF ⟨G5, S5, w5, xs, acc, ⟨x15.al, x15.st, fun _ z => z, x15.same⟩, x15.fr, x25.fr _ fD, hr5, ra.mono x25, by simpa using h5⟩
    | true =>
      refine iteT ⟨G5, S5, ρ4, w5, noX, _, hr5, sr4.mono x5, xl_no, fun G6 S6 H6 w6 d v x6 hr6 rp6 h6 => ?_, by simpa using h5⟩
      have x26 := x25.trans x6
      have x16 := x12.trans x26
      have ra6 := ra.mono x26
      have fD6 := x26.fr _ fD
      refine ⟨xs, (hr6.fr _ fD6).2.2, by rw [ra.length]; exact h6.1, ?_⟩
      have hp := hr6.poke (o' := .lst (xs ++ [v])) (fr := G1.fr) fD6 (fun q hq => ⟨x16.fr q hq, hfr q hq⟩)
      refine ⟨⟨G6.al, G6.st, (Dl, .lst (xs ++ [v])) :: G1.fr⟩, S6, w6, xs ++ [v], acc ++ [d], ⟨x16.al, x16.st, fun _ z => z, x16.same⟩, fun q hq => List.mem_cons_of_mem _ hq, List.mem_cons_self, hp, ?_, h6.2⟩
      exact (RepAll.refr ra6).append (.cons (Rep.refr rp6) .nil)
  · have e : i = items.length := by omega
    subst e
    rw [List.drop_length] at h2
    obtain ⟨ok, h2⟩ := hP.done _ _ h2
    obtain ⟨_, i2⟩ := it items.length G2 S2 w2 H' x12 hr2 ok
    refine .inl ⟨i2 rfl, ?_⟩
    -- the list is put among what stays
    obtain ⟨z1, z2, z3⟩ := hr2.fr _ fD
    have x3 : Ext G2 S2 G2 (upd S2 Dl (.lst xs)) := ⟨⟨[], by simp⟩, fun _ z => z, fun _ z => z, fun b u e => by rw [upd_ne (ne_of_none e z1)]; exact e⟩
    have x3' : Ext G1 S1 ⟨G2.al, G2.st, G1.fr⟩ (upd S2 Dl (.lst xs)) := ⟨x2.al, x2.st, fun _ z => z, fun b u e => x3.same _ _ (x2.same _ _ e)⟩
    refine kl _ _ _ _ _ _ (x1.trans x3') ⟨fun b u e => ?_, hr2.len, hr2.nod, fun j b c' f1 f2 => ?_, ⟨hr2.st.1, fun b c' e => ?_⟩, fun q hq => ?_⟩ (.lst upd_same (RepAll.refr (ra.mono x3))) h2
    · by_cases hb : b = Dl
      · subst hb
        rw [upd_same] at e
        cases e
        exact z3
      · rw [upd_ne hb] at e
        exact hr2.same _ _ e
    · have ne : b ≠ Dl := fun z => z2 (z ▸ List.mem_of_getElem? f1)
      have q := hr2.cell j b c' f1 f2
      have q2 := q.mono (H' := H') x3 rfl (by rw [upd_ne ne]; exact q.sNone)
      cases c' with
      | dead => exact q2
      | exc C => exact q2
      | exf C fs =>
        obtain ⟨n0, dx, gs, e3, e4, r⟩ := q2
        exact ⟨n0, dx, gs, e3, e4, Paired.mapP r fun p q z => ⟨z.1, Rep.refr z.2⟩⟩
      | tbl P q => exact q2
      | lk o ks kvs =>
        obtain ⟨n0, e3, r⟩ := q2
        exact ⟨n0, e3, Paired.mapP r fun p q z => ⟨z.1, Rep.refr z.2⟩⟩
      | lst ds =>
        obtain ⟨n0, ys, e3, r⟩ := q2
        exact ⟨n0, ys, e3, RepAll.refr r⟩
      | dk ds =>
        obtain ⟨n0, ys, e3, r⟩ := q2
        exact ⟨n0, ys, e3, Paired.mapP r fun p q z => ⟨z.1, Rep.refr z.2⟩⟩
      | ins C ds =>
        obtain ⟨n0, dx, ys, e3, r⟩ := q2
        exact ⟨n0, dx, ys, e3, Paired.mapP r fun p q z => ⟨z.1, Rep.refr z.2⟩⟩
    · obtain ⟨y1, y2, y3, y4, y5, y6, y7⟩ := hr2.st.2 b c' e
      obtain ⟨n1, n2⟩ := y6 _ fD
      exact ⟨by rw [upd_ne (Ne.symm n1)]; exact y1, by rw [upd_ne (Ne.symm n2)]; exact y2, y3, y4, y5, fun q hq => y6 q (f2 q hq), y7⟩
    · obtain ⟨y1, y2, y3⟩ := hr2.fr q (f2 q hq)
      exact ⟨by rw [upd_ne (hfr q hq)]; exact y1, y2, y3⟩
theorem de_lc {elt tg iter : Expr} {ifs : List Expr} {scope : Scope} {own : List (Str × Nat)} {us : List Nat} {gi : GI} {gt : GG} {tt : GT} {ge : GE} (hc : X.calm = true) (hN : X.N.Nodup) (hi : DI X E tg iter gi) (ok : BlkOk X.N X.env.scope scope own) (hu : ∀ i ∈ us, i ∈ own.map (·.2))
    (hg : ∀ (s : Shared) (H : Hp) (C : Addr) (cl : List (Str × Addr)) (fp : List Addr), DG (X.blk s H scope (compEnvC scope cl C X.env) fp) us tg gt) (ht : ∀ (s : Shared) (H : Hp) (C : Addr) (cl : List (Str × Addr)) (fp : List Addr), DTs (X.blk s H scope (compEnvC scope cl C X.env) fp) E0 ifs tt)
    (he : ∀ (s : Shared) (H : Hp) (C : Addr) (cl : List (Str × Addr)) (fp : List Addr), DE (X.blk s H scope (compEnvC scope cl C X.env) fp) E0 elt ge) (hs : ∀ x, foldedSetIterable iter X.env x = pure x := by intro _; rfl) :
    DE X E (.ListComp elt [⟨tg, iter, ifs, 0⟩] scope pos) (gLc gi gt tt ge (own.map (·.2))) := pe_imp (pe_lc (g := upG X.K us gt) (tt := upT X.K E0 tt) (te := upE X.K E0 ge) hc hN hi ok hg ht he hs) (lc_go hu)
theorem ds_setLc {i : Nat} {y : Str} {py spos : Pos} {elt tg iter : Expr} {ifs : List Expr} {scope : Scope} {own : List (Str × Nat)} {us : List Nat} {gi : GI} {gt : GG} {tt : GT} {ge : GE} (hc : X.calm = true) (hN : X.N.Nodup) (hy : X.N[i]? = some y) (hyl : X.env.scope.names.lookup y = some .local)
    (hsw : swapsWith (.ListComp elt [⟨tg, iter, ifs, 0⟩] scope pos) (some (.Name y py)) spos.line X.env = pure true) (hi : DI X E tg iter gi) (ok : BlkOk X.N X.env.scope scope own) (hu : ∀ i ∈ us, i ∈ own.map (·.2))
    (hg : ∀ (s : Shared) (H : Hp) (C : Addr) (cl : List (Str × Addr)) (fp : List Addr), DG (X.blk s H scope (compEnvC scope cl C X.env) fp) us tg gt) (ht : ∀ (s : Shared) (H : Hp) (C : Addr) (cl : List (Str × Addr)) (fp : List Addr), DTs (X.blk s H scope (compEnvC scope cl C X.env) fp) E0 ifs tt)
    (he : ∀ (s : Shared) (H : Hp) (C : Addr) (cl : List (Str × Addr)) (fp : List Addr), DE (X.blk s H scope (compEnvC scope cl C X.env) fp) E0 elt ge) (hs : ∀ x, foldedSetIterable iter X.env x = pure x := by intro _; rfl) :
    DS X E (.Assign [.Name y py] (.ListComp elt [⟨tg, iter, ifs, 0⟩] scope pos) spos) (gSet i (gLc gi gt tt ge (own.map (·.2)))) := ps_imp (ps_setLc (g := upG X.K us gt) (tt := upT X.K E0 tt) (te := upE X.K E0 ge) hc hN hy hyl hsw hi ok hg ht he hs) (by
  intro D σ H h
  obtain ⟨G, S, ρ, w, F, hr, sr, el, h⟩ := h
  exact lc_go hu σ H _ ⟨G, S, ρ, w, F.ex, fun d w1 => F.nx (ρ.set i (some d)) w1, hr, sr, el.ex, fun G1 S1 H1 w1 d v x1 hr1 rp h1 => el.nx _ _ _ _ _ _ x1 hr1 ((sr.mono x1).set rp i) h1, h⟩)
end
end DL

namespace DL
open PySem PySem.Spec PyProof.Rows L2

section
variable {K : PySem.W.Frag} {G : Gh} {S H : Hp} {w : Wd}
theorem hr_start : HR K ⟨[], none, []⟩ H ⟨[], none⟩ H := ⟨Same.refl H, rfl, List.nodup_nil, fun i a c e => (nomatch e), ⟨fun _ => rfl, fun a c e => (nomatch e)⟩, fun p hp => (nomatch hp)⟩
def gLaw : GF := fun ds w _ k => ∃ ns : List Int, ds = [.scr ns] ∧ ns.length ≤ 63 ∧ w = ⟨[], none⟩ ∧ ∀ w', k (.bl true) w'
theorem law_start {a : Addr} {ns : List Int} (hl : ns.length ≤ 63) (hS : SqL K H a (ns.map V.int)) : upF 1 K gLaw [.ref a] H (fun v _ => v = .bl true) fun _ _ _ => False :=
  ⟨⟨[], none, []⟩, H, [.scr ns], ⟨[], none⟩, noX, fun d _ => d = .bl true, rfl, hr_start, .cons (.scr hS) .nil, xl_no, fun _ _ _ _ d v _ _ r e => by
    subst e
    cases r
    rfl, ns, rfl, hl, rfl, fun _ => rfl⟩
def stKv (c : Addr) (t : Int) : List (Key × V) := [(.inr "cells", .ref c), (.inr "turn", .int t)]
theorem st_cells (c : Addr) (t : Int) : valV (stKv c t) (.inr "cells") = some (.ref c) := valV_pos rfl
theorem key_ne : ¬ ((Sum.inr ("cells" : Str) : Key) = Sum.inr ("turn" : Str)) := by decide +kernel
theorem st_turn (c : Addr) (t : Int) : valV (stKv c t) (.inr "turn") = some (.int t) := by
  unfold stKv
  rw [valV_neg key_ne, valV_pos rfl]
theorem st_put (c : Addr) (t u : Int) : putK (stKv c t) (.inr "turn") (.int u) = stKv c u := by
  have e : ((stKv c t).any fun kv => decide (kv.1 = (Sum.inr ("turn" : Str) : Key))) = true := by
    rw [valV_any, st_turn]
    rfl
  unfold putK
  rw [if_pos e]
  show [if (Sum.inr ("cells" : Str) : Key) = Sum.inr ("turn" : Str) then ((Sum.inr ("cells" : Str) : Key), V.int u) else (Sum.inr ("cells" : Str), V.ref c), if (Sum.inr ("turn" : Str) : Key) = Sum.inr ("turn" : Str) then ((Sum.inr ("turn" : Str) : Key), V.int u) else (Sum.inr ("turn" : Str), V.int t)] = stKv c u
  rw [if_neg key_ne, if_pos rfl]
  rfl
theorem HR.drawn (h : HR K G S w H) {a c : Addr} {n' : Nat} {cells : List Int} {turn : Int} {H' : Hp} (e : G.st = some (a, c)) (he : ∀ b, b ≠ a → b ≠ c → H' b = H b) (h1 : H' a = some (.dK (stKv c turn))) (h2 : H' c = some (.lst (cells.map V.int)))
    (h3 : cells ≠ []) (h4 : cells.length ≤ 63) (h5 : 0 ≤ turn) (h6 : turn + (n' : Nat) ≤ 1000000000) : HR K G S ⟨w.M, some n'⟩ H' := by
  obtain ⟨z1, z2, z3, z4, z5, z6, _⟩ := h.st.2 a c e
  refine ⟨fun b u q => ?_, h.len, h.nod, fun i b cc e1 e2 => ?_, ⟨fun z => (nomatch z), fun a' c' e' => ?_⟩, fun q hq => ?_⟩
  · rw [he b (ne_of_none q z1) (ne_of_none q z2)]
    exact h.same _ _ q
  · have q := h.cell i b cc e1 e2
    exact q.mono (Ext.refl _ _) (he b (fun z => z4 (z ▸ List.mem_of_getElem? e1)) (fun z => z5 (z ▸ List.mem_of_getElem? e1))) q.sNone
  · rw [e] at e'
    cases e'
    exact ⟨z1, z2, z3, z4, z5, z6, cells, turn, h1, h2, h3, h4, h5, h6⟩
  · obtain ⟨y1, y2, y3⟩ := h.fr q hq
    exact ⟨y1, y2, by rw [he _ (z6 q hq).1 (z6 q hq).2]; exact y3⟩
theorem HR.made (h : HR K G S w H) (hn : w.n = none) {c a : Addr} {cells : List Int} (hc : H c = some (.lst (cells.map V.int))) (nc : S c = none ∧ c ∉ G.al ∧ ∀ p ∈ G.fr, p.1 ≠ c) (ha : H a = some (.dK (stKv c 0))) (na : S a = none ∧ a ∉ G.al ∧ ∀ p ∈ G.fr, p.1 ≠ a) (hac : a ≠ c)
    (h3 : cells ≠ []) (h4 : cells.length ≤ 63) : HR K ⟨G.al, some (a, c), G.fr⟩ S ⟨w.M, some 1000000000⟩ H ∧ Ext G S ⟨G.al, some (a, c), G.fr⟩ S := by
  have x : Ext G S ⟨G.al, some (a, c), G.fr⟩ S := ⟨⟨[], by simp⟩, fun p z => (by rw [h.st.1 hn] at z; cases z), fun _ z => z, Same.refl S⟩
  refine ⟨⟨h.same, h.len, h.nod, fun i b cc e1 e2 => ?_, ⟨fun z => (nomatch z), fun a' c' e' => ?_⟩, h.fr⟩, x⟩
  · have q := h.cell i b cc e1 e2
    exact q.mono x rfl q.sNone
  · cases e'
    exact ⟨na.1, nc.1, hac, na.2.1, nc.2.1, fun p hp => ⟨na.2.2 p hp, nc.2.2 p hp⟩, cells, 0, ha, hc, h3, h4, by omega, by simp⟩
end
theorem lay_ints : ∀ l : List Int, PyData.canLayAll0 (l.map PyData.int) = true ∧ PyData.depthAll (l.map PyData.int) = 0
  | [] => ⟨rfl, rfl⟩
  | x :: r => by
    obtain ⟨h1, h2⟩ := lay_ints r
    refine ⟨?_, ?_⟩
    · simp [PyData.canLayAll0, PyData.canLay0, h1]
    · simp [PyData.depthAll, PyData.depth, h2]
theorem shaped_ints (l : List Int) : SeqAt.shaped (.list (l.map PyData.int)) = true := by
  obtain ⟨h1, h2⟩ := lay_ints l
  unfold SeqAt.shaped
  simp [PyData.canLay0, PyData.depth, h1, h2]
def gTake : GF := fun ds w _ k => ∃ (m : Int) (n : Nat), ds = [.st, .int m] ∧ (0 < m ∧ m.natAbs.log2 < 9000) ∧ w.n = some (n + 1) ∧ ∀ r, 0 ≤ r → r < m → k (.int r) ⟨w.M, some n⟩
def gBegin : GF := fun ds w _ k => ∃ ns : List Int, ds = [.scr ns] ∧ w.n = none ∧ k .st ⟨w.M, some 1000000000⟩
end DL

namespace DL
open PySem PySem.Spec PyProof.Rows L2
section
variable {w : Wd} {k : KD} {kb : KB} {i j : Int} {s t : Str} {b : Bool} {xs ys : List D} {d e : D} {n : String}
theorem addD_i : addD (.int i) (.int j) w k = k (.int (i + j)) w := rfl
theorem addD_s : addD (.str s) (.str t) w k = (s.length + t.length ≤ sizeLine ∧ k (.str (s ++ t)) w) := rfl
theorem addD_l : addD (.lst xs) (.lst ys) w k = (xs.length + ys.length ≤ sizeLine ∧ k (.lst (xs ++ ys)) w) := rfl
theorem addD_t : addD (.tup xs) (.tup ys) w k = (xs ≠ [] ∧ xs.length + ys.length ≤ sizeLine ∧ k (.tup (xs ++ ys)) w) := rfl
theorem subD_i : subD (.int i) (.int j) w k = k (.int (i - j)) w := rfl
theorem mulD_i : mulD (.int i) (.int j) w k = (CMulX i j ∧ k (.int (i * j)) w) := rfl
theorem mulD_l : mulD (.lst xs) (.int j) w k = (-(2 ^ 63) ≤ j ∧ j < 2 ^ 63 ∧ xs.length * j.toNat ≤ sizeLine ∧ k (.lst (List.replicate j.toNat xs).flatten) w) := rfl
theorem fdivD_i : fdivD (.int i) (.int j) w k = ((j ≠ 0 ∧ j.natAbs.log2 < 9000) ∧ k (.int (i.fdiv j)) w) := rfl
theorem modD_i : modD (.int i) (.int j) w k = (j ≠ 0 ∧ k (.int (i.fmod j)) w) := rfl
theorem powD_i : powD (.int i) (.int j) w k = (CPow i j ∧ k (.int (i ^ j.toNat)) w) := rfl
theorem ltD_i : ltD (.int i) (.int j) w k = k (.bl (decide (i < j))) w := rfl
theorem ltD_s : ltD (.str s) (.str t) w k = k (.bl (decide (s.cps.toList < t.cps.toList))) w := rfl
theorem leD_i : leD (.int i) (.int j) w k = k (.bl (decide (i ≤ j))) w := rfl
theorem gtD_i : gtD (.int i) (.int j) w k = k (.bl (decide (j < i))) w := rfl
theorem geD_i : geD (.int i) (.int j) w k = k (.bl (decide (j ≤ i))) w := rfl
theorem isD_n : isD d .non w k = k (.bl (isNonD d)) w := rfl
theorem isnotD_n : isnotD d .non w k = k (.bl (!isNonD d)) w := rfl
theorem isNonD_non : isNonD .non = true := rfl
theorem isNonD_bl : isNonD (.bl b) = false := rfl
theorem isNonD_int : isNonD (.int i) = false := rfl
theorem isNonD_str : isNonD (.str s) = false := rfl
theorem isNonD_lst : isNonD (.lst xs) = false := rfl
theorem isNonD_tup : isNonD (.tup xs) = false := rfl
theorem negD_i : negD (.int i) w k = k (.int (-i)) w := rfl
theorem iaddD_i : iaddD (.int i) (.int j) w k = k (.int (i + j)) w := rfl
theorem truD_non : truD .non w kb = kb false w := rfl
theorem truD_bl : truD (.bl b) w kb = kb b w := rfl
theorem truD_int : truD (.int i) w kb = kb (i != 0) w := rfl
theorem truD_str : truD (.str s) w kb = (s.length ≤ sizeLine ∧ kb ((s.length : Int) != 0) w) := rfl
theorem truD_lst : truD (.lst xs) w kb = kb (!xs.isEmpty) w := rfl
theorem truD_tup : truD (.tup xs) w kb = kb (!xs.isEmpty) w := rfl
def someK (o : Option D) (f : D → Prop) : Prop := match o with
  | some d => f d
  | none => False
theorem someK_some {f : D → Prop} : someK (some d) f = f d := rfl
theorem ixD_l : ixD (.lst xs) (.int i) w k = someK (atI xs i) (fun d => k d w) := rfl
theorem ixD_t : ixD (.tup xs) (.int i) w k = someK (atI xs i) (fun d => k d w) := rfl
theorem fAbs_i : fAbs [.int i] w k = k (.int i.natAbs) w := rfl
theorem fInt_i : fInt [.int i] w k = k (.int i) w := rfl
theorem fInt_b : fInt [.bl b] w k = k (.int (if b then 1 else 0)) w := rfl
theorem fMin2_i : fMin2 [.int i, .int j] w k = k (.int (if j < i then j else i)) w := rfl
theorem fLen_l : fLen [.lst xs] w k = k (.int xs.length) w := rfl
theorem fLen_t : fLen [.tup xs] w k = k (.int xs.length) w := rfl
theorem fLen_s : fLen [.str s] w k = (s.length ≤ sizeLine ∧ k (.int s.length) w) := rfl
theorem fList_l : fList [.lst xs] w k = k (.lst xs) w := rfl
theorem fList_t : fList [.tup xs] w k = k (.lst xs) w := rfl
theorem fTuple_l : fTuple [.lst xs] w k = k (.tup xs) w := rfl
theorem fTuple_t : fTuple [.tup xs] w k = k (.tup xs) w := rfl
def optBK (o : Option Bool) (f : Bool → Prop) : Prop := match o with
  | some d => f d
  | none => False
theorem optBK_some {f : Bool → Prop} : optBK (some b) f = f b := rfl
theorem fIsi_non : fIsi [.non, .ob (.ty n)] w k = optBK (kitB "NoneType" n) (fun b => k (.bl b) w) := rfl
theorem fIsi_bl : fIsi [.bl b, .ob (.ty n)] w k = optBK (kitB "bool" n) (fun b => k (.bl b) w) := rfl
theorem fIsi_int : fIsi [.int i, .ob (.ty n)] w k = optBK (kitB "int" n) (fun b => k (.bl b) w) := rfl
theorem fIsi_str : fIsi [.str s, .ob (.ty n)] w k = optBK (kitB "str" n) (fun b => k (.bl b) w) := rfl
theorem fIsi_lst : fIsi [.lst xs, .ob (.ty n)] w k = optBK (kitB "list" n) (fun b => k (.bl b) w) := rfl
theorem fIsi_tup : fIsi [.tup xs, .ob (.ty n)] w k = optBK (kitB "tuple" n) (fun b => k (.bl b) w) := rfl
theorem allBl_map (l : List Bool) : allBl (l.map D.bl) = some l := by
  induction l with
  | nil => rfl
  | cons x r ih =>
    rw [List.map_cons]
    unfold allBl
    rw [ih]
theorem allInt_map (l : List Int) : allInt (l.map D.int) = some l := by
  induction l with
  | nil => rfl
  | cons x r ih =>
    rw [List.map_cons]
    unfold allInt
    rw [ih]
theorem fAll_m (l : List Bool) : fAll [.lst (l.map D.bl)] w k = k (.bl (l.all id)) w := by
  unfold fAll
  simp only [allBl_map]
theorem fSum_m (l : List Int) : fSum [.lst (l.map D.int)] w k = k (.int l.sum) w := by
  unfold fSum
  simp only [allInt_map]
end
theorem ggTup2 {a b : D} {t : GGs} {r : Rho} {w : Wd} {k : Rho → Wd → Prop} : DL.ggTup 2 t (.tup [a, b]) r w k = t [a, b] r w k := by
  show (2 = 2 ∧ t [a, b] r w k) = _
  simp
theorem ggTup3 {a b c : D} {t : GGs} {r : Rho} {w : Wd} {k : Rho → Wd → Prop} : DL.ggTup 3 t (.tup [a, b, c]) r w k = t [a, b, c] r w k := by
  show (3 = 3 ∧ t [a, b, c] r w k) = _
  simp
theorem ggNil0 {r : Rho} {w : Wd} {k : Rho → Wd → Prop} : DL.ggNil [] r w k = k r w := by
  show ([] = [] ∧ k r w) = _
  simp
theorem ggCons1 {d : D} {ds : List D} {t : GG} {u : GGs} {r : Rho} {w : Wd} {k : Rho → Wd → Prop} : DL.ggCons t u (d :: ds) r w k = t d r w fun r1 w1 => u ds r1 w1 k := rfl
section
variable {w : Wd} {k : KD} {i j a b c d : Int} {s t : Str}
theorem eqD_i : eqD (.int i) (.int j) w k = k (.bl (decide (i = j))) w := by
  simp [eqD, eqD0, toPD, SeqAt.shaped, PyData.canLay0, PyData.depth, PyData.eqv, Bool.beq_eq_decide_eq]
theorem neD_i : neD (.int i) (.int j) w k = k (.bl (!decide (i = j))) w := by
  simp [neD, neD0, toPD, SeqAt.shaped, PyData.canLay0, PyData.depth, PyData.eqv, Bool.beq_eq_decide_eq]
theorem eqD_s : eqD (.str s) (.str t) w k = k (.bl (decide (s = t))) w := rfl
theorem neD_s : neD (.str s) (.str t) w k = k (.bl (!decide (s = t))) w := rfl
theorem eqD_b {p q : Bool} : eqD (.bl p) (.bl q) w k = k (.bl (decide (p = q))) w := by
  simp [eqD, eqD0, toPD, SeqAt.shaped, PyData.canLay0, PyData.depth, PyData.eqv, Bool.beq_eq_decide_eq]
theorem neD_b {p q : Bool} : neD (.bl p) (.bl q) w k = k (.bl (!decide (p = q))) w := by
  simp [neD, neD0, toPD, SeqAt.shaped, PyData.canLay0, PyData.depth, PyData.eqv, Bool.beq_eq_decide_eq]
theorem eqD_f : eqD (.tup [.int a, .int b]) (.tup [.int c, .int d]) w k = k (.bl (decide (a = c ∧ b = d))) w := by
  simp [eqD, eqD0, toPD, toPDs, SeqAt.shaped, PyData.canLay0, PyData.canLayAll0, PyData.depth, PyData.depthAll, PyData.eqv, PyData.eqvAll, Bool.beq_eq_decide_eq]
theorem neD_f : neD (.tup [.int a, .int b]) (.tup [.int c, .int d]) w k = k (.bl (!decide (a = c ∧ b = d))) w := by
  simp [neD, neD0, toPD, toPDs, SeqAt.shaped, PyData.canLay0, PyData.canLayAll0, PyData.depth, PyData.depthAll, PyData.eqv, PyData.eqvAll, Bool.beq_eq_decide_eq]
end
theorem nc0 : ((0 : Nat) : Int) = 0 := rfl
theorem nc1 : ((1 : Nat) : Int) = 1 := rfl
theorem nc2 : ((2 : Nat) : Int) = 2 := rfl
theorem nc3 : ((3 : Nat) : Int) = 3 := rfl
theorem nc4 : ((4 : Nat) : Int) = 4 := rfl
theorem nc5 : ((5 : Nat) : Int) = 5 := rfl
theorem nc6 : ((6 : Nat) : Int) = 6 := rfl
theorem nc7 : ((7 : Nat) : Int) = 7 := rfl
theorem nc8 : ((8 : Nat) : Int) = 8 := rfl
theorem nc9 : ((9 : Nat) : Int) = 9 := rfl
theorem at_nat {α : Type} {xs : List α} {r : Int} (h0 : 0 ≤ r) (h1 : r < xs.length) : atI xs r = xs[r.toNat]? := by
  unfold atI ixN
  rw [if_pos h0, if_pos h1]
  rfl
theorem at_0 {α : Type} {x : α} {xs : List α} : atI (x :: xs) 0 = some x := by
  rw [at_nat (by decide) (by simp)]
  rfl
theorem at_1 {α : Type} {x y : α} {xs : List α} : atI (x :: y :: xs) 1 = some y := by
  rw [at_nat (by decide) (by simp; omega)]
  rfl
theorem at_2 {α : Type} {x y z : α} {xs : List α} : atI (x :: y :: z :: xs) 2 = some z := by
  rw [at_nat (by decide) (by simp; omega)]
  rfl
theorem at_some {α : Type} {xs : List α} {r : Int} (h0 : 0 ≤ r) (h1 : r < xs.length) : ∃ x, x ∈ xs ∧ atI xs r = some x := by
  rw [at_nat h0 h1]
  have : r.toNat < xs.length := by omega
  exact ⟨xs[r.toNat], List.getElem_mem this, List.getElem?_eq_getElem this⟩
theorem ix_all {xs : List D} {r : Int} {w : Wd} {k : KD} (Pd : D → Prop) (h0 : 0 ≤ r) (h1 : r < xs.length) (hP : ∀ x ∈ xs, Pd x) (hk : ∀ x, Pd x → k x w) : ixD (.lst xs) (.int r) w k := by
  obtain ⟨x, hx, e⟩ := at_some h0 h1
  rw [ixD_l, e]
  exact hk x (hP x hx)
theorem all_nil {α : Type} {Pd : α → Prop} : ∀ x ∈ ([] : List α), Pd x := fun _ h => nomatch h
theorem all_cons {α : Type} {Pd : α → Prop} {y : α} {ys : List α} (h : Pd y) (hs : ∀ x ∈ ys, Pd x) : ∀ x ∈ y :: ys, Pd x := List.forall_mem_cons.mpr ⟨h, hs⟩
theorem lc_map {gt : GG} {ge : GE} {Ok : Wd → Prop} {ρ : Rho} {k : KD} {items : List D} {w : Wd} (f : D → D) (hOk : Ok w) (hl : items.length ≤ 100000) (h : ∀ x, x ∈ items → ∀ k' : KD, k' (f x) w → gt x ρ w fun ρ1 w1 => ge ρ1 w1 noX k') (hk : k (.lst (items.map f)) w) :
    ∃ P : List D → List D → Wd → Prop, P items [] w ∧ LcS gt gYes ge Ok ρ k P := by
  refine ⟨fun rem acc w' => w' = w ∧ ∃ dn, items = dn ++ rem ∧ acc = dn.map f, ⟨rfl, [], rfl, rfl⟩, ?_, ?_⟩
  · rintro acc w' ⟨rfl, dn, e, rfl⟩
    rw [List.append_nil] at e
    subst e
    exact ⟨hOk, hk⟩
  · rintro x xs acc w' ⟨rfl, dn, e, rfl⟩
    refine ⟨hOk, ?_⟩
    have hx : x ∈ items := by rw [e]; simp
    have := h x hx (fun y w3 => (dn.map f).length < sizeLine ∧ (w3 = w' ∧ ∃ dn', items = dn' ++ xs ∧ dn.map f ++ [y] = dn'.map f)) ⟨?_, rfl, dn ++ [x], by rw [e]; simp, by simp⟩
    · exact this
    · rw [List.length_map]
      have : dn.length ≤ items.length := by rw [e]; simp
      exact Nat.lt_of_le_of_lt (Nat.le_trans this hl) (by decide)
theorem take_use {w : Wd} {m : Int} {c : Nat} {kx : KX} {k : KD} (n : Nat) (hn : w.n = some c) (hc : n + 1 ≤ c) (hm : 0 < m ∧ m.natAbs.log2 < 9000) (h : ∀ r c', 0 ≤ r → r < m → n ≤ c' → k (.int r) ⟨w.M, some c'⟩) : gTake [.st, .int m] w kx k :=
  ⟨m, c - 1, rfl, hm, by rw [hn]; congr 1; omega, fun r h0 h1 => h r _ h0 h1 (by omega)⟩
theorem log_of {m : Nat} (h : m < 2 ^ 200) : m.log2 < 9000 := Nat.lt_trans (PySem.Flt.log2_lt_of (by decide) h) (by decide)
theorem range_len {n : Nat} : ((List.range n).map fun (i : Nat) => D.int (i : Int)).length = n := by simp
end DL

namespace DL
open PySem PySem.Spec PyProof.Rows L2 RZ

def zipD (xs ys : List D) : List D := List.zipWith (fun x y => .tup [x, y]) xs ys
def giZip (ga : GA) : GI := fun ρ w kx k => ga ρ w kx fun ds w1 => match ds with
  | [.lst xs, .lst ys] => k (zipD xs ys) (fun _ => True) w1
  | [.tup xs, .tup ys] => k (zipD xs ys) (fun _ => True) w1
  | [.rf i, .lst ys] => match w1.M[i]? with
    | some (.lst xs) => k (zipD xs ys) (fun w => w.M[i]? = some (.lst xs)) w1
    | _ => False
  | _ => False
theorem zip_get {xs ys : List D} {i : Nat} {d : D} (h : (zipD xs ys)[i]? = some d) : ∃ x y, xs[i]? = some x ∧ ys[i]? = some y ∧ d = .tup [x, y] := by
  unfold zipD at h
  rw [List.getElem?_zipWith] at h
  cases h1 : xs[i]? with
  | none => rw [h1] at h; cases h
  | some x =>
    cases h2 : ys[i]? with
    | none => rw [h1, h2] at h; cases h
    | some y =>
      rw [h1, h2] at h
      exact ⟨x, y, rfl, rfl, (Option.some.inj h).symm⟩
theorem zip_len {xs ys : List D} {i : Nat} (h : (zipD xs ys).length = i) : xs.length ≤ i ∨ ys.length ≤ i := by
  unfold zipD at h
  rw [List.length_zipWith] at h
  omega
section
variable {X : Cx} {E : XK}
theorem zip_new {K : PySem.W.Frag} {G : Gh} {S H : Hp} {w : Wd} {x y : V} {d e : D} {T : Addr} (hr : HR K G S w H) (hT : H T = none) (r1 : Rep K G S x d) (r2 : Rep K G S y e) :
    ∃ G2 S2, Ext G S G2 S2 ∧ HR K G2 S2 w (upd H T (.tup [x, y])) ∧ Rep K G2 S2 (.ref T) (.tup [d, e]) := by
  obtain ⟨h1, x1⟩ := hr.newS hT (.tup [x, y])
  exact ⟨G, _, x1, h1, .tup (.inl (.inl upd_same)) ((RepAll.cons r1 (.cons r2 .nil)).mono x1)⟩
theorem iter_zipL {K : PySem.W.Frag} {G : Gh} {S : Hp} {a b : Addr} {xs ys : List V} {ds es : List D} (e1 : S a = some (.lst xs)) (e2 : S b = some (.lst ys)) (r1 : RepAll K G S xs ds) (r2 : RepAll K G S ys es) : IterOk K (Itz K a b) (zipD ds es) (fun _ => True) G S := by
  intro i G1 S1 w1 H1 x1 hr1 _
  have q1 : SqL K H1 a xs := .inl (.inl (hr1.same _ _ (x1.same _ _ e1)))
  have q2 : SqL K H1 b ys := .inl (.inl (hr1.same _ _ (x1.same _ _ e2)))
  refine ⟨fun d hd => ?_, fun hl => ⟨xs, ys, q1, q2, by rw [r1.length, r2.length]; exact zip_len hl⟩⟩
  obtain ⟨d1, d2, g1, g2, rfl⟩ := zip_get hd
  obtain ⟨v1, h1, h2⟩ := r1.get g1
  obtain ⟨v2, h3, h4⟩ := r2.get g2
  refine ⟨⟨xs, ys, v1, v2, q1, q2, h1, h3⟩, fun x H2 y => ?_⟩
  obtain ⟨T, u1, u2, rfl, hT, rfl, y1, y2⟩ := y
  have z1 := y1 xs q1
  have z2 := y2 ys q2
  rw [h1] at z1
  rw [h3] at z2
  cases z1
  cases z2
  exact zip_new hr1 hT (h2.mono x1) (h4.mono x1)
theorem iter_zipT {K : PySem.W.Frag} {G : Gh} {S : Hp} {a b : Addr} {xs ys : List V} {ds es : List D} (e1 : SqT K S a xs) (e2 : SqT K S b ys) (r1 : RepAll K G S xs ds) (r2 : RepAll K G S ys es) : IterOk K (ItzT K a b) (zipD ds es) (fun _ => True) G S := by
  intro i G1 S1 w1 H1 x1 hr1 _
  have q1 : SqT K H1 a xs := sqT_up hr1.same (sqT_up x1.same e1)
  have q2 : SqT K H1 b ys := sqT_up hr1.same (sqT_up x1.same e2)
  refine ⟨fun d hd => ?_, fun hl => ⟨xs, ys, q1, q2, by rw [r1.length, r2.length]; exact zip_len hl⟩⟩
  obtain ⟨d1, d2, g1, g2, rfl⟩ := zip_get hd
  obtain ⟨v1, h1, h2⟩ := r1.get g1
  obtain ⟨v2, h3, h4⟩ := r2.get g2
  refine ⟨⟨xs, ys, v1, v2, q1, q2, h1, h3⟩, fun x H2 y => ?_⟩
  obtain ⟨T, u1, u2, rfl, hT, rfl, y1, y2⟩ := y
  have z1 := y1 xs q1
  have z2 := y2 ys q2
  rw [h1] at z1
  rw [h3] at z2
  cases z1
  cases z2
  exact zip_new hr1 hT (h2.mono x1) (h4.mono x1)
theorem iter_zipC {K : PySem.W.Frag} {G : Gh} {S : Hp} {a b : Addr} {i : Nat} {ys : List V} {ds es : List D} (e1 : G.al[i]? = some a) (e2 : S b = some (.lst ys)) (r2 : RepAll K G S ys es) : IterOk K (Itz K a b) (zipD ds es) (fun w => w.M[i]? = some (.lst ds)) G S := by
  intro j G1 S1 w1 H1 x1 hr1 ok
  obtain ⟨_, xs, h1, r1⟩ := hr1.cell i a _ (x1.alGet e1) ok
  have q1 : SqL K H1 a xs := .inl (.inl h1)
  have q2 : SqL K H1 b ys := .inl (.inl (hr1.same _ _ (x1.same _ _ e2)))
  refine ⟨fun d hd => ?_, fun hl => ⟨xs, ys, q1, q2, by rw [r1.length, r2.length]; exact zip_len hl⟩⟩
  obtain ⟨d1, d2, g1, g2, rfl⟩ := zip_get hd
  obtain ⟨v1, h1, h2⟩ := r1.get g1
  obtain ⟨v2, h3, h4⟩ := r2.get g2
  refine ⟨⟨xs, ys, v1, v2, q1, q2, h1, h3⟩, fun x H2 y => ?_⟩
  obtain ⟨T, u1, u2, rfl, hT, rfl, y1, y2⟩ := y
  have z1 := y1 xs q1
  have z2 := y2 ys q2
  rw [h1] at z1
  rw [h3] at z2
  cases z1
  cases z2
  exact zip_new hr1 hT h2 (h4.mono x1)
theorem di_zip {e e2 : Expr} {ga : GA} {p pos tpos : Pos} {elts : List Expr} {kk : Nat} (B : Blt X.mg) (hg : Gl X "zip") (ha : DA X E [e, e2] ga)
    (hs : starEach [e, e2] X.env = (false, eval e X.env) :: starEach [e2] X.env := by rfl) (hpl : (backTo pos (starEach [e2] X.env)).any (·.1) = false := by rfl) :
    DI X E (.Tuple elts kk tpos) (.Call (.Name "zip" p) [e, e2] [] pos) (giZip ga) := pi_imp (pi_zipA hg B.zip_ ha hs hpl) (by
  rintro σ H R ⟨G, S, ρ, w, kx, k, hr, sr, xl, kl, h⟩
  refine ⟨G, S, ρ, w, kx, _, hr, sr, xl, fun G1 S1 H1 w1 ds vs x1 hr1 rp h1 => ?_, h⟩
  split at h1
  · obtain ⟨v, u, rfl, r1, r2⟩ := two_rep rp
    cases r1 with
    | lst e1 q1 => cases r2 with
      | lst e2 q2 => exact ⟨_, _, _, _, rfl, .inl ⟨.inl (.inl (hr1.same _ _ e1)), .inl (.inl (hr1.same _ _ e2)), kl _ _ _ _ _ _ _ x1 hr1 (iter_zipL e1 e2 q1 q2) h1⟩⟩
  · obtain ⟨v, u, rfl, r1, r2⟩ := two_rep rp
    cases r1 with
    | tup e1 q1 => cases r2 with
      | tup e2 q2 => exact ⟨_, _, _, _, rfl, .inr ⟨(sqT_up hr1.same e1), (sqT_up hr1.same e2), kl _ _ _ _ _ _ _ x1 hr1 (iter_zipT e1 e2 q1 q2) h1⟩⟩
  · obtain ⟨v, u, rfl, r1, r2⟩ := two_rep rp
    split at h1
    · rename_i em
      cases r1 with
      | rf e1 => cases r2 with
        | lst e2 q2 =>
          obtain ⟨_, xs, g1, g2⟩ := hr1.cell _ _ _ e1 em
          exact ⟨_, _, _, _, rfl, .inl ⟨.inl (.inl g1), .inl (.inl (hr1.same _ _ e2)), kl _ _ _ _ _ _ _ x1 hr1 (iter_zipC e1 e2 q2) h1⟩⟩
    · exact h1.elim
  · exact h1.elim)
end

def gRevL (g : GE) : GE := fun ρ w kx k => g ρ w kx fun x w1 => match x with
  | .lst xs => k (.lst xs.reverse) w1
  | _ => False
theorem paired_snoc {α β : Type} {R : α → β → Prop} {x : α} {y : β} (h : R x y) : ∀ {xs : List α} {ys : List β}, Paired R xs ys → Paired R (xs ++ [x]) (ys ++ [y])
  | _, _, .nil => .cons h .nil
  | _, _, .cons r t => .cons r (paired_snoc h t)
theorem lc_rel {gt : GG} {ge : GE} {Ok : Wd → Prop} {ρ : Rho} {k : KD} {items : List D} {w : Wd} (R : D → D → Prop) (hOk : Ok w) (hl : items.length ≤ 100000) (h : ∀ x, x ∈ items → ∀ k' : KD, (∀ y, R x y → k' y w) → gt x ρ w fun ρ1 w1 => ge ρ1 w1 noX k')
    (hk : ∀ ys, Paired R items ys → k (.lst ys) w) : ∃ P : List D → List D → Wd → Prop, P items [] w ∧ LcS gt gYes ge Ok ρ k P := by
  refine ⟨fun rem acc w' => w' = w ∧ ∃ dn, items = dn ++ rem ∧ Paired R dn acc, ⟨rfl, [], rfl, .nil⟩, ?_, ?_⟩
  · rintro acc w' ⟨rfl, dn, e, r⟩
    rw [List.append_nil] at e
    subst e
    exact ⟨hOk, hk _ r⟩
  · rintro x xs acc w' ⟨rfl, dn, e, r⟩
    refine ⟨hOk, ?_⟩
    have hx : x ∈ items := by rw [e]; simp
    have := h x hx (fun y w3 => acc.length < sizeLine ∧ (w3 = w' ∧ ∃ dn', items = dn' ++ xs ∧ Paired R dn' (acc ++ [y]))) fun y hy => ⟨?_, rfl, dn ++ [x], by rw [e]; simp, paired_snoc hy r⟩
    · exact this
    · have l := Paired.length r
      have : dn.length ≤ items.length := by rw [e]; simp
      exact Nat.lt_of_le_of_lt (Nat.le_trans (by omega) hl) (by decide)
theorem slD_l {xs : List D} {lo hi : Option Int} {w : Wd} {k : KD} : slD (.lst xs) lo hi w k = k (.lst (cutD xs lo hi)) w := rfl
mutual
def plain : D → Bool
  | .non => true
  | .int _ => true
  | .str _ => true
  | .lst xs => plains xs
  | .tup xs => plains xs
  | _ => false
def plains : List D → Bool
  | [] => true
  | x :: xs => plain x && plains xs
end
mutual
def okF : D → Bool
  | .non => true
  | .bl _ => true
  | .int _ => true
  | .str _ => true
  | .lst xs => okFs xs
  | .tup xs => okFs xs
  | _ => false
def okFs : List D → Bool
  | [] => true
  | x :: xs => okF x && okFs xs
end
mutual
def dep : D → Nat
  | .lst xs => deps xs + 1
  | .tup xs => deps xs + 1
  | _ => 0
def deps : List D → Nat
  | [] => 0
  | x :: xs => max (dep x) (deps xs)
end
mutual
def wid : D → Bool
  | .lst xs => decide (xs.length ≤ 100000) && wids xs
  | .tup xs => decide (xs.length ≤ 100000) && wids xs
  | _ => true
def wids : List D → Bool
  | [] => true
  | x :: xs => wid x && wids xs
end
theorem plains_mem : ∀ {xs : List D} {x : D}, plains xs = true → x ∈ xs → plain x = true
  | y :: ys, x, h, hx => by
    unfold plains at h
    rw [Bool.and_eq_true] at h
    rcases List.mem_cons.mp hx with rfl | hx
    · exact h.1
    · exact plains_mem h.2 hx
theorem okFs_mem : ∀ {xs : List D} {x : D}, okFs xs = true → x ∈ xs → okF x = true
  | y :: ys, x, h, hx => by
    unfold okFs at h
    rw [Bool.and_eq_true] at h
    rcases List.mem_cons.mp hx with rfl | hx
    · exact h.1
    · exact okFs_mem h.2 hx
theorem wids_mem : ∀ {xs : List D} {x : D}, wids xs = true → x ∈ xs → wid x = true
  | y :: ys, x, h, hx => by
    unfold wids at h
    rw [Bool.and_eq_true] at h
    rcases List.mem_cons.mp hx with rfl | hx
    · exact h.1
    · exact wids_mem h.2 hx
theorem deps_mem : ∀ {xs : List D} {x : D}, x ∈ xs → dep x ≤ deps xs
  | y :: ys, x, hx => by
    unfold deps
    rcases List.mem_cons.mp hx with rfl | hx
    · omega
    · have := deps_mem hx
      omega
mutual
theorem plain_ok : ∀ {d : D}, plain d = true → okF d = true
  | .non, _ => rfl
  | .int _, _ => rfl
  | .str _, _ => rfl
  | .lst xs, h => by
    unfold plain at h
    unfold okF
    exact plains_ok h
  | .tup xs, h => by
    unfold plain at h
    unfold okF
    exact plains_ok h
theorem plains_ok : ∀ {xs : List D}, plains xs = true → okFs xs = true
  | [], _ => rfl
  | x :: xs, h => by
    unfold plains at h
    rw [Bool.and_eq_true] at h
    unfold okFs
    rw [Bool.and_eq_true]
    exact ⟨plain_ok h.1, plains_ok h.2⟩
end
mutual
def lay : D → Bool
  | .non => true
  | .bl _ => true
  | .int _ => true
  | .str s => PyData.strOk s
  | .lst xs => lays xs
  | .tup xs => lays xs
  | _ => false
def lays : List D → Bool
  | [] => true
  | x :: xs => lay x && lays xs
end
mutual
theorem lay_pd : ∀ {d : D}, lay d = true → ∃ p, toPD d = some p ∧ p.canLay0 = true ∧ p.depth = dep d
  | .non, _ => ⟨_, rfl, rfl, rfl⟩
  | .bl _, _ => ⟨_, rfl, rfl, rfl⟩
  | .int _, _ => ⟨_, rfl, rfl, rfl⟩
  | .str s, h => ⟨_, rfl, h, rfl⟩
  | .lst xs, h => by
    obtain ⟨ps, h1, h2, h3⟩ := lays_pd (xs := xs) h
    refine ⟨.list ps, by rw [toPD, h1]; rfl, h2, ?_⟩
    show PyData.depthAll ps + 1 = _
    rw [h3]
    rfl
  | .tup xs, h => by
    obtain ⟨ps, h1, h2, h3⟩ := lays_pd (xs := xs) h
    refine ⟨.tuple ps, by rw [toPD, h1]; rfl, h2, ?_⟩
    show PyData.depthAll ps + 1 = _
    rw [h3]
    rfl
theorem lays_pd : ∀ {xs : List D}, lays xs = true → ∃ ps, toPDs xs = some ps ∧ PyData.canLayAll0 ps = true ∧ PyData.depthAll ps = deps xs
  | [], _ => ⟨[], rfl, rfl, rfl⟩
  | x :: xs, h => by
    unfold lays at h
    rw [Bool.and_eq_true] at h
    obtain ⟨p, h1, h2, h3⟩ := lay_pd h.1
    obtain ⟨ps, h4, h5, h6⟩ := lays_pd h.2
    refine ⟨p :: ps, by rw [toPDs, h1, h4], by simp [PyData.canLayAll0, h2, h5], ?_⟩
    show max p.depth (PyData.depthAll ps) = max (dep x) (deps xs)
    rw [h3, h6]
end
def gSame : Nat → GF
  | 0 => fun _ _ _ _ => False
  | j + 1 => fun ds w _ k => ∃ a b : D, ds = [a, b] ∧ (okF a = true ∧ plain b = true ∧ dep b ≤ j ∧ wid a = true ∧ wid b = true) ∧ ∀ c : Bool, (c = true ↔ a = b) → k (.bl c) w
theorem zip_pairs {xs ys : List D} (hl : xs.length = ys.length) : ∀ {cs : List D}, Paired (fun p y => ∃ c a b, p = D.tup [a, b] ∧ y = D.bl c ∧ (c = true ↔ a = b)) (zipD xs ys) cs → ∃ bs : List Bool, cs = bs.map D.bl ∧ (bs.all id = true ↔ xs = ys) := by
  induction xs generalizing ys with
  | nil =>
    intro cs h
    cases ys with
    | cons y ys => cases hl
    | nil =>
      cases h
      exact ⟨[], rfl, by simp⟩
  | cons x xs ih =>
    intro cs h
    cases ys with
    | nil => cases hl
    | cons y ys =>
      unfold zipD at h
      rw [List.zipWith_cons_cons] at h
      cases h with
      | cons h1 h2 =>
        obtain ⟨c, a, b, e1, rfl, h3⟩ := h1
        obtain ⟨bs, rfl, h4⟩ := ih (by simpa using hl) h2
        cases e1
        refine ⟨c :: bs, rfl, ?_⟩
        rw [List.all_cons, Bool.and_eq_true, h4]
        show c = true ∧ xs = ys ↔ x :: xs = y :: ys
        rw [h3, List.cons.injEq]
end DL

namespace DL
open PySem PySem.Spec PyProof.Rows L2 RZ

abbrev FM := D → List D → Wd → KD → Prop
def MtOk (K : PySem.W.Frag) (r : V → List V → Hp → VK → Prop) (f : FM) : Prop := ∀ {G S H w x d vs ds k Q}, HR K G S w H → Rep K G S x d → RepAll K G S vs ds → KL K G S k Q → f d ds w k → r x vs H Q
def isTy (T : String) (d : D) (w : Wd) : Prop := match d with
  | .str _ => T = "str"
  | .lst _ => T = "list"
  | .rf i => match w.M[i]? with
    | some (.lst _) => T = "list"
    | some (.dk _) => T = "dict"
    | _ => False
  | _ => False
theorem isTy_ok {K : PySem.W.Frag} {G : Gh} {S H : Hp} {w : Wd} {v : V} {d : D} {T : String} (hr : HR K G S w H) (r : Rep K G S v d) (h : isTy T d w) : tyV K T v H := by
  cases r with
  | str x => exact h
  | lst e r => exact .inl ⟨h, _, .inl (.inl (hr.same _ _ e))⟩
  | rf e =>
    unfold isTy at h
    simp only at h
    split at h
    · rename_i e2
      obtain ⟨_, ys, h1, h2⟩ := hr.cell _ _ _ e e2
      exact .inl ⟨h, ys, .inl (.inl h1)⟩
    · rename_i e2
      obtain ⟨_, ys, h1, h2⟩ := hr.cell _ _ _ e e2
      exact .inr (.inr (.inl ⟨h, .inl ⟨ys, h1⟩⟩))
    · exact h.elim
  | _ => exact h.elim
def gBM (T : String) (f : FM) (go : GE) (ga : GA) : GE := fun ρ w kx k => go ρ w kx fun x w1 => isTy T x w1 ∧ ga ρ w1 kx fun xs w2 => f x xs w2 k
section
variable {X : Cx} {E : XK} {o e : Expr} {es : List Expr} {go : GE} {ga : GA} {apos cpos : Pos} {name : Str} {T id : String} {r : V → List V → Hp → VK → Prop} {f : FM}
theorem de_bm (pa : PlainAttrs T) (slot : Slot T name id) (hty : typeOf (.builtin id) = pure (.type "method_descriptor")) (hm : MtR X id r) (hf : MtOk X.K r f) (ho : DE X E o go) (ha : DA X E (e :: es) ga)
    (hbase : attributeBase o name X.env (eval o X.env) = eval o X.env)
    (hfew : ((backTo cpos (starEach (e :: es) X.env)).all (fun x => !x.1) && (backToKw cpos (keywordEach [] X.env)).all (fun x => x.1.isSome)
      && decide ((e :: es).length + ([] : List Keyword).length + (if ([] : List Keyword).isEmpty then 0 else 1) < 30)) = true)
    (hline : (apos.endLine == cpos.line) = true) (hs : starEach (e :: es) X.env = (false, eval e X.env) :: starEach es X.env) (hplain : (backTo cpos (starEach es X.env)).any (·.1) = false) :
    DE X E (.Call (.Attribute o name apos) (e :: es) [] cpos) (gBM T f go ga) := pe_imp (pe_bm pa slot hty hm ho ha hbase hfew hline hs hplain) (by
  rintro σ H Q ⟨G, S, ρ, w, kx, k, hr, sr, xl, kl, h⟩
  exact ⟨G, S, ρ, w, kx, _, hr, sr, xl, fun G1 S1 H1 w1 d v x1 hr1 rp h1 => ⟨isTy_ok hr1 rp h1.1, G1, S1, ρ, w1, kx, _, hr1, sr.mono x1, xl.mono x1, fun G2 S2 H2 w2 ds vs x2 hr2 rp2 h2 => hf hr2 (rp.mono x2) rp2 (kl.mono (x1.trans x2)) h2, h1.2⟩, h⟩)
end
def cellK (i : Nat) (w : Wd) (f : List D → Prop) : Prop := match w.M[i]? with
  | some (.lst xs) => f xs
  | _ => False
theorem cell_get {K : PySem.W.Frag} {G : Gh} {S H : Hp} {w : Wd} {a : Addr} {i : Nat} {f : List D → Prop} (hr : HR K G S w H) (e : G.al[i]? = some a) (h : cellK i w f) :
    ∃ ds xs, w.M[i]? = some (.lst ds) ∧ S a = none ∧ H a = some (.lst xs) ∧ RepAll K G S xs ds ∧ f ds := by
  unfold cellK at h
  split at h
  · rename_i ds e2
    obtain ⟨h1, xs, h2, h3⟩ := hr.cell _ _ _ e e2
    exact ⟨ds, xs, e2, h1, h2, h3, h⟩
  · exact h.elim
theorem cell_put {K : PySem.W.Frag} {G : Gh} {S H : Hp} {w : Wd} {a : Addr} {i : Nat} {c : Cell} {ys : List V} {es : List D} (hr : HR K G S w H) (e : G.al[i]? = some a) (e2 : w.M[i]? = some c) (hs : S a = none) (r : RepAll K G S ys es) :
    HR K G S ⟨w.M.set i (.lst es), w.n⟩ (upd H a (.lst ys)) := hr.setC e e2 hs ⟨hs, ys, upd_same, r⟩
def mAppend : FM := fun x ds w k => match x, ds with
  | .rf i, [d] => cellK i w fun xs => xs.length < sizeLine ∧ k .non ⟨w.M.set i (.lst (xs ++ [d])), w.n⟩
  | _, _ => False
def mPopAt : FM := fun x ds w k => match x, ds with
  | .rf i, [.int j] => cellK i w fun xs => 0 ≤ j ∧ j < xs.length ∧ j < 2 ^ 63 ∧ someK xs[j.toNat]? fun d => k d ⟨w.M.set i (.lst (xs.eraseIdx j.toNat)), w.n⟩
  | _, _ => False
def mExtend : FM := fun x ds w k => match x, ds with
  | .rf i, [.lst ys] => cellK i w fun xs => xs.length + ys.length ≤ sizeLine ∧ k .non ⟨w.M.set i (.lst (xs ++ ys)), w.n⟩
  | _, _ => False
def mReverse : FM := fun x ds w k => match x, ds with
  | .rf i, [] => cellK i w fun xs => k .non ⟨w.M.set i (.lst xs.reverse), w.n⟩
  | _, _ => False
section
variable {K : PySem.W.Frag}
theorem ok_append : MtOk K rAppend mAppend := by
  intro G S H w x d vs ds k Q hr rx rxs kl h
  unfold mAppend at h
  split at h
  · cases rx with
    | rf e =>
      obtain ⟨es, xs, e2, h1, h2, h3, h4, h5⟩ := cell_get hr e h
      obtain ⟨v, rfl, r⟩ := one_rep rxs
      exact ⟨_, xs, v, rfl, rfl, h2, by rw [h3.length]; exact h4, kl _ _ _ _ _ _ (Ext.refl _ _) (cell_put hr e e2 h1 (h3.append (.cons r .nil))) .non h5⟩
  · exact h.elim
theorem seqIx {n : Nat} {j : Int} (h0 : 0 ≤ j) (h1 : j < n) : seqIndex? j n = some j.toNat := by
  have e : ixN n j = some j.toNat := by
    unfold ixN
    rw [if_pos h0, if_pos h1]
  exact (ixN_seq e).1
theorem ok_popAt : MtOk K rPopAt mPopAt := by
  intro G S H w x d vs ds k Q hr rx rxs kl h
  unfold mPopAt at h
  split at h
  · cases rx with
    | rf e =>
      obtain ⟨es, xs, e2, h1, h2, h3, h4, h5, h6, h7⟩ := cell_get hr e h
      obtain ⟨v, rfl, r⟩ := one_rep rxs
      cases r
      unfold someK at h7
      split at h7
      · rename_i d e3
        obtain ⟨u, e4, r4⟩ := h3.get e3
        exact ⟨_, xs, _, _, u, rfl, rfl, h2, by omega, h6, seqIx h4 (by rw [h3.length]; exact h5), e4, kl _ _ _ _ _ _ (Ext.refl _ _) (cell_put hr e e2 h1 (h3.eraseIdx _)) r4 h7⟩
      · exact h7.elim
  · exact h.elim
theorem ok_extend : MtOk K rExtend mExtend := by
  intro G S H w x d vs ds k Q hr rx rxs kl h
  unfold mExtend at h
  split at h
  · cases rx with
    | rf e =>
      obtain ⟨es, xs, e2, h1, h2, h3, h4, h5⟩ := cell_get hr e h
      obtain ⟨v, rfl, r⟩ := one_rep rxs
      cases r with
      | lst e6 r6 => exact ⟨_, _, xs, _, rfl, rfl, h2, hr.same _ _ e6, by rw [h3.length, r6.length]; exact h4, kl _ _ _ _ _ _ (Ext.refl _ _) (cell_put hr e e2 h1 (h3.append r6)) .non h5⟩
  · exact h.elim
end
theorem rep_strs {K : PySem.W.Frag} {G : Gh} {S : Hp} : ∀ ys : List Str, RepAll K G S (ys.map V.str) (ys.map D.str)
  | [] => .nil
  | y :: ys => .cons (.str y) (rep_strs ys)
def mSplit : FM := fun x ds w k => match x, ds with
  | .str a, [.str b] => (b.length == 0) = false ∧ a.length + 2 ≤ sizeLine ∧ k (.lst ((Txt.split a b).map D.str)) w
  | _, _ => False
def mSplitC : FM := fun x ds w k => match x, ds with
  | .str a, [.str b] => (b.length == 0) = false ∧ a.length + 2 ≤ sizeLine ∧ k (.rf w.M.length) ⟨w.M ++ [.lst ((Txt.split a b).map D.str)], w.n⟩
  | _, _ => False
def rSplitT : V → List V → Hp → VK → Prop := fun x xs H Q => ∃ a b, x = .str a ∧ xs = [.str b] ∧ (b.length == 0) = false ∧ a.length + 2 ≤ sizeLine ∧ rNewStrs (Txt.split a b) H Q
theorem ok_splitC {K : PySem.W.Frag} : MtOk K rSplitT mSplitC := by
  intro G S H w x d vs ds k Q hr rx rxs kl h
  unfold mSplitC at h
  split at h
  · cases rx
    obtain ⟨v, rfl, r⟩ := one_rep rxs
    cases r
    exact ⟨_, _, rfl, rfl, h.1, h.2.1, kl.newCL hr (rep_strs _) h.2.2⟩
  · exact h.elim
theorem countP_eqU {x : V} : ∀ {xs : List V} {us : List Value}, Vals xs us → xs.all flatV = true → us.countP (eqU x) = xs.countP fun y => eqV y x
  | _, _, .nil, _ => rfl
  | _, _, .cons r t, h => by
    rw [List.all_cons, Bool.and_eq_true] at h
    rw [List.countP_cons, List.countP_cons, countP_eqU t h.2, eqU_of r h.1]
def rCntV (K : PySem.W.Frag) : V → List V → Hp → VK → Prop := fun x xs H Q => ∃ (p : Addr) (ys : List V) (y : V), x = .ref p ∧ xs = [y] ∧ flatV y = true ∧ ys.all flatV = true ∧ SqL K H p ys ∧ Q (.int ((ys.countP fun z => eqV z y : Nat) : Int)) H
theorem mt_countV {X : Cx} : MtR X "list.count" (rCntV X.K) := by
  intro pins s σ H x xs v us Q I rx rxs h
  obtain ⟨p, ys, y, rfl, rfl, fy, fys, hs, q⟩ := h
  cases rx
  obtain ⟨u, rfl, ru⟩ := rxs.one
  obtain ⟨its, rv, ⟨⟨cls, dd, data, sl⟩, n, ho, hc, hdn, hd⟩, hlen⟩ := I.list hs
  simp only at hc hd
  subst hc hd
  refine call_meets PySem.F.slot_list_count ⟨_, ho, rfl⟩ PySem.F.entry_list_count (PySem.F.args_list_count_2 _ _)
    (SeqAt.list_countAt p its.toArray n dd sl u (eqU y)) ⟨ho, fun z hz => mem_eqAt ru fy rv fys z (by simpa using hz), ?_⟩
  have ec : its.toArray.toList.countP (eqU y) = ys.countP fun z => eqV z y := by
    rw [List.toList_toArray]
    exact countP_eqU rv fys
  refine ⟨.int ((ys.countP fun z => eqV z y : Nat) : Int), H, I.tok _, ⟨s.toks, ?_⟩, q⟩
  show Value.int ((its.toArray.toList.countP (eqU y) : Nat) : Int) s.toks = Value.int ((ys.countP fun z => eqV z y : Nat) : Int) s.toks
  rw [ec]
def allStr : List D → Option (List Str)
  | [] => some []
  | .str b :: r => match allStr r with
    | some bs => some (b :: bs)
    | none => none
  | _ => none
def mCount : FM := fun x ds w k => match x, ds with
  | .lst xs, [.str s] => ∃ ss, allStr xs = some ss ∧ ∀ c : Nat, c ≤ xs.length → k (.int (c : Nat)) w
  | _, _ => False
end DL

namespace DL
open PySem PySem.Spec PyProof.Rows L2 RZ

def gLcC (gi : GI) (gt : GG) (tt : GT) (ge : GE) (vs : List Nat) : GE := fun ρ w kx k => gLc gi gt tt ge vs ρ w kx fun d w1 => ∃ acc, d = .lst acc ∧ k (.rf w1.M.length) ⟨w1.M ++ [.lst acc], w1.n⟩
section
variable {X : Cx} {E : XK} {pos : Pos}
theorem lc_goC {K : PySem.W.Frag} {gi : GI} {gt : GG} {tt : GT} {ge : GE} {vs us : List Nat} (hu : ∀ i ∈ us, i ∈ vs) : ∀ σ H Q, upE K E (gLcC gi gt tt ge vs) σ H Q → tLc (upI K E gi) (upG K us gt) (upT K E0 tt) (upE K E0 ge) vs σ H Q := by
  rintro σ H Q ⟨G, S, ρ, w, kx, k, hr, sr, xl, kl, h⟩
  refine ⟨G, S, ρ, w, kx, _, hr, sr, xl, fun G1 S1 H1 w1 items Ok J x1 hr1 it h1 Dl hD => ?_, h⟩
  obtain ⟨P, h1, hP⟩ := h1
  have hfr := fr_ne hr1 hD
  have sD := hr1.freshS hD
  -- the state between turns: the list so far stands apart
  refine ⟨fun i m H' => m = items.length - i ∧ i ≤ items.length ∧ ∃ (G' : Gh) (S' : Hp) (w' : Wd) (xs : List V) (acc : List D), Ext G1 S1 ⟨G'.al, G'.st, G1.fr⟩ S' ∧ (∀ q ∈ G1.fr, q ∈ G'.fr) ∧ (Dl, HO.lst xs) ∈ G'.fr ∧ HR K G' S' w' H' ∧ RepAll K G' S' xs acc ∧ P (items.drop i) acc w', ⟨items.length, ?_⟩, ?_⟩
  · obtain ⟨hr2, x2⟩ := hr1.push (o := .lst []) hD
    refine ⟨by simp, Nat.zero_le _, ⟨G1.al, G1.st, (Dl, .lst []) :: G1.fr⟩, S1, w1, [], [], ⟨⟨[], by simp⟩, fun _ z => z, fun _ z => z, Same.refl _⟩, fun q hq => List.mem_cons_of_mem _ hq, List.mem_cons_self, hr2, .nil, h1⟩
  rintro i m H' ⟨rfl, hi, G2, S2, w2, xs, acc, x2, f2, fD, hr2, ra, h2⟩
  have x12 : Ext G1 S1 G2 S2 := ⟨x2.al, x2.st, f2, x2.same⟩
  by_cases hlt : i < items.length
  · have e : items.drop i = items[i] :: items.drop (i + 1) := List.drop_eq_getElem_cons hlt
    rw [e] at h2
    obtain ⟨ok, h2⟩ := hP.turn _ _ _ _ h2
    obtain ⟨i1, _⟩ := it i G2 S2 w2 H' x12 hr2 ok
    obtain ⟨go, yld⟩ := i1 items[i] (List.getElem?_eq_getElem hlt)
    refine .inr ⟨go, fun H3 => ∃ (G' : Gh) (S' : Hp) (w' : Wd) (xs : List V) (acc : List D), Ext G1 S1 ⟨G'.al, G'.st, G1.fr⟩ S' ∧ (∀ q ∈ G1.fr, q ∈ G'.fr) ∧ (Dl, HO.lst xs) ∈ G'.fr ∧ HR K G' S' w' H3 ∧ RepAll K G' S' xs acc ∧ P (items.drop (i + 1)) acc w', fun H3 h3 => ⟨items.length - (i + 1), by omega, rfl, hlt, h3⟩, fun x H3 y => ?_⟩
    obtain ⟨G3, S3, x3, hr3, rp⟩ := yld x H3 y
    have x13 := x12.trans x3
    refine ⟨G3, S3, wipeR ρ vs, w2, items[i], _, hr3, (wipe_sr (sr.mono x1) vs).mono x13, rp, fun G4 S4 H4 w4 ρ4 σ4 x4 hr4 sr4 off4 h4 => ⟨wipe_off hu off4, ?_⟩, h2⟩
    have x24 : Ext G2 S2 G4 S4 := x3.trans x4
    refine ⟨G4, S4, ρ4, w4, noX, _, hr4, sr4, xl_no, fun G5 S5 H5 w5 b x5 hr5 h5 => ?_, h4⟩
    have x25 := x24.trans x5
    have x15 := x12.trans x25
    cases b with
    | false => exact iteF ⟨G5, S5, w5, xs, acc, ⟨x15.al, x15.st, fun _ z => z, x15.same⟩, x15.fr, x25.fr _ fD, hr5, ra.mono x25, by simpa using h5⟩
    | true =>
      refine iteT ⟨G5, S5, ρ4, w5, noX, _, hr5, sr4.mono x5, xl_no, fun G6 S6 H6 w6 d v x6 hr6 rp6 h6 => ?_, by simpa using h5⟩
      have x26 := x25.trans x6
      have x16 := x12.trans x26
      have ra6 := ra.mono x26
      have fD6 := x26.fr _ fD
      refine ⟨xs, (hr6.fr _ fD6).2.2, by rw [ra.length]; exact h6.1, ?_⟩
      have hp := hr6.poke (o' := .lst (xs ++ [v])) (fr := G1.fr) fD6 (fun q hq => ⟨x16.fr q hq, hfr q hq⟩)
      refine ⟨⟨G6.al, G6.st, (Dl, .lst (xs ++ [v])) :: G1.fr⟩, S6, w6, xs ++ [v], acc ++ [d], ⟨x16.al, x16.st, fun _ z => z, x16.same⟩, fun q hq => List.mem_cons_of_mem _ hq, List.mem_cons_self, hp, ?_, h6.2⟩
      exact (RepAll.refr ra6).append (.cons (Rep.refr rp6) .nil)
  · have e : i = items.length := by omega
    subst e
    rw [List.drop_length] at h2
    obtain ⟨ok, h2⟩ := hP.done _ _ h2
    obtain ⟨_, i2⟩ := it items.length G2 S2 w2 H' x12 hr2 ok
    refine .inl ⟨i2 rfl, ?_⟩
    obtain ⟨z1, z2, z3⟩ := hr2.fr _ fD
    obtain ⟨acc0, ee, hk⟩ := h2
    cases ee
    have x3 : Ext G1 S1 ⟨G2.al ++ [Dl], G2.st, G1.fr⟩ S2 := ⟨(by obtain ⟨r, e⟩ := x2.al; exact ⟨r ++ [Dl], by show G2.al ++ [Dl] = _; rw [show G2.al = G1.al ++ r from e, List.append_assoc]⟩), x2.st, fun _ z => z, x2.same⟩
    have xc : Ext ⟨G2.al, G2.st, G1.fr⟩ S2 ⟨G2.al ++ [Dl], G2.st, G1.fr⟩ S2 := ⟨⟨[Dl], rfl⟩, fun _ z => z, fun _ z => z, Same.refl _⟩
    refine kl ⟨G2.al ++ [Dl], G2.st, G1.fr⟩ S2 H' ⟨w2.M ++ [.lst acc], w2.n⟩ _ _ (x1.trans x3) ⟨hr2.same, by simp [hr2.len], ?_, fun j b c' f1 f2 => ?_, ⟨hr2.st.1, fun b c' e => ?_⟩, fun q hq => ?_⟩ (.rf (show (G2.al ++ [Dl])[w2.M.length]? = some Dl by rw [List.getElem?_append_right (by rw [hr2.len]; exact Nat.le_refl _), hr2.len, Nat.sub_self]; rfl)) hk
    · show (G2.al ++ [Dl]).Nodup
      rw [List.nodup_append]
      refine ⟨hr2.nod, by simp, fun a ha b hb z => ?_⟩
      rw [List.mem_singleton] at hb
      exact z2 (by rw [← hb, ← z]; exact ha)
    · have f1 : (G2.al ++ [Dl])[j]? = some b := f1
      have f2 : (w2.M ++ [Cell.lst acc])[j]? = some c' := f2
      by_cases hj : j < G2.al.length
      · rw [List.getElem?_append_left hj] at f1
        rw [List.getElem?_append_left (by rw [← hr2.len]; exact hj)] at f2
        have q := hr2.cell j b c' f1 f2
        cases c' with
        | dead => exact q
        | exc C => exact q
        | exf C fs =>
          obtain ⟨n0, dx, gs, e3, e4, r⟩ := q
          exact ⟨n0, dx, gs, e3, xc.same _ _ e4, Paired.mapP r fun p q z => ⟨z.1, (Rep.refr z.2).mono xc⟩⟩
        | tbl P q2 => exact q
        | lk o ks kvs =>
          obtain ⟨n0, e3, r⟩ := q
          exact ⟨n0, e3, Paired.mapP r fun p q z => ⟨z.1, (Rep.refr z.2).mono xc⟩⟩
        | lst ds =>
          obtain ⟨n0, ys, e3, r⟩ := q
          exact ⟨n0, ys, e3, (RepAll.refr r).mono xc⟩
        | dk ds =>
          obtain ⟨n0, ys, e3, r⟩ := q
          exact ⟨n0, ys, e3, Paired.mapP r fun p q z => ⟨z.1, (Rep.refr z.2).mono xc⟩⟩
        | ins C ds =>
          obtain ⟨n0, dx, ys, e3, r⟩ := q
          exact ⟨n0, dx, ys, e3, Paired.mapP r fun p q z => ⟨z.1, (Rep.refr z.2).mono xc⟩⟩
      · have hi2 : G2.al.length ≤ j := Nat.le_of_not_lt hj
        rw [List.getElem?_append_right hi2] at f1
        rw [List.getElem?_append_right (by rw [← hr2.len]; exact hi2), ← hr2.len] at f2
        have l := (List.getElem?_eq_some_iff.mp f1).1
        have l0 : j - G2.al.length = 0 := by
          rw [List.length_singleton] at l
          omega
        rw [l0] at f1 f2
        have e1 : Dl = b := by simpa using f1
        have e2 : Cell.lst acc = c' := by simpa using f2
        subst e1
        subst e2
        exact ⟨z1, xs, z3, (RepAll.refr ra).mono xc⟩
    · obtain ⟨y1, y2, y3, y4, y5, y6, y7⟩ := hr2.st.2 b c' e
      obtain ⟨n1, n2⟩ := y6 _ fD
      refine ⟨y1, y2, y3, fun hm => ?_, fun hm => ?_, fun q hq => y6 q (f2 q hq), y7⟩
      · rcases List.mem_append.mp hm with hm | hm
        · exact y4 hm
        · exact n1 (List.mem_singleton.mp hm).symm
      · rcases List.mem_append.mp hm with hm | hm
        · exact y5 hm
        · exact n2 (List.mem_singleton.mp hm).symm
    · obtain ⟨y1, y2, y3⟩ := hr2.fr q (f2 q hq)
      refine ⟨y1, fun hm => ?_, y3⟩
      rcases List.mem_append.mp hm with hm | hm
      · exact y2 hm
      · exact hfr q hq (List.mem_singleton.mp hm)
theorem de_lcC {elt tg iter : Expr} {ifs : List Expr} {scope : Scope} {own : List (Str × Nat)} {us : List Nat} {gi : GI} {gt : GG} {tt : GT} {ge : GE} (hc : X.calm = true) (hN : X.N.Nodup) (hi : DI X E tg iter gi) (ok : BlkOk X.N X.env.scope scope own) (hu : ∀ i ∈ us, i ∈ own.map (·.2))
    (hg : ∀ (s : Shared) (H : Hp) (C : Addr) (cl : List (Str × Addr)) (fp : List Addr), DG (X.blk s H scope (compEnvC scope cl C X.env) fp) us tg gt) (ht : ∀ (s : Shared) (H : Hp) (C : Addr) (cl : List (Str × Addr)) (fp : List Addr), DTs (X.blk s H scope (compEnvC scope cl C X.env) fp) E0 ifs tt)
    (he : ∀ (s : Shared) (H : Hp) (C : Addr) (cl : List (Str × Addr)) (fp : List Addr), DE (X.blk s H scope (compEnvC scope cl C X.env) fp) E0 elt ge) (hs : ∀ x, foldedSetIterable iter X.env x = pure x := by intro _; rfl) :
    DE X E (.ListComp elt [⟨tg, iter, ifs, 0⟩] scope pos) (gLcC gi gt tt ge (own.map (·.2))) := pe_imp (pe_lc (g := upG X.K us gt) (tt := upT X.K E0 tt) (te := upE X.K E0 ge) hc hN hi ok hg ht he hs) (lc_goC hu)
end
def ggSub (go gi : GE) : GG := fun d ρ w k => go ρ w noX fun x w1 => gi ρ w1 noX fun y w2 => match x, y with
  | .rf i, .int j => cellK i w2 fun xs => 0 ≤ j ∧ j < xs.length ∧ k ρ ⟨w2.M.set i (.lst (xs.set j.toNat d)), w2.n⟩
  | _, _ => False
section
variable {X : Cx} {E : XK} {o i : Expr} {go gi : GE} {pos : Pos}
end
def slA : D → Option Int → Option Int → Wd → KD → Prop := fun x lo hi w k => match x with
  | .lst ds => k (.lst (cutD ds lo hi)) w
  | .tup ds => k (.tup (cutD ds lo hi)) w
  | .rf i => cellK i w fun ds => k (.lst (cutD ds lo hi)) w
  | _ => False
theorem cut_whole {α : Type} {xs : List α} {lo hi : Option Int} (h : HT.sIx xs.length 0 lo = 0 ∧ HT.sIx xs.length xs.length hi = xs.length) : cutD xs lo hi = xs := by
  unfold cutD
  rw [h.1, h.2, List.drop_zero, Nat.sub_zero, List.take_length]
def rSlAA (K : PySem.W.Frag) : V → Option Int → Option Int → Hp → VK → Prop := fun x lo hi H Q => rSlL K x lo hi H Q ∨ rSlA K x lo hi H Q
theorem ok_slA {K : PySem.W.Frag} : SlOk K (rSlAA K) slA := by
  intro G S H w x d lo hi k Q hr rx kl h
  cases rx with
  | lst e r => exact .inl ⟨_, _, rfl, .inl (.inl (hr.same _ _ e)), kl.newL hr (rep_cut r) h⟩
  | tup e r =>
    refine .inr ⟨_, _, rfl, sqT_up hr.same e, fun hw => ?_, fun _ => kl.newT hr (rep_cut r) h⟩
    rw [r.length] at hw
    have h : k (.tup (cutD _ lo hi)) w := h
    rw [cut_whole hw] at h
    exact kl.here hr (.tup e r) h
  | rf e =>
    obtain ⟨es, xs, e2, h1, h2, h3, h4⟩ := cell_get hr e h
    exact .inl ⟨_, _, rfl, .inl (.inl h2), kl.newL hr (rep_cut h3) h4⟩
  | _ => exact h.elim
section
variable {X : Cx} {E : XK} {a : Expr} {ga : GE} {gl gh : GO} {pos p2 : Pos} {lo hi : Option Expr}
theorem de_slA (he : DE X E a ga) (hl : DO X E lo gl) (hu : DO X E hi gh) : DE X E (.Subscript a (.Slice lo hi none p2) pos) (gSl slA ga gl gh) := de_slice (sl_list.or sl_tupA) ok_slA he hl hu
end
def addTD : F2 := fun x y w k => match x, y with
  | .tup xs, .tup ys => xs.length + ys.length ≤ sizeLine ∧ k (.tup (xs ++ ys)) w
  | _, _ => False
theorem ok_addTD {K : PySem.W.Frag} : BinOk K (rCatA K) addTD := by
  intro G S H w x y d e k Q hr rx ry kl h
  unfold addTD at h
  split at h
  · cases rx with
    | tup e1 r1 => cases ry with
      | tup e2 r2 =>
        refine ⟨_, _, _, _, rfl, rfl, sqT_up hr.same e1, sqT_up hr.same e2, by rw [r1.length, r2.length]; exact h.1, fun z => ?_, fun _ z => ?_, fun _ _ => kl.newT hr (r1.append r2) h.2⟩
        · subst z
          cases r1
          exact kl.here hr (.tup e2 r2) h.2
        · subst z
          cases r2
          have h2 := h.2
          rw [List.append_nil] at h2
          exact kl.here hr (.tup e1 r1) h2
  · exact h.elim
def addCD : F2 := fun x y w k => match x, y with
  | .lst xs, .lst ys => xs.length + ys.length ≤ sizeLine ∧ k (.rf w.M.length) ⟨w.M ++ [.lst (xs ++ ys)], w.n⟩
  | .rf i, .lst ys => cellK i w fun xs => xs.length + ys.length ≤ sizeLine ∧ k (.rf w.M.length) ⟨w.M ++ [.lst (xs ++ ys)], w.n⟩
  | _, _ => False
def mulCD : F2 := fun x y w k => match x, y with
  | .lst xs, .int j => -(2 ^ 63) ≤ j ∧ j < 2 ^ 63 ∧ xs.length * j.toNat ≤ sizeLine ∧ k (.rf w.M.length) ⟨w.M ++ [.lst (List.replicate j.toNat xs).flatten], w.n⟩
  | _, _ => False
def isbD : F2 := fun x y w k => match x, y with
  | .bl a, .bl b => k (.bl (decide (a = b))) w
  | _, _ => False
def isnotbD : F2 := fun x y w k => match x, y with
  | .bl a, .bl b => k (.bl (!decide (a = b))) w
  | _, _ => False
section
variable {X : Cx} {E : XK} {a b : Expr} {ga gb : GE} {pos : Pos}
theorem de_addt (ha : DE X E a ga) (hb : DE X E b gb) : DE X E (.BinOp a .Add b pos) (gBin addTD ga gb) := de_bin op_catA ok_addTD ha hb
end
def enumD : Nat → List D → List D
  | _, [] => []
  | i, x :: xs => .tup [.int (i : Nat), x] :: enumD (i + 1) xs
theorem enum_len : ∀ (xs : List D) (i : Nat), (enumD i xs).length = xs.length
  | [], _ => rfl
  | x :: xs, i => congrArg (· + 1) (enum_len xs (i + 1))
theorem enum_get : ∀ {xs : List D} {n i : Nat} {d : D}, (enumD n xs)[i]? = some d → ∃ x, xs[i]? = some x ∧ d = .tup [.int ((n + i : Nat) : Int), x]
  | [], _, _, _, h => by simp [enumD] at h
  | x :: xs, n, 0, d, h => by
    unfold enumD at h
    rw [List.getElem?_cons_zero] at h
    exact ⟨x, rfl, (Option.some.inj h).symm⟩
  | x :: xs, n, i + 1, d, h => by
    unfold enumD at h
    rw [List.getElem?_cons_succ] at h
    obtain ⟨y, h1, h2⟩ := enum_get h
    refine ⟨y, by rw [List.getElem?_cons_succ]; exact h1, ?_⟩
    rw [h2, show n + 1 + i = n + (i + 1) by omega]
def giEnum (ga : GA) : GI := fun ρ w kx k => ga ρ w kx fun ds w1 => match ds with
  | [.lst xs] => k (enumD 0 xs) (fun _ => True) w1
  | _ => False
section
variable {X : Cx} {E : XK}
end
mutual
def low (n : Nat) : D → Bool
  | .rf i => decide (i < n)
  | .lst xs => lows n xs
  | .tup xs => lows n xs
  | _ => true
def lows (n : Nat) : List D → Bool
  | [] => true
  | x :: xs => low n x && lows n xs
end
section
variable {K : PySem.W.Frag} {G : Gh} {S H : Hp} {w : Wd}
mutual
theorem Rep.low : ∀ {v : V} {d : D}, Rep K G S v d → DL.low G.al.length d = true
  | _, _, .non => rfl
  | _, _, .bl _ => rfl
  | _, _, .int _ => rfl
  | _, _, .str _ => rfl
  | _, _, .lst _ r => RepAll.low r
  | _, _, .tup _ r => RepAll.low r
  | _, _, .rf h => decide_eq_true (List.getElem?_eq_some_iff.mp h).1
  | _, _, .st _ => rfl
  | _, _, .ob _ => rfl
  | _, _, .scr _ => rfl
theorem RepAll.low : ∀ {v : List V} {d : List D}, RepAll K G S v d → lows G.al.length d = true
  | _, _, .nil => rfl
  | _, _, .cons h r => by
    unfold lows
    rw [Rep.low h, RepAll.low r]
    rfl
end
variable {n : Nat}
mutual
theorem Rep.trunc : ∀ {v : V} {d : D}, Rep K G S v d → DL.low n d = true → Rep K ⟨G.al.take n, G.st, G.fr⟩ S v d
  | _, _, .non, _ => .non
  | _, _, .bl b, _ => .bl b
  | _, _, .int b, _ => .int b
  | _, _, .str b, _ => .str b
  | _, _, .lst e r, h => .lst e (RepAll.trunc r h)
  | _, _, .tup e r, h => .tup e (RepAll.trunc r h)
  | _, _, .rf (i := i) e, h => by
    have hi : i < n := of_decide_eq_true h
    refine .rf ?_
    show (G.al.take n)[i]? = _
    rw [List.getElem?_take, if_pos hi]
    exact e
  | _, _, .st h, _ => .st h
  | _, _, .ob h, _ => .ob h
  | _, _, .scr h, _ => .scr h
theorem RepAll.trunc : ∀ {v : List V} {d : List D}, RepAll K G S v d → lows n d = true → RepAll K ⟨G.al.take n, G.st, G.fr⟩ S v d
  | _, _, .nil, _ => .nil
  | _, _, .cons q r, h => by
    unfold lows at h
    rw [Bool.and_eq_true] at h
    exact .cons (Rep.trunc q h.1) (RepAll.trunc r h.2)
end
def lowC (n : Nat) : Cell → Prop
  | .dead => True
  | .exc _ => True
  | .exf _ fs => ∀ p ∈ fs, low n p.2 = true
  | .tbl _ _ => True
  | .lk _ _ kvs => ∀ p ∈ kvs, low n p.2 = true
  | .lst xs => lows n xs = true
  | .dk kvs => ∀ p ∈ kvs, low n p.2 = true
  | .ins _ fs => ∀ p ∈ fs, low n p.2 = true
theorem fs_low {κ : Type} : ∀ {xs : List (κ × V)} {ys : List (κ × D)}, FsRep K G S xs ys → ∀ p ∈ ys, DL.low G.al.length p.2 = true
  | _, _, .nil, p, hp => nomatch hp
  | _, _, .cons h r, p, hp => by
    rcases List.mem_cons.mp hp with rfl | hp
    · exact h.2.low
    · exact fs_low r p hp
theorem fs_trunc {κ : Type} : ∀ {xs : List (κ × V)} {ys : List (κ × D)}, FsRep K G S xs ys → (∀ p ∈ ys, DL.low n p.2 = true) → FsRep K ⟨G.al.take n, G.st, G.fr⟩ S xs ys
  | _, _, .nil, _ => .nil
  | _, _, .cons h r, hp => .cons ⟨h.1, h.2.trunc (hp _ List.mem_cons_self)⟩ (fs_trunc r fun p q => hp p (List.mem_cons_of_mem _ q))
theorem CellOk.low {a : Addr} {c : Cell} (h : CellOk K G S H a c) : lowC G.al.length c := by
  cases c with
  | dead => trivial
  | exc C => trivial
  | exf C fs => obtain ⟨_, _, _, _, _, r⟩ := h; exact fs_low r
  | tbl P q => trivial
  | lk o ks kvs => obtain ⟨_, _, r⟩ := h; exact fs_low r
  | lst ds => obtain ⟨_, _, _, r⟩ := h; exact r.low
  | dk ds => obtain ⟨_, _, _, r⟩ := h; exact fs_low r
  | ins C ds => obtain ⟨_, _, _, _, r⟩ := h; exact fs_low r
theorem CellOk.trunc {a : Addr} {c : Cell} (h : CellOk K G S H a c) (l : lowC n c) : CellOk K ⟨G.al.take n, G.st, G.fr⟩ S H a c := by
  cases c with
  | dead => exact h
  | exc C => exact h
  | exf C fs => obtain ⟨h1, dx, gs, h2, h3, r⟩ := h; exact ⟨h1, dx, gs, h2, h3, fs_trunc r l⟩
  | tbl P q => exact h
  | lk o ks kvs => obtain ⟨h1, h2, r⟩ := h; exact ⟨h1, h2, fs_trunc r l⟩
  | lst ds => obtain ⟨h1, xs, h2, r⟩ := h; exact ⟨h1, xs, h2, r.trunc l⟩
  | dk ds => obtain ⟨h1, xs, h2, r⟩ := h; exact ⟨h1, xs, h2, fs_trunc r l⟩
  | ins C ds => obtain ⟨h1, dx, xs, h2, r⟩ := h; exact ⟨h1, dx, xs, h2, fs_trunc r l⟩
theorem HR.lowAll (h : HR K G S w H) : ∀ c ∈ w.M, lowC w.M.length c := fun c hc => by
  obtain ⟨i, hi⟩ := List.getElem?_of_mem hc
  have l := (List.getElem?_eq_some_iff.mp hi).1
  rw [← h.len] at l ⊢
  exact (h.cell i _ c (List.getElem?_eq_getElem l) hi).low
theorem HR.trunc {M0 r : List Cell} (h : HR K G S w H) (e : w.M = M0 ++ r) (hl : ∀ c ∈ M0, lowC M0.length c) : HR K ⟨G.al.take M0.length, G.st, G.fr⟩ S ⟨M0, w.n⟩ H := by
  have ln : G.al.length = M0.length + r.length := by rw [h.len, e, List.length_append]
  refine ⟨h.same, ?_, h.nod.sublist (List.take_sublist _ _), fun i a c e1 e2 => ?_, ⟨h.st.1, fun a c z => ?_⟩, fun p hp => ?_⟩
  · show (G.al.take M0.length).length = M0.length
    rw [List.length_take, ln]
    omega
  · have e1 : (G.al.take M0.length)[i]? = some a := e1
    have e2 : M0[i]? = some c := e2
    have li := (List.getElem?_eq_some_iff.mp e2).1
    rw [List.getElem?_take, if_pos li] at e1
    have q := h.cell i a c e1 (by rw [e, List.getElem?_append_left li]; exact e2)
    exact q.trunc (hl c (List.mem_of_getElem? e2))
  · obtain ⟨z1, z2, z3, z4, z5, z6⟩ := h.st.2 a c z
    exact ⟨z1, z2, z3, fun q => z4 (List.mem_of_mem_take q), fun q => z5 (List.mem_of_mem_take q), z6⟩
  · obtain ⟨y1, y2, y3⟩ := h.fr p hp
    exact ⟨y1, fun q => y2 (List.mem_of_mem_take q), y3⟩
end
def gTr (f : GF) : GF := fun ds w kx k => f ds w kx fun d w1 => (∃ r, w1.M = w.M ++ r) ∧ low w.M.length d = true ∧ k d ⟨w.M, w1.n⟩
theorem tr_up {n : Nat} {K : PySem.W.Frag} {f : GF} : ∀ vs H Q E, upF n K (gTr f) vs H Q E → upF n K f vs H Q E := by
  rintro vs H Q E ⟨G, S, ds, w, kx, k, h1, h2, h3, h4, h5, h6⟩
  refine ⟨G, S, ds, w, kx, _, h1, h2, h3, h4, fun G' S' H' w' d v x1 hr1 rp hk => ?_, h6⟩
  obtain ⟨⟨r, e⟩, lo, hk⟩ := hk
  refine h5 ⟨G'.al.take w.M.length, G'.st, G'.fr⟩ S' H' ⟨w.M, w'.n⟩ _ _ ⟨⟨[], ?_⟩, x1.st, x1.fr, x1.same⟩ (hr1.trunc e h2.lowAll) (rp.trunc lo) hk
  obtain ⟨r2, e2⟩ := x1.al
  show G'.al.take w.M.length = G.al ++ []
  rw [e2, ← h2.len, List.take_left, List.append_nil]
theorem FnAt.trunc {P : Program} {w : World} {K : PySem.W.Frag} {mg : Str → Option Value} {base : Heap} {CX : CXT} {k : Nat} {x : Str} {n : Nat} {g : GF} (h : FnAt P w K mg base CX k x n g) : FnAt P w K mg base CX k x n (gTr g) := by
  obtain ⟨f, fd, ps, h1, h2⟩ := h.ex
  exact ⟨f, fd, ps, h1.imp tr_up, h2⟩
section
variable {w : Wd} {k : KD} {i j : Int} {M : List Cell} {n : Option Nat} {xs ys : List D} {d : D} {c c' : Cell}
theorem isTy_l {T : String} : isTy T (.lst xs) w = (T = "list") := rfl
theorem isTy_s {T : String} {s : Str} : isTy T (.str s) w = (T = "str") := rfl
theorem new_at : (M ++ [c])[M.length]? = some c := by simp
theorem new_set : (M ++ [c]).set M.length c' = M ++ [c'] := by
  rw [List.set_append_right (h := Nat.le_refl _), Nat.sub_self]
  rfl
theorem isTy_new {T : String} : isTy T (.rf M.length) ⟨M ++ [.lst xs], n⟩ = (T = "list") := by
  unfold isTy
  simp
theorem cellK_new {f : List D → Prop} : cellK M.length ⟨M ++ [.lst xs], n⟩ f = f xs := by
  unfold cellK
  simp
theorem append_new : mAppend (.rf M.length) [d] ⟨M ++ [.lst xs], n⟩ k = (xs.length < sizeLine ∧ k .non ⟨M ++ [.lst (xs ++ [d])], n⟩) := by
  unfold mAppend
  simp only [cellK_new, new_set]
theorem popAt_new : mPopAt (.rf M.length) [.int j] ⟨M ++ [.lst xs], n⟩ k = (0 ≤ j ∧ j < xs.length ∧ j < 2 ^ 63 ∧ someK xs[j.toNat]? fun d => k d ⟨M ++ [.lst (xs.eraseIdx j.toNat)], n⟩) := by
  unfold mPopAt
  simp only [cellK_new, new_set]
def frzK (d : D) (w : Wd) (k : KD) : Prop := match d with
  | .rf i => match w.M[i]? with
    | some (.lst ds) => k (.lst ds) ⟨w.M.set i .dead, w.n⟩
    | _ => False
  | _ => False
theorem gFrz_eq {ge : GE} {ρ : Rho} {kx : KX} : gFrz ge ρ w kx k = ge ρ w kx fun x w1 => frzK x w1 k := rfl
theorem frzK_new : frzK (.rf M.length) ⟨M ++ [.lst xs], n⟩ k = k (.lst xs) ⟨M ++ [.dead], n⟩ := by
  unfold frzK
  simp only [new_at, new_set]
theorem fLen_new : fLen [.rf M.length] ⟨M ++ [.lst xs], n⟩ k = k (.int xs.length) ⟨M ++ [.lst xs], n⟩ := by
  simp [fLen, seqD]
theorem fTuple_new : fTuple [.rf M.length] ⟨M ++ [.lst xs], n⟩ k = k (.tup xs) ⟨M ++ [.lst xs], n⟩ := by
  simp [fTuple, seqD]
theorem ixD_new : ixD (.rf M.length) (.int j) ⟨M ++ [.lst xs], n⟩ k = someK (atI xs j) (fun d => k d ⟨M ++ [.lst xs], n⟩) := by
  simp [ixD, seqD]
  rfl
theorem slA_l {lo hi : Option Int} : slA (.lst xs) lo hi w k = k (.lst (cutD xs lo hi)) w := rfl
theorem slA_t {lo hi : Option Int} : slA (.tup xs) lo hi w k = k (.tup (cutD xs lo hi)) w := rfl
theorem slA_new {lo hi : Option Int} : slA (.rf M.length) lo hi ⟨M ++ [.lst xs], n⟩ k = k (.lst (cutD xs lo hi)) ⟨M ++ [.lst xs], n⟩ := by
  unfold slA
  simp only [cellK_new]
theorem addTD_t : addTD (.tup xs) (.tup ys) w k = (xs.length + ys.length ≤ sizeLine ∧ k (.tup (xs ++ ys)) w) := rfl
theorem addCD_l : addCD (.lst xs) (.lst ys) w k = (xs.length + ys.length ≤ sizeLine ∧ k (.rf w.M.length) ⟨w.M ++ [.lst (xs ++ ys)], w.n⟩) := rfl
theorem mulCD_l : mulCD (.lst xs) (.int j) w k = (-(2 ^ 63) ≤ j ∧ j < 2 ^ 63 ∧ xs.length * j.toNat ≤ sizeLine ∧ k (.rf w.M.length) ⟨w.M ++ [.lst (List.replicate j.toNat xs).flatten], w.n⟩) := rfl
theorem isbD_b {a b : Bool} : isbD (.bl a) (.bl b) w k = k (.bl (decide (a = b))) w := rfl
theorem isnotbD_b {a b : Bool} : isnotbD (.bl a) (.bl b) w k = k (.bl (!decide (a = b))) w := rfl
theorem mSplitC_s {a b : Str} : mSplitC (.str a) [.str b] w k = ((b.length == 0) = false ∧ a.length + 2 ≤ sizeLine ∧ k (.rf w.M.length) ⟨w.M ++ [.lst ((Txt.split a b).map D.str)], w.n⟩) := rfl
end
theorem lows_of {n : Nat} : ∀ {xs : List D}, (∀ x ∈ xs, low n x = true) → lows n xs = true
  | [], _ => rfl
  | x :: xs, h => by
    unfold lows
    rw [h x List.mem_cons_self, lows_of fun y hy => h y (List.mem_cons_of_mem _ hy)]
    rfl
def lstK (d : D) (w : Wd) (f : List D → Prop) : Prop := match d with
  | .lst xs => f xs
  | .rf i => cellK i w f
  | _ => False
def addLD : F2 := fun x y w k => lstK x w fun xs => lstK y w fun ys => xs.length + ys.length ≤ sizeLine ∧ k (.lst (xs ++ ys)) w
theorem lstK_l {xs : List D} {w : Wd} {f : List D → Prop} : lstK (.lst xs) w f = f xs := rfl
theorem lstK_r {i : Nat} {w : Wd} {f : List D → Prop} : lstK (.rf i) w f = cellK i w f := rfl
theorem addLD_eq {x y : D} {w : Wd} {k : KD} : addLD x y w k = lstK x w fun xs => lstK y w fun ys => xs.length + ys.length ≤ sizeLine ∧ k (.lst (xs ++ ys)) w := rfl
end DL

namespace DL
open PySem PySem.Spec PyProof.Rows L2 RZ

theorem lc_tyf {α : Type} {gt : GG} {tt : GT} {ge : GE} {Ok : Wd → Prop} {ρ : Rho} {k : KD} {w : Wd} (toD f : α → D) (p : α → Bool) (xs : List α) (hOk : Ok w) (hl : xs.length ≤ 100000)
    (h : ∀ a, a ∈ xs → ∀ (A : KD) (B : Wd → Prop), (p a = true → A (f a) w) → (p a = false → B w) → gt (toD a) ρ w fun ρ1 w1 => tt ρ1 w1 noX fun c w2 => if c = true then ge ρ1 w2 noX A else B w2)
    (hk : k (.lst ((xs.filter p).map f)) w) : ∃ P : List D → List D → Wd → Prop, P (xs.map toD) [] w ∧ LcS gt tt ge Ok ρ k P := by
  refine ⟨fun rem acc w' => w' = w ∧ ∃ dn rs, xs = dn ++ rs ∧ rem = rs.map toD ∧ acc = (dn.filter p).map f, ⟨rfl, [], xs, rfl, rfl, rfl⟩, ?_, ?_⟩
  · rintro acc w' ⟨rfl, dn, rs, e, e2, rfl⟩
    have : rs = [] := by simpa using e2.symm
    subst this
    rw [List.append_nil] at e
    subst e
    exact ⟨hOk, hk⟩
  · rintro x rem acc w' ⟨rfl, dn, rs, e, e2, rfl⟩
    cases rs with
    | nil => cases e2
    | cons a rs =>
      rw [List.map_cons] at e2
      injection e2 with e2 e3
      subst e2
      subst e3
      refine ⟨hOk, ?_⟩
      have ha : a ∈ xs := by rw [e]; simp
      have hlen : dn.length ≤ xs.length := by rw [e]; simp
      refine h a ha _ _ (fun hp => ⟨?_, rfl, dn ++ [a], rs, by rw [e]; simp, rfl, ?_⟩) (fun hp => ⟨rfl, dn ++ [a], rs, by rw [e]; simp, rfl, ?_⟩)
      · rw [List.length_map]
        have := List.length_filter_le p dn
        exact Nat.lt_of_le_of_lt (show (dn.filter p).length ≤ 100000 by omega) (by decide)
      · rw [List.filter_append, List.filter_cons, if_pos hp, List.map_append]
        rfl
      · rw [List.filter_append, List.filter_cons, if_neg (by rw [hp]; decide), List.filter_nil, List.append_nil]
theorem lc_ty {α : Type} {gt : GG} {ge : GE} {Ok : Wd → Prop} {ρ : Rho} {k : KD} {w : Wd} (toD f : α → D) (xs : List α) (hOk : Ok w) (hl : xs.length ≤ 100000)
    (h : ∀ a, a ∈ xs → ∀ k' : KD, k' (f a) w → gt (toD a) ρ w fun ρ1 w1 => ge ρ1 w1 noX k') (hk : k (.lst (xs.map f)) w) : ∃ P : List D → List D → Wd → Prop, P (xs.map toD) [] w ∧ LcS gt gYes ge Ok ρ k P := by
  refine lc_tyf toD f (fun _ => true) xs hOk hl (fun a ha A B h1 _ => ?_) ?_
  · exact h a ha A (h1 rfl)
  · rw [List.filter_eq_self.mpr fun _ _ => rfl]
    exact hk
end DL

namespace DL
open PySem PySem.Spec PyProof.Rows L2 RZ

def keyD : D → Option Key
  | .int i => some (.inl i)
  | .str s => some (.inr s)
  | _ => none
section
variable {K : PySem.W.Frag} {G : Gh} {S H : Hp} {w : Wd}
theorem rep_key {v : V} {d : D} {k : Key} (r : Rep K G S v d) (h : keyD d = some k) : v = kV k := by
  cases r with
  | int i => cases h; rfl
  | str i => cases h; rfl
  | _ => cases h
section
variable {κ : Type} [DecidableEq κ]
def valD (kvs : List (κ × D)) (k : κ) : Option D := (kvs.find? fun kv => decide (kv.1 = k)).map (·.2)
def putD (kvs : List (κ × D)) (k : κ) (d : D) : List (κ × D) := if (kvs.any fun kv => decide (kv.1 = k)) = true then kvs.map fun kv => if kv.1 = k then (kv.1, d) else kv else kvs ++ [(k, d)]
theorem fs_any {k : κ} : ∀ {xs : List (κ × V)} {ys : List (κ × D)}, FsRep K G S xs ys → (xs.any fun kv => decide (kv.1 = k)) = ys.any fun kv => decide (kv.1 = k)
  | _, _, .nil => rfl
  | _, _, .cons h r => by
    rw [List.any_cons, List.any_cons, fs_any r, h.1]
theorem fs_some {k : κ} {d : D} : ∀ {xs : List (κ × V)} {ys : List (κ × D)}, FsRep K G S xs ys → valD ys k = some d → ∃ v, valV xs k = some v ∧ Rep K G S v d
  | _, _, .nil, e => nomatch e
  | x :: xs, y :: ys, .cons h r, e => by
    by_cases hk : y.1 = k
    · have e2 : valD (y :: ys) k = some y.2 := by simp [valD, List.find?_cons, hk]
      rw [e2] at e
      cases e
      exact ⟨x.2, valV_pos (h.1.trans hk), h.2⟩
    · have e2 : valD (y :: ys) k = valD ys k := by simp [valD, List.find?_cons, hk]
      rw [e2] at e
      rw [valV_neg fun z => hk (h.1.symm.trans z)]
      exact fs_some r e
theorem fs_none {k : κ} : ∀ {xs : List (κ × V)} {ys : List (κ × D)}, FsRep K G S xs ys → valD ys k = none → valV xs k = none
  | _, _, .nil, _ => rfl
  | x :: xs, y :: ys, .cons h r, e => by
    by_cases hk : y.1 = k
    · have e2 : valD (y :: ys) k = some y.2 := by simp [valD, List.find?_cons, hk]
      rw [e2] at e
      cases e
    · have e2 : valD (y :: ys) k = valD ys k := by simp [valD, List.find?_cons, hk]
      rw [e2] at e
      rw [valV_neg fun z => hk (h.1.symm.trans z)]
      exact fs_none r e
theorem fs_map {k : κ} {v : V} {d : D} (hd : Rep K G S v d) : ∀ {xs : List (κ × V)} {ys : List (κ × D)}, FsRep K G S xs ys → FsRep K G S (xs.map fun kv => if kv.1 = k then (kv.1, v) else kv) (ys.map fun kv => if kv.1 = k then (kv.1, d) else kv)
  | _, _, .nil => .nil
  | x :: _, y :: _, .cons h r => by
    refine .cons ?_ (fs_map hd r)
    by_cases hk : y.1 = k
    · simp only [if_pos hk, if_pos (h.1.trans hk)]
      exact ⟨h.1, hd⟩
    · have hk2 : ¬ x.1 = k := fun z => hk (h.1.symm.trans z)
      simp only [if_neg hk, if_neg hk2]
      exact h
theorem fs_snoc {k : κ} {v : V} {d : D} (hd : Rep K G S v d) : ∀ {xs : List (κ × V)} {ys : List (κ × D)}, FsRep K G S xs ys → FsRep K G S (xs ++ [(k, v)]) (ys ++ [(k, d)])
  | _, _, .nil => .cons ⟨rfl, hd⟩ .nil
  | _, _, .cons h r => .cons h (fs_snoc hd r)
theorem fs_put {k : κ} {v : V} {d : D} (hd : Rep K G S v d) {xs : List (κ × V)} {ys : List (κ × D)} (h : FsRep K G S xs ys) : FsRep K G S (putK xs k v) (putD ys k d) := by
  unfold putK putD
  rw [fs_any h]
  split
  · exact fs_map hd h
  · exact fs_snoc hd h
theorem fs_lenD {xs : List (κ × V)} {ys : List (κ × D)} (h : FsRep K G S xs ys) : xs.length = ys.length := Paired.length h
theorem fs_keys : ∀ {xs : List (κ × V)} {ys : List (κ × D)}, FsRep K G S xs ys → xs.map (·.1) = ys.map (·.1)
  | _, _, .nil => rfl
  | _, _, .cons h r => by
    rw [List.map_cons, List.map_cons, fs_keys r, h.1]
end
def dkK (i : Nat) (w : Wd) (f : List (Key × D) → Prop) : Prop := match w.M[i]? with
  | some (.dk xs) => f xs
  | _ => False
theorem dk_get {a : Addr} {i : Nat} {f : List (Key × D) → Prop} (hr : HR K G S w H) (e : G.al[i]? = some a) (h : dkK i w f) :
    ∃ ds xs, w.M[i]? = some (.dk ds) ∧ S a = none ∧ H a = some (.dK xs) ∧ FsRep K G S xs ds ∧ f ds := by
  unfold dkK at h
  split at h
  · rename_i ds e2
    obtain ⟨h1, xs, h2, h3⟩ := hr.cell _ _ _ e e2
    exact ⟨ds, xs, e2, h1, h2, h3, h⟩
  · exact h.elim
theorem dk_put {a : Addr} {i : Nat} {c : Cell} {ys : List (Key × V)} {es : List (Key × D)} (hr : HR K G S w H) (e : G.al[i]? = some a) (e2 : w.M[i]? = some c) (hs : S a = none) (r : FsRep K G S ys es) :
    HR K G S ⟨w.M.set i (.dk es), w.n⟩ (upd H a (.dK ys)) := hr.setC e e2 hs ⟨hs, ys, upd_same, r⟩
theorem KL.newCell {k : KD} {Q : VK} {o : HO} {c : Cell} (kl : KL K G S k Q) (hr : HR K G S w H) (h : k (.rf w.M.length) ⟨w.M ++ [c], w.n⟩) {p : Addr} (hp : H p = none) (hc : CellOk K ⟨G.al ++ [p], G.st, G.fr⟩ S (upd H p o) p c) : Q (.ref p) (upd H p o) := by
  obtain ⟨h1, x1⟩ := hr.newC hp o c hc
  refine kl _ _ _ _ _ _ x1 h1 (.rf ?_) h
  show (G.al ++ [p])[w.M.length]? = some p
  rw [List.getElem?_append_right (by rw [hr.len]; exact Nat.le_refl _), hr.len, Nat.sub_self]
  rfl
end
def gDNew : GE := fun _ w _ k => k (.rf w.M.length) ⟨w.M ++ [.dk []], w.n⟩
def keyK (d : D) (f : Key → Prop) : Prop := match keyD d with
  | some k => f k
  | none => False
def rfK (d : D) (f : Nat → Prop) : Prop := match d with
  | .rf i => f i
  | _ => False
def gDGet (go gi : GE) : GE := fun ρ w kx k => go ρ w kx fun x w1 => gi ρ w1 kx fun y w2 => rfK x fun i => keyK y fun q => dkK i w2 fun kvs => someK (valD kvs q) fun d => k d w2
def gDGet2 (go gi gd : GE) : GE := fun ρ w kx k => go ρ w kx fun x w1 => rfK x fun i => dkK i w1 fun _ => gi ρ w1 kx fun y w2 => gd ρ w2 kx fun z w3 => keyK y fun q => dkK i w3 fun kvs => k ((valD kvs q).getD z) w3
def gDSetd (go gi gd : GE) : GE := fun ρ w kx k => go ρ w kx fun x w1 => rfK x fun i => dkK i w1 fun _ => gi ρ w1 kx fun y w2 => gd ρ w2 kx fun z w3 => keyK y fun q => dkK i w3 fun kvs => kvs.length < sizeLine ∧ match valD kvs q with
  | some d => k d w3
  | none => k z ⟨w3.M.set i (.dk (putD kvs q z)), w3.n⟩
def ggDPut (go gi : GE) : GG := fun d ρ w k => go ρ w noX fun x w1 => gi ρ w1 noX fun y w2 => rfK x fun i => keyK y fun q => dkK i w2 fun kvs => kvs.length < sizeLine ∧ k ρ ⟨w2.M.set i (.dk (putD kvs q d)), w2.n⟩
theorem rfK_rep {K : PySem.W.Frag} {G : Gh} {S : Hp} {v : V} {d : D} {f : Nat → Prop} (r : Rep K G S v d) (h : rfK d f) : ∃ a i, v = .ref a ∧ d = .rf i ∧ G.al[i]? = some a ∧ f i := by
  cases r with
  | rf e => exact ⟨_, _, rfl, rfl, e, h⟩
  | _ => exact h.elim
theorem keyK_rep {K : PySem.W.Frag} {G : Gh} {S : Hp} {v : V} {d : D} {f : Key → Prop} (r : Rep K G S v d) (h : keyK d f) : ∃ k, v = kV k ∧ f k := by
  unfold keyK at h
  split at h
  · rename_i k e
    exact ⟨k, rep_key r e, h⟩
  · exact h.elim
theorem someK_get {o : Option D} {f : D → Prop} (h : someK o f) : ∃ d, o = some d ∧ f d := by
  unfold someK at h
  split at h
  · exact ⟨_, rfl, h⟩
  · exact h.elim
section
variable {X : Cx} {E : XK} {o i e : Expr} {go gi gd : GE} {pos apos cpos : Pos}
theorem de_dnew : DE X E (.Dict [] [] pos) gDNew := pe_imp pe_dnewK (by
  rintro σ H Q ⟨G, S, ρ, w, kx, k, hr, sr, xl, kl, h⟩ p hp
  exact kl.newCell hr h hp ⟨hr.freshS hp, [], upd_same, .nil⟩)
theorem de_dget (hu : X.A.units + 1 < cLine) (ho : DE X E o go) (hi : DE X E i gi) (hs : NoSl i := by exact fun _ _ => rfl) : DE X E (.Subscript o i pos) (gDGet go gi) := pe_imp (pe_dget hu ho hi hs) (by
  rintro σ H Q ⟨G, S, ρ, w, kx, k, hr, sr, xl, kl, h⟩
  refine ⟨G, S, ρ, w, kx, _, hr, sr, xl, fun G1 S1 H1 w1 dx vx x1 hr1 rx h1 => ⟨G1, S1, ρ, w1, kx, _, hr1, sr.mono x1, xl.mono x1, fun G2 S2 H2 w2 dy vy x2 hr2 ry h2 => ?_, h1⟩, h⟩
  obtain ⟨a, j, rfl, rfl, ea, h3⟩ := rfK_rep (rx.mono x2) h2
  obtain ⟨q, rfl, h4⟩ := keyK_rep ry h3
  obtain ⟨ds, xs, _, _, g1, g2, h5⟩ := dk_get hr2 ea h4
  obtain ⟨d, e1, h6⟩ := someK_get h5
  obtain ⟨v, e2, rv⟩ := fs_some g2 e1
  exact ⟨a, v, rfl, by rw [← e2]; exact DGet.k g1, kl _ _ _ _ _ _ (x1.trans x2) hr2 rv h6⟩)
theorem de_dget2 (hu : X.A.units + 1 < cLine) (ho : DE X E o go) (hi : DE X E i gi) (hd : DE X E e gd) (m : M2 X o "get" apos i e cpos := by exact ⟨rfl, rfl, rfl, rfl⟩) : DE X E (.Call (.Attribute o "get" apos) [i, e] [] cpos) (gDGet2 go gi gd) := pe_imp (pe_dget2 hu ho hi hd m) (by
  rintro σ H Q ⟨G, S, ρ, w, kx, k, hr, sr, xl, kl, h⟩
  refine ⟨G, S, ρ, w, kx, _, hr, sr, xl, fun G1 S1 H1 w1 dx vx x1 hr1 rx h1 => ?_, h⟩
  obtain ⟨a, j, rfl, rfl, ea, h3⟩ := rfK_rep rx h1
  obtain ⟨ds, xs, _, _, g1, g2, h5⟩ := dk_get hr1 ea h3
  refine ⟨a, rfl, .inl ⟨xs, .inl g1⟩, G1, S1, ρ, w1, kx, _, hr1, sr.mono x1, xl.mono x1, fun G2 S2 H2 w2 dy vy x2 hr2 ry h6 => ⟨G2, S2, ρ, w2, kx, _, hr2, sr.mono (x1.trans x2), xl.mono (x1.trans x2), fun G3 S3 H3 w3 dz vz x3 hr3 rz h7 => ?_, h6⟩, h5⟩
  obtain ⟨q, rfl, h8⟩ := keyK_rep (ry.mono x3) h7
  have ea3 := (x2.trans x3).alGet ea
  obtain ⟨es, ys, _, _, g3, g4, h9⟩ := dk_get hr3 ea3 h8
  have xt := x1.trans (x2.trans x3)
  refine ⟨_, DGet.k g3, ?_⟩
  cases e1 : valD es q with
  | none =>
    rw [e1] at h9
    rw [fs_none g4 e1]
    exact kl _ _ _ _ _ _ xt hr3 rz h9
  | some d =>
    rw [e1] at h9
    obtain ⟨v, e2, rv⟩ := fs_some g4 e1
    rw [e2]
    exact kl _ _ _ _ _ _ xt hr3 rv h9)
theorem de_dsetd (ho : DE X E o go) (hi : DE X E i gi) (hd : DE X E e gd) (m : M2 X o "setdefault" apos i e cpos := by exact ⟨rfl, rfl, rfl, rfl⟩) : DE X E (.Call (.Attribute o "setdefault" apos) [i, e] [] cpos) (gDSetd go gi gd) := pe_imp (pe_dsetd ho hi hd m) (by
  rintro σ H Q ⟨G, S, ρ, w, kx, k, hr, sr, xl, kl, h⟩
  refine ⟨G, S, ρ, w, kx, _, hr, sr, xl, fun G1 S1 H1 w1 dx vx x1 hr1 rx h1 => ?_, h⟩
  obtain ⟨a, j, rfl, rfl, ea, h3⟩ := rfK_rep rx h1
  obtain ⟨ds, xs, _, _, g1, g2, h5⟩ := dk_get hr1 ea h3
  refine ⟨a, rfl, .inl ⟨xs, .inl g1⟩, G1, S1, ρ, w1, kx, _, hr1, sr.mono x1, xl.mono x1, fun G2 S2 H2 w2 dy vy x2 hr2 ry h6 => ⟨G2, S2, ρ, w2, kx, _, hr2, sr.mono (x1.trans x2), xl.mono (x1.trans x2), fun G3 S3 H3 w3 dz vz x3 hr3 rz h7 => ?_, h6⟩, h5⟩
  obtain ⟨q, rfl, h8⟩ := keyK_rep (ry.mono x3) h7
  have ea3 := (x2.trans x3).alGet ea
  obtain ⟨es, ys, e2, hs, g3, g4, h9, h10⟩ := dk_get hr3 ea3 h8
  have xt := x1.trans (x2.trans x3)
  refine ⟨ys, q, g3, rfl, by rw [fs_lenD g4]; exact h9, fun v hv => ?_, fun hv => ?_⟩
  · cases e1 : valD es q with
    | none =>
      rw [fs_none g4 e1] at hv
      cases hv
    | some d =>
      rw [e1] at h10
      obtain ⟨u, e3, rv⟩ := fs_some g4 e1
      rw [e3] at hv
      cases hv
      exact kl _ _ _ _ _ _ xt hr3 rv h10
  · cases e1 : valD es q with
    | none =>
      rw [e1] at h10
      exact kl _ _ _ _ _ _ xt (dk_put hr3 ea3 e2 hs (fs_put rz g4)) rz h10
    | some d =>
      obtain ⟨u, e3, rv⟩ := fs_some g4 e1
      rw [e3] at hv
      cases hv)
theorem dg_dput (hu : X.A.units + 1 < cLine) (ho : DE X E o go) (hi : DE X E i gi)
    (ha : ∀ v, assign (.Subscript o i pos) X.env v = (do
      let ov ← holding [v] (eval o X.env)
      let iv ← holding [v, ov] (eval i X.env)
      standAt pos
      holding [v, ov, iv] (setItem ov iv v)
      release [v, ov, iv] []) := by intro _; rfl) : DG X [] (.Subscript o i pos) (ggDPut go gi) := pg_imp (pg_sub ho hi (set_dict hu) ha) (by
  rintro v σ H Q ⟨G, S, ρ, w, d, k, hr, sr, rp, nl, h⟩
  refine ⟨G, S, ρ, w, noX, _, hr, sr, xl_no, fun G1 S1 H1 w1 dx vx x1 hr1 rx h1 => ⟨G1, S1, ρ, w1, noX, _, hr1, sr.mono x1, xl_no, fun G2 S2 H2 w2 dy vy x2 hr2 ry h2 => ?_, h1⟩, h⟩
  have x12 := x1.trans x2
  obtain ⟨a, j, rfl, rfl, ea, h3⟩ := rfK_rep (rx.mono x2) h2
  obtain ⟨q, rfl, h4⟩ := keyK_rep ry h3
  obtain ⟨es, ys, e2, hs, g3, g4, h9, h10⟩ := dk_get hr2 ea h4
  exact ⟨a, _, rfl, DPut.k g3 (by rw [fs_lenD g4]; exact h9), nl _ _ _ _ _ _ x12 (dk_put hr2 ea e2 hs (fs_put (rp.mono x12) g4)) (sr.mono x12) ⟨rfl, fun _ _ => rfl⟩ h10⟩)
end
def fSortD : FB := fun ds w k => match ds with
  | [.rf i] => dkK i w fun kvs => ∃ ks : List Str, kvs.map (·.1) = ks.map Sum.inr ∧ ks.length < 64 ∧ ∀ ys : List Str, ys.Perm ks → sortedS ys = true → k (.lst (ys.map D.str)) w
  | _ => False
theorem de_sortD {X : Cx} {E : XK} {e : Expr} {es : List Expr} {ga : GA} {p pos : Pos} (B : Blt X.mg) (hc : X.calm = true) (hg : Gl X "sorted") (ha : DA X E (e :: es) ga) (he : starEach (e :: es) X.env = (false, eval e X.env) :: starEach es X.env := by rfl) (hpl : (backTo pos (starEach es X.env)).any (·.1) = false := by rfl) : DE X E (.Call (.Name "sorted" p) (e :: es) [] pos) (gCB fSortD ga) := de_cb (call_sortedD hc) (by
  intro G S H w xs ds k Q hr rx kl h
  unfold fSortD at h
  split at h
  · obtain ⟨v, rfl, r⟩ := one_rep rx
    cases r with
    | rf e =>
      obtain ⟨kvs, ys, _, _, g1, g2, ks, h1, h2, h3⟩ := dk_get hr e h
      exact ⟨_, ys, ks, rfl, .inl g1, (fs_keys g2).trans h1, h2, fun zs p h4 h5 hp => kl.newL hr (rep_strs zs) (h3 zs h4 h5) p hp⟩
  · exact h.elim) hg B.sorted_ (by decide +kernel) ha (he := he) (hpl := hpl)

def insK (C : Addr) (i : Nat) (w : Wd) (f : List (Str × D) → Prop) : Prop := match w.M[i]? with
  | some (.ins C' fs) => C' = C ∧ f fs
  | _ => False
theorem ins_at {K : PySem.W.Frag} {G : Gh} {S H : Hp} {w : Wd} {C a : Addr} {i : Nat} {f : List (Str × D) → Prop} (hr : HR K G S w H) (e : G.al[i]? = some a) (h : insK C i w f) :
    ∃ ds dx xs, w.M[i]? = some (.ins C ds) ∧ S a = none ∧ H a = some (.ins C dx xs) ∧ FsRep K G S xs ds ∧ f ds := by
  unfold insK at h
  split at h
  · rename_i C' ds e2
    obtain ⟨rfl, h⟩ := h
    obtain ⟨h1, dx, xs, h2, h3⟩ := hr.cell _ _ _ e e2
    exact ⟨ds, dx, xs, e2, h1, h2, h3, h⟩
  · exact h.elim
def putFD (f : Str) (d : D) : List (Str × D) → List (Str × D)
  | [] => [(f, d)]
  | (g, x) :: r => if g = f then (g, d) :: r else (g, x) :: putFD f d r
section
variable {K : PySem.W.Frag} {G : Gh} {S : Hp}
theorem fs_putF {f : Str} {v : V} {d : D} (hd : Rep K G S v d) : ∀ {xs : List (Str × V)} {ys : List (Str × D)}, FsRep K G S xs ys → FsRep K G S (putF f v xs) (putFD f d ys)
  | _, _, .nil => .cons ⟨rfl, hd⟩ .nil
  | (g, x) :: xs, (g', y) :: ys, .cons h r => by
    have e : g = g' := h.1
    subst e
    show FsRep K G S (if g = f then (g, v) :: xs else (g, x) :: putF f v xs) (if g = f then (g, d) :: ys else (g, y) :: putFD f d ys)
    split
    · exact .cons ⟨rfl, hd⟩ r
    · exact .cons h (fs_putF hd r)
theorem fs_look {f : Str} {d : D} : ∀ {xs : List (Str × V)} {ys : List (Str × D)}, FsRep K G S xs ys → ys.lookup f = some d → ∃ v, xs.lookup f = some v ∧ Rep K G S v d
  | _, _, .nil, e => nomatch e
  | (g, x) :: xs, (g', y) :: ys, .cons h r, e => by
    have eg : g = g' := h.1
    subst eg
    rw [List.lookup_cons] at e ⊢
    split at e
    · cases e
      exact ⟨x, rfl, h.2⟩
    · exact fs_look r e
theorem fs_lookN {f : Str} : ∀ {xs : List (Str × V)} {ys : List (Str × D)}, FsRep K G S xs ys → ys.lookup f = none → xs.lookup f = none
  | _, _, .nil, _ => rfl
  | (g, x) :: xs, (g', y) :: ys, .cons h r, e => by
    have eg : g = g' := h.1
    subst eg
    rw [List.lookup_cons] at e ⊢
    split at e
    · cases e
    · exact fs_lookN r e
end
def gFld (C : Addr) (go : GE) (f : Str) : GE := fun ρ w kx k => go ρ w kx fun x w1 => rfK x fun i => insK C i w1 fun fs => someK (fs.lookup f) fun d => k d w1
def gSetF (C : Addr) (go gv : GE) (f : Str) : GS := fun F ρ w => gv ρ w F.ex fun d w1 => go ρ w1 F.ex fun x w2 => rfK x fun i => insK C i w2 fun fs => fs.length < 1000 ∧ F.nx ρ ⟨w2.M.set i (.ins C (putFD f d fs)), w2.n⟩
def gMeth (C : Addr) (n : Nat) (sp : GF) (m : Str) (go : GE) (ga : GA) : GE := fun ρ w kx k => go ρ w kx fun x w1 => rfK x fun i => insK C i w1 fun fs => fs.lookup m = none ∧ ga ρ w1 kx fun xs w2 => (x :: xs).length = n ∧ sp (x :: xs) w2 noX k
def gMake (C : Addr) (n : Nat) (sp : GF) (ga : GA) : GE := fun ρ w kx k => ga ρ w kx fun xs w1 => (D.rf w1.M.length :: xs).length = n ∧ sp (.rf w1.M.length :: xs) ⟨w1.M ++ [.ins C []], w1.n⟩ noX fun d w2 => d = .non ∧ k (.rf w1.M.length) w2
structure ClsAt (K : PySem.W.Frag) (mg : Str → Option Value) (x : Str) (C : Addr) (fs : List Str) : Prop where
  cl : Cls K C
  mgC : mg x = some (.ref C)
  na : ∀ f ∈ fs, NoAttr K C f
structure MethAt (K : PySem.W.Frag) (C : Addr) (m qual : Str) (st : Stmt) (ps : List Str) : Prop where
  ex : ∃ f fd, Fun K m qual st f fd ∧ Meth K C m f ∧ Binds K fd ps []
structure InitAt (K : PySem.W.Frag) (C : Addr) (qual : Str) (st : Stmt) (ps : List Str) : Prop where
  ex : ∃ f fd, Fun K "__init__" qual st f fd ∧ Mk K C f ∧ Binds K fd ps []
structure MtAt (P : Program) (w : World) (K : PySem.W.Frag) (mg : Str → Option Value) (base : Heap) (CX : CXT) (k : Nat) (C : Addr) (m : Str) (n : Nat) (g : GF) : Prop where
  ex : ∃ f fd ps, FnOk P w K mg base CX k f fd ps (upF n K g) ∧ Meth K C m f ∧ Binds K fd ps []
structure InAt (P : Program) (w : World) (K : PySem.W.Frag) (mg : Str → Option Value) (base : Heap) (CX : CXT) (k : Nat) (C : Addr) (n : Nat) (g : GF) : Prop where
  ex : ∃ f fd ps, FnOk P w K mg base CX k f fd ps (upF n K g) ∧ Mk K C f ∧ Binds K fd ps []
section
variable {P : Program} {w : World} {K : PySem.W.Frag} {mg : Str → Option Value} {base : Heap}
theorem MtAt.imp {CX : CXT} {k : Nat} {C : Addr} {m : Str} {n : Nat} {g g' : GF} (h : MtAt P w K mg base CX k C m n g) (i : ∀ ds w kx k, g' ds w kx k → g ds w kx k) : MtAt P w K mg base CX k C m n g' := by
  obtain ⟨f, fd, ps, h1, h2⟩ := h.ex
  exact ⟨f, fd, ps, h1.imp (up_imp i), h2⟩
theorem InAt.imp {CX : CXT} {k : Nat} {C : Addr} {n : Nat} {g g' : GF} (h : InAt P w K mg base CX k C n g) (i : ∀ ds w kx k, g' ds w kx k → g ds w kx k) : InAt P w K mg base CX k C n g' := by
  obtain ⟨f, fd, ps, h1, h2⟩ := h.ex
  exact ⟨f, fd, ps, h1.imp (up_imp i), h2⟩
theorem MtAt.trunc {CX : CXT} {k : Nat} {C : Addr} {m : Str} {n : Nat} {g : GF} (h : MtAt P w K mg base CX k C m n g) : MtAt P w K mg base CX k C m n (gTr g) := by
  obtain ⟨f, fd, ps, h1, h2⟩ := h.ex
  exact ⟨f, fd, ps, h1.imp tr_up, h2⟩
theorem fun_fnq {x q : Str} {st : Stmt} {f : Addr} {fd : FuncData} {N ps : List Str} {k : Nat} {g : GS} (F : Fun K x q st f fd) (S : FnScope N ps (defScope st))
    (hbody : ∀ (f : Addr) (cdv : Value) (A : Around) (outer : List Env) (s : Shared) (H : Hp) (E : XK), Room k (A.deeper (envOfC q (defScope st) s.heap.objs.size f cdv)) →
      DSs (cxOf CX0 P w K mg base N q (defScope st) f cdv A outer s H E).nox E0 (defBody st) g) : FnOk P w K mg base CX0 (k + 1) f fd ps (upF ps.length K (sem0 N.length g)) := by
  refine F.ok S (fun vs H Q E h => ?_) (fun cdv A outer s H vs Q E hr h => ?_)
  · obtain ⟨G, S, ds, w, kx, k, h1, h2, h3, _⟩ := h
    rw [h3.length, h1]
  · obtain ⟨G, S1, ds, w1, kx, k1, h1, h2, h3, h4, h5, h6⟩ := h
    refine ⟨_, hbody f cdv A outer s H E hr, G, S1, rho N.length ds, w1, { nx := fun _ w' => k1 .non w', rt := k1, ex := noX }, h2, sr_start h3, ⟨fun G' S' H' w' ρ' σ' x1 hr1 _ hk => h5 _ _ _ _ _ _ x1 hr1 .non hk, h5, ?_, ?_, xl_no⟩, h6⟩
    · intro _ _ _ _ _ _ _ _ _ z
      exact z.elim
    · intro _ _ _ _ _ _ _ _ _ z
      exact z.elim
theorem MethAt.fn0 {C : Addr} {m q : Str} {st : Stmt} {N ps : List Str} {k : Nat} {g : GS} (T : MethAt K C m q st ps) (S : FnScope N ps (defScope st))
    (hbody : ∀ (f : Addr) (cdv : Value) (A : Around) (outer : List Env) (s : Shared) (H : Hp) (E : XK), Room k (A.deeper (envOfC q (defScope st) s.heap.objs.size f cdv)) →
      DSs (cxOf CX0 P w K mg base N q (defScope st) f cdv A outer s H E).nox E0 (defBody st) g) : MtAt P w K mg base CX0 (k + 1) C m ps.length (sem0 N.length g) := by
  obtain ⟨f, fd, F, hm, hb⟩ := T.ex
  exact ⟨f, fd, ps, fun_fnq F S hbody, hm, hb⟩
theorem InitAt.fn0 {C : Addr} {q : Str} {st : Stmt} {N ps : List Str} {k : Nat} {g : GS} (T : InitAt K C q st ps) (S : FnScope N ps (defScope st))
    (hbody : ∀ (f : Addr) (cdv : Value) (A : Around) (outer : List Env) (s : Shared) (H : Hp) (E : XK), Room k (A.deeper (envOfC q (defScope st) s.heap.objs.size f cdv)) →
      DSs (cxOf CX0 P w K mg base N q (defScope st) f cdv A outer s H E).nox E0 (defBody st) g) : InAt P w K mg base CX0 (k + 1) C ps.length (sem0 N.length g) := by
  obtain ⟨f, fd, F, hm, hb⟩ := T.ex
  exact ⟨f, fd, ps, fun_fnq F S hbody, hm, hb⟩
end
section
variable {X : Cx} {E : XK} {o e value : Expr} {es : List Expr} {go gv : GE} {ga : GA} {pos pos' apos p : Pos} {f x m : Str} {C : Addr} {fs : List Str} {k n : Nat} {g : GF}
theorem de_fld (c : ClsAt X.K X.mg x C fs) (hf : f ∈ fs) (ho : DE X E o go) (hb : attributeBase o f X.env (eval o X.env) = eval o X.env := by rfl) : DE X E (.Attribute o f pos) (gFld C go f) := pe_imp (pe_fld ho hb) (by
  rintro σ H Q ⟨G, S, ρ, w, kx, k, hr, sr, xl, kl, h⟩
  refine ⟨G, S, ρ, w, kx, _, hr, sr, xl, fun G1 S1 H1 w1 dx vx x1 hr1 rx h1 => ?_, h⟩
  obtain ⟨a, j, rfl, rfl, ea, h3⟩ := rfK_rep rx h1
  obtain ⟨ds, dx, xs, _, _, g1, g2, h5⟩ := ins_at hr1 ea h3
  obtain ⟨d, e1, h6⟩ := someK_get h5
  obtain ⟨v, e2, rv⟩ := fs_look g2 e1
  exact ⟨a, C, dx, xs, v, rfl, g1, c.cl, c.na f hf, e2, kl _ _ _ _ _ _ x1 hr1 rv h6⟩)
theorem ds_setF (c : ClsAt X.K X.mg x C fs) (hf : f ∈ fs) (ho : DE X E o go) (hv : DE X E value gv) (hs : swapsWith value (some (.Attribute o f pos')) pos.line X.env = pure false) : DS X E (.Assign [.Attribute o f pos'] value pos) (gSetF C go gv f) := ps_imp (ps_fld ho hv hs) (by
  rintro D σ H ⟨G, S, ρ, w, F, hr, sr, el, h⟩
  refine ⟨G, S, ρ, w, F.ex, _, hr, sr, el.ex, fun G1 S1 H1 w1 d v x1 hr1 rv h1 => ⟨G1, S1, ρ, w1, F.ex, _, hr1, sr.mono x1, (el.mono x1).ex, fun G2 S2 H2 w2 dx vx x2 hr2 rx h2 => ?_, h1⟩, h⟩
  obtain ⟨a, j, rfl, rfl, ea, h3⟩ := rfK_rep rx h2
  obtain ⟨ds, dx, xs, e2, hs, g1, g2, h5, h6⟩ := ins_at hr2 ea h3
  refine ⟨a, C, dx, xs, rfl, g1, c.cl, c.na f hf, by rw [Paired.length g2]; exact h5, ?_⟩
  exact el.nx _ _ _ _ _ _ (x1.trans x2) (hr2.setC (c := .ins C (putFD f d ds)) ea e2 hs ⟨hs, dx, _, upd_same, fs_putF (rv.mono x2) g2⟩) (sr.mono (x1.trans x2)) h6)
theorem de_meth {j : Nat} {pl : Sem Bool} (c : ClsAt X.K X.mg x C fs) (F : MtAt X.prog X.w X.K X.mg X.base CX0 j C m n g) (hr : Room k X.A) (ho : DE X E o go) (ha : DA X E (e :: es) ga) (hjk : j ≤ k)
    (hst : starEach (e :: es) X.env = (false, eval e X.env) :: starEach es X.env) (hpl : (backTo pos (starEach es X.env)).any (·.1) = false)
    (ht : eval (.Call (.Attribute o m apos) (e :: es) [] pos) X.env = (do
      let ov ← eval o X.env
      standAt apos.atName
      let (f, first) ← holding [ov] (getMethod ov m pl)
      callWith pos f first (backTo pos (starEach (e :: es) X.env)) (backToKw pos (keywordEach [] X.env)))) : DE X E (.Call (.Attribute o m apos) (e :: es) [] pos) (gMeth C n g m go ga) := by
  obtain ⟨f, fd, ps, h1, h2, h3⟩ := F.ex
  refine pe_imp (pe_meth (pl := pl) ho c.cl h2 h1 (hr.mono hjk) h3 .nil pass0 ha hst hpl ht) ?_
  rintro σ H Q ⟨G, S, ρ, w, kx, k, hr, sr, xl, kl, h⟩
  refine ⟨G, S, ρ, w, kx, _, hr, sr, xl, fun G1 S1 H1 w1 dx vx x1 hr1 rx h1 => ?_, h⟩
  obtain ⟨a, i, rfl, rfl, ea, h3⟩ := rfK_rep rx h1
  obtain ⟨ds, dx, xs, _, _, g1, g2, h5, h6⟩ := ins_at hr1 ea h3
  refine ⟨a, dx, xs, rfl, g1, fs_lookN g2 h5, G1, S1, ρ, w1, kx, _, hr1, sr.mono x1, xl.mono x1, fun G2 S2 H2 w2 as vs x2 hr2 ra h7 => ?_, h6⟩
  show upF n X.K g (.ref a :: (vs ++ [])) H2 Q E0
  rw [List.append_nil]
  exact ⟨G2, S2, _, w2, noX, k, h7.1, hr2, .cons (rx.mono x2) ra, xl_no, kl.mono (x1.trans x2), h7.2⟩
theorem de_meth0 {j : Nat} {pl : Sem Bool} (c : ClsAt X.K X.mg x C fs) (F : MtAt X.prog X.w X.K X.mg X.base CX0 j C m n g) (hr : Room k X.A) (ho : DE X E o go) (hjk : j ≤ k)
    (ht : eval (.Call (.Attribute o m apos) [] [] pos) X.env = (do
      let ov ← eval o X.env
      standAt apos.atName
      let (f, first) ← holding [ov] (getMethod ov m pl)
      callWith pos f first (backTo pos (starEach [] X.env)) (backToKw pos (keywordEach [] X.env)))) : DE X E (.Call (.Attribute o m apos) [] [] pos) (gMeth C n g m go gaNil) := by
  obtain ⟨f, fd, ps, h1, h2, h3⟩ := F.ex
  refine pe_imp (pe_meth0 (pl := pl) ho c.cl h2 h1 (hr.mono hjk) h3 .nil pass0 ht) ?_
  rintro σ H Q ⟨G, S, ρ, w, kx, k, hr, sr, xl, kl, h⟩
  refine ⟨G, S, ρ, w, kx, _, hr, sr, xl, fun G1 S1 H1 w1 dx vx x1 hr1 rx h1 => ?_, h⟩
  obtain ⟨a, i, rfl, rfl, ea, h3⟩ := rfK_rep rx h1
  obtain ⟨ds, dx, xs, _, _, g1, g2, h5, h6⟩ := ins_at hr1 ea h3
  exact ⟨a, dx, xs, rfl, g1, fs_lookN g2 h5, G1, S1, _, w1, noX, k, h6.1, hr1, .cons rx .nil, xl_no, kl.mono x1, h6.2⟩
theorem de_make {j : Nat} (c : ClsAt X.K X.mg x C fs) (F : InAt X.prog X.w X.K X.mg X.base CX0 j C n g) (hr : Room k X.A) (hg : Gl X x) (ha : DA X E (e :: es) ga) (hjk : j + 1 ≤ k := by decide) (hdb : (x == ("__debug__" : Str)) = false := by decide)
    (he : starEach (e :: es) X.env = (false, eval e X.env) :: starEach es X.env := by rfl) (hpl : (backTo pos (starEach es X.env)).any (·.1) = false := by rfl) : DE X E (.Call (.Name x p) (e :: es) [] pos) (gMake C n g ga) := by
  obtain ⟨f, fd, ps, h1, h2, h3⟩ := F.ex
  refine pe_imp (pe_make h2 h1 (hr.mono hjk) hg c.mgC h3 .nil pass0 ha hdb he hpl) ?_
  rintro σ H Q ⟨G, S, ρ, w, kx, k, hr, sr, xl, kl, h⟩
  refine ⟨G, S, ρ, w, kx, _, hr, sr, xl, fun G1 S1 H1 w1 as vs x1 hr1 ra h1 => fun a dx na nd ne => ?_, h⟩
  obtain ⟨r2, x2⟩ := hr1.newS nd (.own a)
  have na2 : (upd H1 dx (.own a)) a = none := by rw [upd_ne ne.symm]; exact na
  obtain ⟨r3, x3⟩ := r2.newC na2 (.ins C dx []) (.ins C []) ⟨r2.freshS na2, dx, [], upd_same, .nil⟩
  have x23 := x2.trans x3
  have ea : (G1.al ++ [a])[w1.M.length]? = some a := by
    rw [List.getElem?_append_right (by rw [hr1.len]; exact Nat.le_refl _), hr1.len, Nat.sub_self]
    rfl
  show upF n X.K g (.ref a :: (vs ++ [])) _ _ E0
  rw [List.append_nil]
  refine ⟨_, _, _, _, noX, _, h1.1, r3, .cons (.rf ea) (ra.mono x23), xl_no, fun G4 S4 H4 w4 d v x4 hr4 rv h4 => ?_, h1.2⟩
  obtain ⟨rfl, h4⟩ := h4
  cases rv
  exact ⟨rfl, kl _ _ _ _ _ _ (x1.trans (x23.trans x4)) hr4 (.rf (x4.alGet ea)) h4⟩
end
end DL

namespace DL
open PySem PySem.Spec PyProof.Rows L2 RZ
structure XCls (K : PySem.W.Frag) (mg : Str → Option Value) (x : Str) (C : Addr) : Prop where
  mgC : mg x = some (.ref C)
  kp : PySem.W.keepIn K (.ref C) = true
  exc : PySem.W.excIn K C [.type "ValueError", .type "Exception", .type "BaseException", .type "object"] "ValueError.__new__" = true
  sub : PySem.W.subIn K (.ref C) (.type "BaseException") = some true
  ty : PySem.W.typeIn K (.ref C) = some (.type "type")
structure Tk (X : Cx) (E : XK) : Prop where
  tk : Takes X (fun cls d _ H => E cls d H)
def gRaise (C : Addr) : GS := fun F _ w => F.ex (.own C) w
section
variable {P : Program} {w : World} {K : PySem.W.Frag} {mg : Str → Option Value} {base : Heap}
theorem fun_fnX {x q : Str} {st : Stmt} {f : Addr} {fd : FuncData} {N ps : List Str} {k : Nat} {g : GS} (F : Fun K x q st f fd) (S : FnScope N ps (defScope st))
    (hbody : ∀ (f : Addr) (cdv : Value) (A : Around) (outer : List Env) (s : Shared) (H : Hp) (E : XK), Room k (A.deeper (envOfC q (defScope st) s.heap.objs.size f cdv)) →
      Tk (cxOf (L2.CX P w) P w K mg base N q (defScope st) f cdv A outer s H E) E → DSs (cxOf (L2.CX P w) P w K mg base N q (defScope st) f cdv A outer s H E) E (defBody st) g) : FnOk P w K mg base (L2.CX P w) (k + 1) f fd ps (upF ps.length K (semX N.length g)) := by
  refine F.okX S (fun vs H Q E h => ?_) (fun cdv A outer s H vs Q E hr h => ?_)
  · obtain ⟨G, S, ds, w, kx, k, h1, h2, h3, _⟩ := h
    rw [h3.length, h1]
  · obtain ⟨G, S1, ds, w1, kx, k1, h1, h2, h3, h4, h5, h6⟩ := h
    refine ⟨_, hbody f cdv A outer s H E hr ⟨takes_of rfl rfl rfl rfl⟩, G, S1, rho N.length ds, w1, { nx := fun _ w' => k1 .non w', rt := k1, ex := kx }, h2, sr_start h3, ⟨fun G' S' H' w' ρ' σ' x1 hr1 _ hk => h5 _ _ _ _ _ _ x1 hr1 .non hk, h5, ?_, ?_, h4⟩, h6⟩
    · intro _ _ _ _ _ _ _ _ _ z
      exact z.elim
    · intro _ _ _ _ _ _ _ _ _ z
      exact z.elim
theorem DefAt.fnX {x : Str} {st : Stmt} {N ps : List Str} {k : Nat} {g : GS} (T : DefAt K mg x st ps) (S : FnScope N ps (defScope st))
    (hbody : ∀ (f : Addr) (cdv : Value) (A : Around) (outer : List Env) (s : Shared) (H : Hp) (E : XK), Room k (A.deeper (envOfC x (defScope st) s.heap.objs.size f cdv)) →
      Tk (cxOf (L2.CX P w) P w K mg base N x (defScope st) f cdv A outer s H E) E → DSs (cxOf (L2.CX P w) P w K mg base N x (defScope st) f cdv A outer s H E) E (defBody st) g) : FnAt P w K mg base (L2.CX P w) (k + 1) x ps.length (semX N.length g) := by
  obtain ⟨f, fd, F, hm, hb⟩ := T.ex
  exact ⟨f, fd, ps, fun_fnX F S hbody, hm, F.kp, hb⟩
theorem MethAt.fnX {C : Addr} {m q : Str} {st : Stmt} {N ps : List Str} {k : Nat} {g : GS} (T : MethAt K C m q st ps) (S : FnScope N ps (defScope st))
    (hbody : ∀ (f : Addr) (cdv : Value) (A : Around) (outer : List Env) (s : Shared) (H : Hp) (E : XK), Room k (A.deeper (envOfC q (defScope st) s.heap.objs.size f cdv)) →
      Tk (cxOf (L2.CX P w) P w K mg base N q (defScope st) f cdv A outer s H E) E → DSs (cxOf (L2.CX P w) P w K mg base N q (defScope st) f cdv A outer s H E) E (defBody st) g) : MtAt P w K mg base (L2.CX P w) (k + 1) C m ps.length (semX N.length g) := by
  obtain ⟨f, fd, F, hm, hb⟩ := T.ex
  exact ⟨f, fd, ps, fun_fnX F S hbody, hm, hb⟩
end
def gCallX (n : Nat) (g : GF) (ga : GA) : GE := fun ρ w kx k => ga ρ w kx fun ds w1 => ds.length = n ∧ g ds w1 kx k
def gMethX (C : Addr) (n : Nat) (sp : GF) (m : Str) (go : GE) (ga : GA) : GE := fun ρ w kx k => go ρ w kx fun x w1 => rfK x fun i => insK C i w1 fun fs => fs.lookup m = none ∧ ga ρ w1 kx fun xs w2 => (x :: xs).length = n ∧ sp (x :: xs) w2 kx k
section
variable {X : Cx} {E : XK} {k n : Nat} {g : GF} {x m : Str} {e o : Expr} {es : List Expr} {ga : GA} {go : GE} {p pos apos : Pos} {C : Addr} {fs : List Str}
end
end DL

namespace DL
open PySem PySem.Spec PyProof.Rows L2 RZ
def DEW (X : Cx) (W : WX) (e : Expr) (g : GE) : Prop := PE X e (fun σ H Q => upE X.K (WE W σ) g σ H Q)
def DSW (X : Cx) (W : WX) (st : Stmt) (g : GS) : Prop := PS X st (fun D σ H => upS X.K (WE W σ) g D σ H)
def DSsW (X : Cx) (W : WX) (st : List Stmt) (g : GS) : Prop := PSs X st (fun D σ H => upS X.K (WE W σ) g D σ H)
section
variable {X : Cx} {W : WX} {k n : Nat} {g : GF} {x m : Str} {e o : Expr} {es : List Expr} {ga : GA} {go ge : GE} {p pos apos : Pos} {C : Addr} {fs : List Str}
def tMethS (C : Addr) (m : Str) (sp : Sp) (E : L2.St → XK) (ta : TE) (t : TA) : TE := fun σ H Q => ta σ H fun x H1 => ∃ a dx fs, x = .ref a ∧ H1 a = some (.ins C dx fs) ∧ fs.lookup m = none ∧ t σ H1 fun vs H2 => sp (x :: vs) H2 Q (E σ)
end
def gTry (i j : Nat) (P : Addr → Prop) (body : GS) : GS := fun F ρ w => i < ρ.length ∧ body { F with ex := fun e w' => match e with
  | .own C => P C ∧ F.nx ((ρ.set j (some (.rf w'.M.length))).set i none) ⟨w'.M ++ [.exc C], w'.n⟩
  | _ => False } ρ w
end DL

namespace DL
open PySem PySem.Spec PyProof.Rows L2 RZ
structure XF where
  (taken noname toomuch norate noneleft royal : Addr)
  nd : [taken, noname, toomuch, norate, noneleft].Nodup
  ne : ∀ a ∈ [taken, noname, toomuch, norate, noneleft], a ≠ royal
def XF.all (X : XF) : List (Str × Addr) := [("Taken", X.taken), ("NoName", X.noname), ("TooMuch", X.toomuch), ("NoRate", X.norate), ("NoneLeft", X.noneleft), ("RoyalError", X.royal)]
def XF.addrs (X : XF) : List Addr := [X.taken, X.noname, X.toomuch, X.norate, X.noneleft, X.royal]
def XF.raised (X : XF) : List Addr := [X.taken, X.noname, X.toomuch, X.norate, X.noneleft]
def isEV (X : XF) (D : Addr) : V → Option Bool
  | .ref C => if C ∈ X.addrs then some (decide (D = C ∨ C = X.royal)) else none
  | .ty n => if n = "ValueError" then some true else none
  | _ => none
def isEVs (X : XF) (A : Addr) : List D → Option Bool
  | [] => some false
  | .ob v :: r => match isEV X A v, isEVs X A r with
    | some a, some b => some (a || b)
    | _, _ => none
  | _ :: _ => none
def excK (X : XF) (i : Nat) (w : Wd) (f : Addr → Prop) : Prop := match w.M[i]? with
  | some (.exc A) => A ∈ X.raised ∧ f A
  | _ => False
def optK (o : Option Bool) (f : Bool → Prop) : Prop := match o with
  | some b => f b
  | none => False
def fIsE (X : XF) : FB := fun ds w k => match ds with
  | [.rf i, .ob v] => excK X i w fun A => optK (isEV X A v) fun b => k (.bl b) w
  | _ => False
def fIsET (X : XF) : FB := fun ds w k => match ds with
  | [.rf i, .tup cs] => excK X i w fun A => optK (isEVs X A cs) fun b => k (.bl b) w
  | _ => False
structure XFK (K : PySem.W.Frag) (mg : Str → Option Value) (X : XF) : Prop where
  at_ : ∀ p ∈ X.all, mg p.1 = some (.ref p.2) ∧ PySem.W.keepIn K (.ref p.2) = true ∧ PySem.W.hasDictIn K p.2 = true ∧ PySem.W.typeIn K (.ref p.2) = some (.type "type") ∧ PySem.W.subIn K (.ref p.2) (.type "BaseException") = some true
  exc : ∀ A ∈ X.raised, PySem.W.excIn K A [.type "ValueError", .type "Exception", .type "BaseException", .type "object"] "ValueError.__new__" = true ∧ ExcC K A ∧ PySem.W.subIn K (.ref A) (.type "ValueError") = some true
  sub : ∀ A ∈ X.raised, ∀ C ∈ X.addrs, PySem.W.subIn K (.ref A) (.ref C) = some (decide (A = C ∨ C = X.royal))
section
variable {K : PySem.W.Frag} {mg : Str → Option Value} {X : XF}
theorem XFK.addr (h : XFK K mg X) {C : Addr} (hC : C ∈ X.addrs) : ∃ x, mg x = some (.ref C) ∧ PySem.W.keepIn K (.ref C) = true ∧ PySem.W.hasDictIn K C = true ∧ PySem.W.typeIn K (.ref C) = some (.type "type") ∧ PySem.W.subIn K (.ref C) (.type "BaseException") = some true := by
  have : ∃ p ∈ X.all, p.2 = C := by
    have e : X.addrs = X.all.map (·.2) := rfl
    rw [e] at hC
    exact List.mem_map.mp hC
  obtain ⟨p, hp, rfl⟩ := this
  exact ⟨p.1, h.at_ p hp⟩
theorem XFK.one (h : XFK K mg X) {A : Addr} (hA : A ∈ X.raised) {v : V} {b : Bool} (e : isEV X A v = some b) : ∃ u, ClsV v u ∧ PySem.W.kitOne K (.ref A) u = some b := by
  unfold isEV at e
  split at e
  · rename_i C
    split at e
    · rename_i hC
      refine ⟨.ref C, .own C, ?_⟩
      obtain ⟨_, _, _, hd, ht, _⟩ := h.addr hC
      obtain ⟨cd, hc, _⟩ := PySem.W.any_some hd
      have hs := h.sub A hA C hC
      unfold PySem.W.kitOne PySem.W.kitCls
      by_cases hAC : A = C
      · subst hAC
        simp only [beq_self_eq_true, if_true]
        rw [← e]
        simp
      · rw [if_neg (by simpa using hAC)]
        have e2 : ((PySem.W.clsIn K C).isSome && PySem.W.typeIn K (.ref C) == some (.type "type")) = true := by rw [hc, ht] <;> rfl
        simp only [e2, if_true]
        rw [hs, e]
    · cases e
  · rename_i n
    split at e
    · rename_i hn
      subst hn
      cases e
      refine ⟨.type "ValueError", .ty _, ?_⟩
      unfold PySem.W.kitOne PySem.W.kitCls
      rw [if_neg (by simp)]
      have e2 : PySem.W.kitMeta "ValueError" = true := by decide +kernel
      simp only [e2, if_true]
      exact (h.exc A hA).2.2
    · cases e
  · cases e
theorem XFK.any (h : XFK K mg X) {G : Gh} {S : Hp} {A : Addr} (hA : A ∈ X.raised) : ∀ {vs : List V} {ds : List D} {b : Bool}, RepAll K G S vs ds → isEVs X A ds = some b → ∃ us, Paired ClsV vs us ∧ PySem.W.kitAny K (.ref A) us = some b := by
  intro vs ds b r e
  induction ds generalizing vs b with
  | nil =>
    cases r
    cases e
    exact ⟨[], .nil, rfl⟩
  | cons d ds ih =>
    cases r with
    | cons h1 r =>
      cases d with
      | ob v =>
        simp only [isEVs] at e
        cases e1 : isEV X A v with
        | none => rw [e1] at e; cases e
        | some a1 =>
          cases e2 : isEVs X A ds with
          | none => rw [e1, e2] at e; cases e
          | some b1 =>
            rw [e1, e2] at e
            cases e
            cases h1
            obtain ⟨u, c, hu⟩ := h.one hA e1
            obtain ⟨us, p, hus⟩ := ih r e2
            refine ⟨u :: us, .cons c p, ?_⟩
            unfold PySem.W.kitAny
            rw [hu]
            cases a1
            · exact hus
            · rfl
      | _ => simp [isEVs] at e
end
section
variable {X : Cx} {E : XK} {e : Expr} {es : List Expr} {ga : GA} {p pos : Pos} {F : XF}
theorem tk0 {X : Cx} : Takes X (fun _ _ _ _ => False) := fun _ _ ⟨_, _, _, _, _, _, _, _, _, _, _, _, _, _, _, _, h⟩ => h.elim
theorem XFK.royal {K : PySem.W.Frag} {mg : Str → Option Value} (h : XFK K mg F) : ∀ B, B ∈ F.raised → PySem.W.exmOne K (.ref B) (.ref F.royal) = some true := by
  intro B hB
  obtain ⟨_, _, hd, ht, hb⟩ := h.at_ ("RoyalError", F.royal) (by simp [XF.all])
  refine PySem.W.exm_ref hb hd ht ?_
  rw [h.sub B hB F.royal (by simp [XF.addrs])]
  simp
theorem XFK.own {K : PySem.W.Frag} {mg : Str → Option Value} (h : XFK K mg F) {x : Str} {C : Addr} (hx : (x, C) ∈ F.all) : mg x = some (.ref C) := (h.at_ _ hx).1
theorem XFK.kp {K : PySem.W.Frag} {mg : Str → Option Value} (h : XFK K mg F) {x : Str} {C : Addr} (hx : (x, C) ∈ F.all) : PySem.W.keepIn K (.ref C) = true := (h.at_ _ hx).2.1
end
end DL

namespace DL
open PySem PySem.Spec PyProof.Rows L2 RZ

def LamOut (H H1 : Hp) (P c : Addr) (q : Str) (ps : Array Value) : Prop :=
  (H1 = H ∧ H c = some (LamX.CodeO c q)) ∨ ∃ a b : Value, H c = none ∧ TriplesOk (ps ++ #[a, b, .ref c]).toList ∧ H1 = upd (upd H P (.tbl (ps ++ #[a, b, .ref c]))) c (LamX.CodeO c q) ∧
    ∀ (p' : Pos) (cv : Value), codeAmong p' (ps ++ #[a, b, .ref c]).toList = some cv → codeAmong p' ps.toList = some cv ∨ cv = .ref c
structure LamIx (params : Arguments) (scope : Scope) (one : Str) : Prop where
  kind : scope.kind = .function
  co : scope.isCoroutine = false
  gen : scope.isGenerator = false
  cell : ∀ x ∈ scope.names, x.2 ≠ .cell
  free : ∀ x ∈ scope.names, x.2 ≠ .free
  loc : scope.names.lookup one = some .local
  bind : ∀ (q : Str) (body : Expr) (cl : List (Str × Addr)) (pm cv ctv v : Value), bindArgs (PySem.W.kla_fn "<lambda>" q params body scope cl pm cv ctv) ⟨[v], []⟩ = pure [(one, v)]
end DL

namespace DL
open PySem PySem.Spec PyProof.Rows L2 RZ

def keyI (i : Int) (d : D) : Int := match d with
  | .tup ys => match atI ys i with
    | some (.int n) => n
    | _ => 0
  | _ => 0
def HasKey (i : Int) (d : D) : Prop := ∃ ys n, d = .tup ys ∧ atI ys i = some (.int n)
def leI (i : Int) (a b : D) : Bool := decide (keyI i a ≤ keyI i b)
def newK (c : Bool) (ds : List D) (w : Wd) (k : KD) : Prop := match c with
  | false => k (.lst ds) w
  | true => k (.rf w.M.length) ⟨w.M ++ [.lst ds], w.n⟩
def gSortKeyG (c : Bool) (P : Addr) (q : Str) (i : Int) (ge : GE) : GE := fun ρ w kx k => ge ρ w kx fun d w1 => lstK d w1 fun xs => (∃ j : Nat, w1.M[j]? = some (.tbl P q)) ∧ (∀ x ∈ xs, HasKey i x) ∧ newK c (xs.mergeSort (leI i)) w1 k
abbrev gSortKey := gSortKeyG false
abbrev gSortKeyC := gSortKeyG true
section
variable {X : Cx} {E : XK}
end
end DL

namespace DL
open PySem PySem.Spec PyProof.Rows L2 RZ

def encD (d : D) : PyData := (toPD d).getD .none
def rSortDat (K : PySem.W.Frag) : List V → Hp → VK → Prop := fun xs H Q => ∃ (a : Addr) (ts : List (V × D)), xs = [.ref a] ∧ SqL K H a (ts.map Prod.fst) ∧ (∀ t ∈ ts, Dp K H t.1 (encD t.2)) ∧ PySem.W.AllAlike ((ts.map Prod.snd).map encD) ∧ PySem.W.Sortable ((ts.map Prod.snd).map encD) ∧
  (∀ t ∈ ts, (encD t.2).depth < 60) ∧ ∀ p, H p = none → Q (.ref p) (upd H p (.lst ((ts.mergeSort (PySem.W.dataLe false fun t => encD t.2)).map Prod.fst)))
def fSortDat : FB := fun ds w k => match ds with
  | [d] => lstK d w fun xs => (∀ x ∈ xs, ∃ p, toPD x = some p ∧ p.depth < 60) ∧ PySem.W.AllAlike (xs.map encD) ∧ PySem.W.Sortable (xs.map encD) ∧ k (.lst (xs.mergeSort (PySem.W.dataLe false encD))) w
  | _ => False
def fSortDatC : FB := fun ds w k => match ds with
  | [d] => lstK d w fun xs => (∀ x ∈ xs, ∃ p, toPD x = some p ∧ p.depth < 60) ∧ PySem.W.AllAlike (xs.map encD) ∧ PySem.W.Sortable (xs.map encD) ∧ k (.rf w.M.length) ⟨w.M ++ [.lst (xs.mergeSort (PySem.W.dataLe false encD))], w.n⟩
  | _ => False
section
variable {X : Cx} {E : XK} {e : Expr} {es : List Expr} {ga : GA} {p pos : Pos} (B : Blt X.mg) {kk : Nat} (hr : Room kk X.A)
include B hr
end

def rInC (K : PySem.W.Frag) (neg : Bool) : R2 := fun x y H Q => (∃ (a : Addr) (o : Option V), y = .ref a ∧ DGet H a x o ∧ Q (.bl (if neg then !o.isSome else o.isSome)) H) ∨ rIn K neg x y H Q
def inL (x : D) (xs : List D) (f : Bool → Prop) : Prop := match x with
  | .str s => ∃ ss, allStr xs = some ss ∧ f (decide (s ∈ ss))
  | .int i => ∃ is, allInt xs = some is ∧ f (decide (i ∈ is))
  | _ => False
def inC (x y : D) (w : Wd) (f : Bool → Prop) : Prop := match y with
  | .lst xs => inL x xs f
  | .tup xs => inL x xs f
  | .rf i => match w.M[i]? with
    | some (.lst xs) => inL x xs f
    | some (.dk kvs) => keyK x fun q => f (valD kvs q).isSome
    | _ => False
  | _ => False
def inCD : F2 := fun x y w k => inC x y w fun b => k (.bl b) w
def notinCD : F2 := fun x y w k => inC x y w fun b => k (.bl (!b)) w
section
variable {X : Cx} {E : XK} {a b : Expr} {ga gb : GE} {pos : Pos} {kk : Nat} (hr : Room kk X.A)
include hr
end

def gDGet1 (go gi : GE) : GE := fun ρ w kx k => go ρ w kx fun x w1 => rfK x fun i => dkK i w1 fun _ => gi ρ w1 kx fun y w2 => keyK y fun q => dkK i w2 fun kvs => k ((valD kvs q).getD .non) w2
def gLock (g : GE) : GE := fun ρ w kx k => ∃ (i : Nat) (kvs : List (Key × D)), w.M[i]? = some (.dk kvs) ∧ ∀ o ks, g ρ ⟨w.M.set i (.lk o ks kvs), w.n⟩ kx fun d w1 => w1.M[i]? = some (.lk o ks kvs) ∧ k d ⟨w1.M.set i (.dk kvs), w1.n⟩
def keyOfD : Key → D
  | .inl i => .int i
  | .inr s => .str s
def itemsD (kvs : List (Key × D)) : List D := kvs.map fun p => .tup [keyOfD p.1, p.2]
def lkK (i : Nat) (w : Wd) (f : Obj → List (Key × V) → List (Key × D) → Prop) : Prop := match w.M[i]? with
  | some (.lk o ks kvs) => f o ks kvs
  | _ => False
def giItems (go : GE) : GI := fun ρ w kx k => go ρ w kx fun x w1 => rfK x fun i => lkK i w1 fun o ks kvs => k (itemsD kvs) (fun w => w.M[i]? = some (.lk o ks kvs)) w1
def giKeys (go : GE) : GI := fun ρ w kx k => go ρ w kx fun x w1 => rfK x fun i => lkK i w1 fun o ks kvs => k (kvs.map fun p => keyOfD p.1) (fun w => w.M[i]? = some (.lk o ks kvs)) w1
section
variable {X : Cx} {E : XK}
end
end DL

namespace DL
open PySem PySem.Spec PyProof.Rows L2 RZ

def gPairs : List (Str × GE) → Rho → Wd → KX → KA → Prop
  | [], _, w, _, k => k [] w
  | p :: r, ρ, w, kx, k => p.2 ρ w kx fun d w1 => gPairs r ρ w1 kx fun ds w2 => k (d :: ds) w2
def gDisp (ps : List (Str × GE)) : GE := fun ρ w kx k => gPairs ps ρ ⟨w.M ++ [.dk []], w.n⟩ kx fun ds w1 => w1.M[w.M.length]? = some (.dk []) ∧ k (.rf w.M.length) ⟨w1.M.set w.M.length (.dk ((ps.map fun p => (Sum.inr p.1 : Key)).zip ds)), w1.n⟩
def DPs (X : Cx) (E : XK) (pos : Pos) (ks : List (Option Expr)) (vs : List Expr) (ps : List (Str × GE)) : Prop := ∃ trs, PPs X pos ks vs trs ∧ ∀ σ H (Q : List (V × V) → Hp → Prop),
  (∃ G S ρ w kx k, HR X.K G S w H ∧ SR X.K G S σ ρ ∧ XL X.K G S kx E ∧ (∀ G' S' H' w' ds vs, Ext G S G' S' → HR X.K G' S' w' H' → RepAll X.K G' S' vs ds → k ds w' → vs.length = ps.length → Q ((ps.map fun p => V.str p.1).zip vs) H') ∧ gPairs ps ρ w kx k) → tPairs trs σ H Q
section
variable {X : Cx} {E : XK} {pos : Pos}
end

def fSortDC : FB := fun ds w k => match ds with
  | [.rf i] => dkK i w fun kvs => ∃ ks : List Str, kvs.map (·.1) = ks.map Sum.inr ∧ ks.length < 64 ∧ ∀ ys : List Str, ys.Perm ks → sortedS ys = true → k (.rf w.M.length) ⟨w.M ++ [.lst (ys.map D.str)], w.n⟩
  | _ => False
def toPDw (w : Wd) (d : D) : Option PyData := match d with
  | .rf i => match w.M[i]? with
    | some (.lst xs) => (toPDs xs).map .list
    | _ => none
  | d => toPD d
def neCD : F2 := fun x y w k => match x, y with
  | .str s, .str t => k (.bl (!decide (s = t))) w
  | x, y => match toPDw w x, toPD y with
    | some p, some q => SeqAt.shaped p = true ∧ SeqAt.shaped q = true ∧ k (.bl (!PyData.eqv p q)) w
    | _, _ => False
theorem rep_dpw {K : PySem.W.Frag} {G : Gh} {S H : Hp} {w : Wd} {v : V} {d : D} {p : PyData} (hr : HR K G S w H) (r : Rep K G S v d) (e : toPDw w d = some p) : Dp K H v p := by
  cases r with
  | rf ea =>
    unfold toPDw at e
    simp only at e
    split at e
    · rename_i xs e2
      obtain ⟨_, ys, h1, h2⟩ := hr.cell _ _ _ ea e2
      obtain ⟨ps, e3, rfl⟩ := Option.map_eq_some_iff.mp e
      exact .lst (.inl (.inl h1)) (reps_dp hr.same h2 e3)
    · cases e
  | non => exact rep_dp (G := G) hr.same .non e
  | bl b => exact rep_dp (G := G) hr.same (.bl b) e
  | int b => exact rep_dp (G := G) hr.same (.int b) e
  | str b => exact rep_dp (G := G) hr.same (.str b) e
  | lst a b => exact rep_dp (G := G) hr.same (.lst a b) e
  | tup a b => exact rep_dp (G := G) hr.same (.tup a b) e
  | st a => exact rep_dp (G := G) hr.same (.st a) e
  | ob a => exact rep_dp (G := G) hr.same (.ob a) e
  | scr a => exact rep_dp (G := G) hr.same (.scr a) e
theorem ok_neCD {K : PySem.W.Frag} : BinOk K (rNeS K) neCD := by
  intro G S H w x y d e k Q hr rx ry kl h
  unfold neCD at h
  split at h
  · cases rx; cases ry
    refine .inl ⟨rfl, ?_⟩
    rw [dec_strV]
    exact kl.here hr (.bl _) h
  · split at h
    · rename_i p q e1 e2
      exact .inr ⟨p, q, rep_dpw hr rx e1, rep_dp hr.same ry e2, h.1, h.2.1, kl.here hr (.bl _) h.2.2⟩
    · exact h.elim
section
variable {X : Cx} {E : XK} {a b : Expr} {ga gb : GE} {pos : Pos} {kk : Nat} (hr : Room kk X.A)
include hr
theorem dt_neC (ha : DE X E a ga) (hb : DE X E b gb) : DT X E (.Compare a [.NotEq] [b] pos) (gB (gBin neCD ga gb)) := dt_cmp (op_ne.or (op_neD hr.units)) ok_neCD ha hb (nomark _)
end

def qLam (x : Str) : Str := (x ++ ".<locals>.") ++ "<lambda>"
structure FunC (K : PySem.W.Frag) (x qual : Str) (st : Stmt) (f : Addr) (fd : FuncData) (c : Addr) : Prop where
  ex : ∃ (oc : Value) (od : Option Addr) (kV doc pm : Value) (an : Option Addr) (ct : Value) (osl : Array (Option Value)),
    fd = PySem.W.fnOf x qual (defArgs st) (defBody st) (defScope st) .none kV doc pm an (.ref c) ct ∧ K.lookup f = some ⟨oc, od, .func fd, osl⟩ ∧ PySem.W.codeIn K (.ref c) qual = true
  kp : PySem.W.keepIn K (.ref f) = true
theorem FunC.fun {K : PySem.W.Frag} {x qual : Str} {st : Stmt} {f : Addr} {fd : FuncData} {c : Addr} (F : FunC K x qual st f fd c) : Fun K x qual st f fd := by
  obtain ⟨oc, od, kV, doc, pm, an, ct, osl, e1, e2, e3⟩ := F.ex
  exact ⟨⟨oc, od, kV, doc, pm, an, .ref c, ct, osl, e1, e2, e3⟩, F.kp⟩
structure DefAtT (K : PySem.W.Frag) (mg : Str → Option Value) (base : Heap) (x : Str) (st : Stmt) (ps : List Str) (P : Addr) : Prop where
  ex : ∃ f fd c, FunC K x x st f fd c ∧ mg x = some (.ref f) ∧ Binds K fd ps [] ∧ LamX.TabB base mg c P
theorem DefAtT.fn0 {P : Program} {w : World} {K : PySem.W.Frag} {mg : Str → Option Value} {base : Heap} {x : Str} {st : Stmt} {N ps : List Str} {Pt : Addr} {k : Nat} {g : GS} (T : DefAtT K mg base x st ps Pt) (S : FnScope N ps (defScope st))
    (hbody : ∀ (f c : Addr) (TB : LamX.TabB base mg c Pt) (A : Around) (outer : List Env) (s : Shared) (H : Hp) (E : XK), Room k (A.deeper (envOfC x (defScope st) s.heap.objs.size f (.ref c))) →
      DSs (cxOf CX0 P w K mg base N x (defScope st) f (.ref c) A outer s H E).nox E0 (defBody st) g) : FnAt P w K mg base CX0 (k + 1) x ps.length (sem0 N.length g) := by
  obtain ⟨f, fd, c, F, hm, hb, TB⟩ := T.ex
  refine ⟨f, fd, ps, ?_, hm, F.kp, hb⟩
  obtain ⟨oc, od, kV, doc, pm, an, ct, osl, rfl, lk, hcd⟩ := F.ex
  refine fn_of lk hcd S (fun vs H Q E h => ?_) fun A outer s H vs Q E hr hsp => ?_
  · obtain ⟨G, S, ds, w, kx, k, h1, h2, h3, _⟩ := h
    rw [h3.length, h1]
  · obtain ⟨G, S1, ds, w1, kx, k1, h1, h2, h3, h4, h5, h6⟩ := hsp
    refine ⟨_, (hbody f c TB A outer s H E hr).nox, G, S1, rho N.length ds, w1, { nx := fun _ w' => k1 .non w', rt := k1, ex := noX }, h2, sr_start h3, ⟨fun G' S' H' w' ρ' σ' x1 hr1 _ hk => h5 _ _ _ _ _ _ x1 hr1 .non hk, h5, ?_, ?_, xl_no⟩, h6⟩
    · intro _ _ _ _ _ _ _ _ _ z
      exact z.elim
    · intro _ _ _ _ _ _ _ _ _ z
      exact z.elim

def giEnumC (ga : GA) : GI := fun ρ w kx k => ga ρ w kx fun ds w1 => match ds with
  | [.lst xs] => k (enumD 0 xs) (fun _ => True) w1
  | [.rf i] => cellK i w1 fun xs => k (enumD 0 xs) (fun w => w.M[i]? = some (.lst xs)) w1
  | _ => False
end DL

namespace DL
open PySem PySem.Spec PyProof.Rows L2 RZ

def gPar3 (i j l : Nat) (ga : GA) : GS := fun F ρ w => ga ρ w F.ex fun ds w1 => match ds with
  | [d, e, f] => F.nx (((ρ.set i (some d)).set j (some e)).set l (some f)) w1
  | _ => False
section
variable {X : Cx} {E : XK} {pos : Pos}
end
end DL

namespace DL
open PySem PySem.Calls PySem.Spec PyProof.Rows PyProof.V L2 RZ

mutual
theorem reads_there {h : Heap} : ∀ {v : Value} {d : PyData} {as : List Addr}, Reads h v d as → ∀ a ∈ as, ∃ o, h.get? a = some o
  | _, _, _, .none, a, ha => nomatch ha
  | _, _, _, .bool _, a, ha => nomatch ha
  | _, _, _, .int _ _, a, ha => nomatch ha
  | _, _, _, .str _ _, a, ha => nomatch ha
  | _, _, _, .list e _ _ r, a, ha => by
    rcases List.mem_cons.mp ha with rfl | ha
    · exact ⟨_, e⟩
    · exact readsAll_there r a ha
  | _, _, _, .tuple _ _ _ r, a, ha => readsAll_there r a ha
  | _, _, _, .dict e _ _ r1 r2, a, ha => by
    rcases List.mem_append.mp ha with ha | ha
    · rcases List.mem_cons.mp ha with rfl | ha
      · exact ⟨_, e⟩
      · exact readsAll_there r1 a ha
    · exact readsAll_there r2 a ha
theorem readsAll_there {h : Heap} : ∀ {vs : List Value} {ds : List PyData} {as : List Addr}, ReadsAll h vs ds as → ∀ a ∈ as, ∃ o, h.get? a = some o
  | _, _, _, .nil, a, ha => nomatch ha
  | _, _, _, .cons r1 r2, a, ha => by
    rcases List.mem_append.mp ha with ha | ha
    · exact reads_there r1 a ha
    · exact readsAll_there r2 a ha
end
theorem sqL_up {K : PySem.W.Frag} {H H' : Hp} (e : ∀ b o, H b = some o → H' b = some o) {a : Addr} {xs : List V} (h : SqL K H a xs) : SqL K H' a xs := by
  unfold SqL at h ⊢
  rcases h with (h | ⟨o, h⟩) | h
  · exact .inl (.inl (e _ _ h))
  · exact .inl (.inr ⟨o, e _ _ h⟩)
  · exact .inr h
mutual
theorem dp_up {K : PySem.W.Frag} {H H' : Hp} (e : ∀ b o, H b = some o → H' b = some o) : ∀ {v : V} {d : PyData}, Dp K H v d → Dp K H' v d
  | _, _, .non => .non
  | _, _, .bl b => .bl b
  | _, _, .int i => .int i
  | _, _, .str x => .str x
  | _, _, .lst h1 h2 => .lst (sqL_up e h1) (dpAll_up e h2)
  | _, _, .tup h1 h2 => .tup (sqT_up e h1) (dpAll_up e h2)
theorem dpAll_up {K : PySem.W.Frag} {H H' : Hp} (e : ∀ b o, H b = some o → H' b = some o) : ∀ {vs : List V} {ds : List PyData}, DpAll K H vs ds → DpAll K H' vs ds
  | _, _, .nil => .nil
  | _, _, .cons h1 h2 => .cons (dp_up e h1) (dpAll_up e h2)
end
def itemsV (p d : Addr) : HO := .ext fun h => h.IsItemsView p d
section
variable {X : Cx}
def rItemsK : V → List V → Hp → VK → Prop := fun x xs H Q => ∃ (a : Addr) (kvs : List (Key × V)), x = .ref a ∧ xs = [] ∧ H a = some (.dK kvs) ∧ ∀ p, H p = none → Q (.ref p) (upd H p (itemsV p a))
def keyE : Key → PyData
  | .inl i => .int i
  | .inr s => .str s
def pairE (t : (Key × V) × D) : PyData := .tuple [keyE t.1.1, encD t.2]
def rSortItK (K : PySem.W.Frag) : List V → Hp → VK → Prop := fun xs H Q => ∃ (p a : Addr) (ts : List ((Key × V) × D)), xs = [.ref p] ∧ H p = some (itemsV p a) ∧ H a = some (.dK (ts.map Prod.fst)) ∧ (∀ t ∈ ts, Dp K H t.1.2 (encD t.2)) ∧ PySem.W.AllAlike (ts.map pairE) ∧ PySem.W.Sortable (ts.map pairE) ∧
  (∀ t ∈ ts, (encD t.2).depth < 60) ∧
  ∀ (as : List Addr) (l : Addr), as.length = ts.length → as.Nodup → (∀ b ∈ as, H b = none) → H l = none → l ∉ as → Q (.ref l) (upd (LiI.putT H as (ts.map Prod.fst)) l (.lst (((as.zip ts).mergeSort (PySem.W.dataLe false fun z => pairE z.2)).map fun z => V.ref z.1)))
end
def gSortItems (go : GE) : GE := fun ρ w kx k => go ρ w kx fun x w1 => rfK x fun i => dkK i w1 fun kvs => (∀ y ∈ kvs, ∃ p, toPD y.2 = some p ∧ p.depth < 60) ∧ PySem.W.AllAlike ((itemsD kvs).map encD) ∧ PySem.W.Sortable ((itemsD kvs).map encD) ∧ k (.lst ((itemsD kvs).mergeSort (PySem.W.dataLe false encD))) w1
def pairD (t : (Key × V) × D) : D := .tup [keyOfD t.1.1, t.2]
section
variable {X : Cx} {E : XK} {e : Expr} {ge : GE} {p apos cpos pos : Pos} {kk : Nat}
end
section
variable {X : Cx} {E : XK} {e : Expr} {ge : GE} {p apos cpos pos : Pos} {kk : Nat}
def gLockO (g : GE) : GE := fun ρ w kx k => gLock g ρ w kx k ∨ g ρ w kx k
def gMid (g : GE) : GE := fun ρ w kx k => g ρ w kx fun x w1 => k x w1 ∨ rfK x fun i => dkK i w1 fun kvs => ∀ o ks, k x ⟨w1.M.set i (.lk o ks kvs), w1.n⟩
end
def fMaxL : FB := fun ds w k => match ds with
  | [.lst xs] => match allInt xs with
    | some ns => 0 < ns.length ∧ ∀ m, m ∈ ns → (∀ y, y ∈ ns → y ≤ m) → k (.int m) w
    | none => False
  | _ => False
def gLockS (g : GS) : GS := fun F ρ w => ∃ (i : Nat) (kvs : List (Key × D)), w.M[i]? = some (.dk kvs) ∧ ∀ o ks, g { nx := fun ρ' w1 => w1.M[i]? = some (.lk o ks kvs) ∧ F.nx ρ' ⟨w1.M.set i (.dk kvs), w1.n⟩, rt := fun _ _ => False, ex := F.ex } ρ ⟨w.M.set i (.lk o ks kvs), w.n⟩
def gLockSO (g : GS) : GS := fun F ρ w => gLockS g F ρ w ∨ g F ρ w
end DL

namespace DL
open PySem PySem.Spec PyProof.Rows L2 RZ

end DL

namespace DL
open PySem PySem.Spec PyProof.Rows L2 RZ

def inDD : F2 := fun x y w k => ∃ p ps, toPD x = some p ∧ toPDw w y = some (.list ps) ∧ SeqAt.shaped p = true ∧ SeqAt.shaped (.list ps) = true ∧ k (.bl (ps.any fun z => PyData.eqv z p)) w
def notinDD : F2 := fun x y w k => inDD x y w fun d w1 => ∃ b, d = .bl b ∧ k (.bl (!b)) w1
section
variable {X : Cx} {E : XK} {a b : Expr} {ga gb : GE} {pos : Pos} {kk : Nat} (hr : Room kk X.A)
include hr
end
end DL

namespace L2
open PySem PySem.Spec PyProof.Rows
section
variable {P : Program} {w : World} {A : Around} {E : Value → Shared → Prop} {s : Shared}
abbrev newSetO (w : World) : Obj := { cls := .type "set", dict := none, data := .set #[] 0 (.fresh 0 0 (!w.params.followText "set-order")) }
end
def rSetLI (w : World) (K : PySem.W.Frag) : List V → Hp → VK → Prop := fun xs H Q => ∃ (p : Addr) (ns : List Int), xs = [.ref p] ∧ SqL K H p (ns.map V.int) ∧ ns.length ≤ 1000 ∧ ∀ (q : Addr) (c : Nat), H q = none → c ≤ ns.length → Q (.ref q) (upd H q (SetO w q (fun j => decide (j ∈ ns)) c))
end L2

namespace L2
open PySem PySem.Spec PyProof.Rows
theorem type_dict_upd : typeOf (.builtin "dict.update") = pure (.type "method_descriptor") := by
  show builtinType _ = _
  rw [builtinType_eq_fast]
  kernel_rfl
section
variable {X : Cx} {pins : List (Addr × Obj)} {σ : St} {H : Hp} {s : Shared} {a : Addr} {A : Around} {E : Value → Shared → Prop}
theorem pairs_stand (I : Inv X pins σ H s) : ∀ (ps : List (Addr × Key × V)), (∀ p ∈ ps, SqT X.K H p.1 [kV p.2.1, p.2.2]) →
    ∃ (qs : List (Value × Value)) (rs : List (Key × Value)), qs.length = ps.length ∧ KV (ps.map (·.2)) rs ∧
      ∀ (j : Nat) (k v : Value), qs[j]? = some (k, v) → ∃ (p : Addr × Key × V) (r : Key), ps[j]? = some p ∧ s.heap.IsTuple p.1 #[k, v] ∧ rs[j]? = some (r, v) ∧ (mixKind X.prog X.w).is r k = true
  | [], _ => ⟨[], [], rfl, .nil, fun j k v h => by simp at h⟩
  | p :: ps, h => by
    obtain ⟨qs, rs, h1, h2, h3⟩ := pairs_stand I ps fun q hq => h q (List.mem_cons_of_mem _ hq)
    obtain ⟨its, r, pt, _⟩ := I.tuple (h p List.mem_cons_self)
    cases r with
    | cons r1 rr =>
      cases rr with
      | cons r2 rr =>
        cases rr
        rename_i u1 u2
        refine ⟨(u1, u2) :: qs, (p.2.1, u2) :: rs, by rw [List.length_cons, List.length_cons, h1], .cons ⟨rfl, r2⟩ h2, fun j k v hj => ?_⟩
        cases j with
        | zero =>
          rw [List.getElem?_cons_zero] at hj
          cases hj
          exact ⟨p, p.2.1, rfl, pt, rfl, kV_is r1⟩
        | succ j =>
          rw [List.getElem?_cons_succ] at hj
          obtain ⟨q, r, g1, g2, g3, g4⟩ := h3 j k v hj
          exact ⟨q, r, by rw [List.getElem?_cons_succ]; exact g1, g2, by rw [List.getElem?_cons_succ]; exact g3, g4⟩
theorem vals_refs : ∀ {ps : List (Addr × Key × V)} {us : List Value}, Vals (ps.map fun p => V.ref p.1) us → us = ps.map fun p => Value.ref p.1
  | [], _, r => by
    cases r
    rfl
  | p :: ps, _, r => by
    rw [List.map_cons] at r
    cases r with
    | cons r rr =>
      cases r
      rw [vals_refs rr]
      rfl
theorem d_upd {kvs : List (Key × V)} {l : Addr} {ps : List (Addr × Key × V)} {Q : Value → Shared → Prop} (hh : A.handled = none) (I : Inv X pins σ H s) (e : H a = some (.dK kvs)) (hl : SqL X.K H l (ps.map fun p => V.ref p.1))
    (hp : ∀ p ∈ ps, SqT X.K H p.1 [kV p.2.1, p.2.2]) (hz : kvs.length + ps.length ≤ sizeLine) (h : ∀ s', Inv X pins σ (upd H a (.dK (mergeK kvs (ps.map (·.2))))) s' → Q .none s') :
    wpAny (model X.prog X.w) A (call (.builtin "dict.update") [.ref a, .ref l]) Q E s := by
  obtain ⟨z, hd, vs, rel, dd⟩ := dk_of I.hok e
  obtain ⟨its, rv, ⟨o, n, ho, hc, hdn, hdat⟩, hlen⟩ := I.list hl
  have hits := vals_refs rv
  subst hits
  obtain ⟨qs, rs, h1, h2, h3⟩ := pairs_stand I ps hp
  have hrs : rs.length = ps.length := by rw [← h2.length, List.length_map]
  have ok : PlainSeq "list" s.heap l (ps.map fun p => Value.ref p.1).toArray ∧ PairItems s.heap (ps.map fun p => Value.ref p.1).toArray (fun j => ((ps[j]?).map (·.1)).getD 0) qs := by
    refine ⟨⟨o, n, ho, hc, hdn, hdat⟩, by rw [List.size_toArray, List.length_map, h1], fun j k v hj => ?_⟩
    obtain ⟨p, r, g1, g2, g3, g4⟩ := h3 j k v hj
    refine ⟨?_, ?_⟩
    · rw [List.getElem?_toArray, List.getElem?_map, g1]
      show some (Value.ref p.1) = some (Value.ref (((ps[j]?).map (·.1)).getD 0))
      rw [g1]
      rfl
    · show PairAt s.heap (((ps[j]?).map (·.1)).getD 0) k v
      rw [g1]
      exact .inl g2
  have hne : a ∉ l :: (List.range qs.length).map fun j => ((ps[j]?).map (·.1)).getD 0 := fun hm => by
    obtain ⟨od, es, ep, hod, hex, _⟩ := dd
    rcases List.mem_cons.mp hm with rfl | hm
    · rw [ho] at hod
      cases hod
      exact absurd (hc.symm.trans hex.1) (by decide)
    · obtain ⟨j, hj, rfl⟩ := List.mem_map.mp hm
      have hj : j < qs.length := List.mem_range.mp hj
      obtain ⟨p, r, g1, ⟨ot, hot, hct, _⟩, _⟩ := h3 j qs[j].1 qs[j].2 (List.getElem?_eq_getElem hj)
      have hod : s.heap.get? (((ps[j]?).map (·.1)).getD 0) = some od := hod
      rw [g1, show ((some p).map (·.1)).getD 0 = p.1 from rfl, hot] at hod
      cases hod
      exact absurd (hct.symm.trans hex.1) (by decide)
  refine call_update_pairs (knd := mixKind X.prog X.w) (acc := vs) (kvs := rs) (PairArg.list l _ _ qs) hh ok hne ⟨by rw [hrs, h1], fun i key v hr => ?_⟩ dd (by rw [← rel.length, h1]; exact hz) fun h' tk dd' k => ?_
  · obtain ⟨p, r, g1, g2, g3, g4⟩ := h3 i key v hr
    exact ⟨r, g3, g4⟩
  · have he : ∃ q, h'.get? a = some q := let ⟨q, _, _, hq, _⟩ := dd'; ⟨q, hq⟩
    have hz2 : (mergeK kvs (ps.map (·.2))).length ≤ sizeLine := by
      have := length_mergeK (ps.map (·.2)) kvs
      rw [List.length_map] at this
      omega
    exact h _ (I.write (x := a) (e := a) (t' := tk) (by rw [e]; exact True.intro) (.inl rfl) (fun b q hb z => k b q hb (fun hm => nomatch hm) z) he (dk_new hz2 hd (h2.merge rel) dd'))
end
def tDUpd (K : PySem.W.Frag) (td tx : TE) : TE := fun σ H Q => td σ H fun x H1 => ∃ a, x = .ref a ∧ IsD H1 a ∧ tx σ H1 fun y H2 => ∃ (kvs : List (Key × V)) (l : Addr) (ps : List (Addr × Key × V)), H2 a = some (.dK kvs) ∧ y = .ref l ∧ SqL K H2 l (ps.map fun p => V.ref p.1) ∧
  (∀ p ∈ ps, SqT K H2 p.1 [kV p.2.1, p.2.2]) ∧ kvs.length + ps.length ≤ sizeLine ∧ Q .non (upd H2 a (.dK (mergeK kvs (ps.map (·.2)))))
section
variable {X : Cx} {o e : Expr} {td tx : TE} {apos cpos : Pos}
theorem pe_dupd (hc : X.calm = true) (ho : PE X o td) (he : PE X e tx) (m : M1 X o "update" apos e cpos) : PE X (.Call (.Attribute o "update" apos) [e] [] cpos) (tDUpd X.K td tx) := by
  refine ⟨fun pins s σ H Q I h => ?_⟩
  refine wpAny_Call_method m.base m.few m.line PySem.F.plainAttrs_dict PySem.F.slot_dict_update type_dict_upd (thn (ho.run pins s σ H _ I h) fun u s1 ⟨x, H1, I1, rx, a, ex, d, q1⟩ => ?_)
  subst ex
  obtain rfl : u = Value.ref a := rx
  obtain ⟨t1, t2, _⟩ := isD_at I1 d
  refine ⟨t1, t2, ?_⟩
  rw [m.trees]
  refine Calls.callWith_builtin rfl (Calls.evalArgs_plain (Calls.spliced_cons (thn (he.run pins s1 σ H1 _ I1 q1) fun iv s2 ⟨y, H2, I2, ry, kvs, l, ps, ea, ey, h1, h2, h3, q2⟩ => Calls.spliced_nil ?_)))
  subst ey
  obtain rfl : iv = Value.ref l := ry
  exact d_upd (I2.ok.hd hc) I2 ea h1 h2 h3 fun s' I3 => ⟨.non, _, I3, rfl, q2⟩
end
end L2

namespace DL
open PySem PySem.Spec PyProof.Rows L2 RZ
theorem repI {K : PySem.W.Frag} {G : Gh} {S : Hp} : ∀ ns : List Int, RepAll K G S (ns.map V.int) (ns.map D.int)
  | [] => .nil
  | n :: ns => .cons (.int n) (repI ns)
def gSortSet (ga : GA) : GE := fun ρ w kx k => ga ρ w kx fun ds w1 => ∃ ns : List Int, ds = [.lst (ns.map D.int)] ∧ ns.length < 64 ∧ ∀ ms : List Int, ms.Pairwise (· < ·) → (∀ j, j ∈ ms ↔ j ∈ ns) → k (.lst (ms.map D.int)) w1
def fMax2 : FB := fun ds w k => match ds with
  | [.int i, .int j] => k (.int (if j > i then j else i)) w
  | _ => False
theorem ok_max2 {K : PySem.W.Frag} : CallOk K (fun xs H Q => ∃ i j, xs = [.int i, .int j] ∧ Q (.int (if j > i then j else i)) H) fMax2 := by
  intro G S H w xs ds k Q hr rx kl h
  unfold fMax2 at h
  split at h
  · obtain ⟨v, u, rfl, r1, r2⟩ := two_rep rx
    cases r1
    cases r2
    exact ⟨_, _, rfl, kl.here hr (.int _) h⟩
  · exact h.elim
theorem de_max2 {X : Cx} {E : XK} {e : Expr} {es : List Expr} {ga : GA} {p pos : Pos} (B : Blt X.mg) (hc : X.calm = true) (hg : Gl X "max") (ha : DA X E (e :: es) ga) (he : starEach (e :: es) X.env = (false, eval e X.env) :: starEach es X.env := by rfl) (hpl : (backTo pos (starEach es X.env)).any (·.1) = false := by rfl) : DE X E (.Call (.Name "max" p) (e :: es) [] pos) (gCB fMax2 ga) := de_cb (call_max2 hc) ok_max2 hg B.max_ (by decide +kernel) ha (he := he) (hpl := hpl)
theorem fMax2_i {i j : Int} {w : Wd} {k : KD} : fMax2 [.int i, .int j] w k = k (.int (if j > i then j else i)) w := rfl
def fSortDI : FB := fun ds w k => match ds with
  | [.rf i] => dkK i w fun kvs => ∃ ks : List Int, kvs.map (·.1) = ks.map Sum.inl ∧ ks.length < 64 ∧ ∀ ys : List Int, ys.Perm ks → ys.Pairwise (· ≤ ·) → k (.lst (ys.map D.int)) w
  | _ => False
theorem de_sortDI {X : Cx} {E : XK} {e : Expr} {es : List Expr} {ga : GA} {p pos : Pos} (B : Blt X.mg) (hc : X.calm = true) (hg : Gl X "sorted") (ha : DA X E (e :: es) ga) (he : starEach (e :: es) X.env = (false, eval e X.env) :: starEach es X.env := by rfl) (hpl : (backTo pos (starEach es X.env)).any (·.1) = false := by rfl) : DE X E (.Call (.Name "sorted" p) (e :: es) [] pos) (gCB fSortDI ga) := de_cb (call_sortedDI hc) (by
  intro G S H w xs ds k Q hr rx kl h
  unfold fSortDI at h
  split at h
  · obtain ⟨v, rfl, r⟩ := one_rep rx
    cases r with
    | rf e =>
      obtain ⟨kvs, ys, _, _, g1, g2, ks, h1, h2, h3⟩ := dk_get hr e h
      exact ⟨_, ys, ks, rfl, .inl g1, (fs_keys g2).trans h1, h2, fun zs p h4 h5 hp => kl.newL hr (repI zs) (h3 zs h4 h5) p hp⟩
  · exact h.elim) hg B.sorted_ (by decide +kernel) ha (he := he) (hpl := hpl)
def kD : Key → D
  | .inl i => .int i
  | .inr x => .str x
def mergeD (kvs more : List (Key × D)) : List (Key × D) := more.foldl (fun acc kv => putD acc kv.1 kv.2) kvs
def gDUpd (go ga : GE) : GE := fun ρ w kx k => go ρ w kx fun x w1 => rfK x fun i => dkK i w1 fun _ => ga ρ w1 kx fun y w2 => dkK i w2 fun kvs => ∃ ps : List (Key × D), y = .lst (ps.map fun p => .tup [kD p.1, p.2]) ∧ kvs.length + ps.length ≤ sizeLine ∧
  k .non ⟨w2.M.set i (.dk (mergeD kvs ps)), w2.n⟩
theorem fs_merge {K : PySem.W.Frag} {G : Gh} {S : Hp} : ∀ {more : List (Key × V)} {ps : List (Key × D)} {xs : List (Key × V)} {ys : List (Key × D)}, FsRep K G S more ps → FsRep K G S xs ys → FsRep K G S (mergeK xs more) (mergeD ys ps)
  | _, _, _, _, .nil, h => h
  | _, _, _, _, .cons (a := a) (b := b) h r, h0 => by
    have e := fs_put (k := a.1) h.2 h0
    have := fs_merge r e
    rw [h.1] at this
    show FsRep K G S (mergeK (putK _ a.1 a.2) _) (mergeD (putD _ b.1 b.2) _)
    rw [h.1]
    exact this
theorem pairs_rep {K : PySem.W.Frag} {G : Gh} {S H : Hp} (hs : Same S H) : ∀ {ps : List (Key × D)} {xs : List V}, RepAll K G S xs (ps.map fun p => D.tup [kD p.1, p.2]) →
    ∃ qs : List (Addr × Key × V), xs = qs.map (fun q => V.ref q.1) ∧ qs.length = ps.length ∧ (∀ q ∈ qs, SqT K H q.1 [kV q.2.1, q.2.2]) ∧ FsRep K G S (qs.map (·.2)) ps
  | [], _, r => by
    cases r
    exact ⟨[], rfl, rfl, (fun _ h => nomatch h), .nil⟩
  | p :: ps, _, r => by
    rw [List.map_cons] at r
    cases r with
    | cons r1 r2 =>
      obtain ⟨qs, h1, h2, h3, h4⟩ := pairs_rep hs r2
      cases r1 with
      | tup e r =>
        rename_i a xs
        cases r with
        | cons g1 g2 =>
          cases g2 with
          | cons g2 g3 =>
            cases g3
            rename_i u v
            have hu : u = kV p.1 := by
              obtain ⟨k, d⟩ := p
              cases k <;> exact rep_key g1 rfl
            subst hu
            refine ⟨(a, p.1, v) :: qs, by rw [h1]; rfl, by rw [List.length_cons, List.length_cons, h2], fun q hq => ?_, .cons ⟨rfl, g2⟩ h4⟩
            rcases List.mem_cons.mp hq with rfl | hq
            · exact sqT_up hs e
            · exact h3 q hq
theorem de_dupd {X : Cx} {E : XK} {o i : Expr} {go gi : GE} {apos cpos : Pos} (hc : X.calm = true) (ho : DE X E o go) (hi : DE X E i gi) (m : M1 X o "update" apos i cpos := by exact ⟨rfl, rfl, rfl, rfl⟩) : DE X E (.Call (.Attribute o "update" apos) [i] [] cpos) (gDUpd go gi) := pe_imp (pe_dupd hc ho hi m) (by
  rintro σ H Q ⟨G, S, ρ, w, kx, k, hr, sr, xl, kl, h⟩
  refine ⟨G, S, ρ, w, kx, _, hr, sr, xl, fun G1 S1 H1 w1 dx vx x1 hr1 rx h1 => ?_, h⟩
  obtain ⟨a, j, rfl, rfl, ea, h3⟩ := rfK_rep rx h1
  obtain ⟨ds, xs, _, _, g1, g2, h5⟩ := dk_get hr1 ea h3
  refine ⟨a, rfl, .inl ⟨xs, .inl g1⟩, G1, S1, ρ, w1, kx, _, hr1, sr.mono x1, xl.mono x1, fun G2 S2 H2 w2 dy vy x2 hr2 ry h6 => ?_, h5⟩
  have ea2 := x2.alGet ea
  obtain ⟨es, ys, e2, hs, g3, g4, ps, rfl, hz, h10⟩ := dk_get hr2 ea2 h6
  cases ry with
  | lst e1 r1 =>
    obtain ⟨qs, rfl, q2, q3, q4⟩ := pairs_rep hr2.same r1
    exact ⟨ys, _, qs, g3, rfl, .inl (.inl (hr2.same _ _ e1)), q3, by rw [fs_lenD g4, q2]; exact hz, kl _ _ _ _ _ _ (x1.trans x2) (dk_put hr2 ea2 e2 hs (fs_merge q4 g4)) .non h10⟩)
end DL

namespace DL
open PySem PySem.Spec PyProof.Rows L2 RZ

def fDictD : FB := fun ds w k => match ds with
  | [.rf i] => dkK i w fun kvs => k (.rf w.M.length) ⟨w.M ++ [.dk kvs], w.n⟩
  | _ => False
def fDictP : FB := fun ds w k => match ds with
  | [.lst xs] => ∃ ps : List (Key × D), xs = ps.map (fun p => .tup [kD p.1, p.2]) ∧ k (.rf w.M.length) ⟨w.M ++ [.dk (mergeD [] ps)], w.n⟩
  | _ => False
def fListC : FB := fun ds w k => match ds with
  | [d] => match seqD d w with
    | some xs => k (.rf w.M.length) ⟨w.M ++ [.lst xs], w.n⟩
    | none => False
  | _ => False
section
variable {X : Cx} {E : XK} {e : Expr} {es : List Expr} {ga : GA} {p pos : Pos}
end
end DL

namespace DL
open PySem PySem.Spec PyProof.Rows L2 RZ

def mCountB : FM := fun x ds w k => match x, ds with
  | .lst xs, [.bl b] => ∃ bs : List Bool, xs = bs.map D.bl ∧ k (.int ((bs.count b : Nat) : Int)) w
  | _, _ => False
def mIndexB : FM := fun x ds w k => match x, ds with
  | .lst xs, [.bl b] => ∃ (bs : List Bool) (j : Nat), xs = bs.map D.bl ∧ bs[j]? = some b ∧ (∀ m < j, bs[m]? ≠ some b) ∧ k (.int (j : Int)) w
  | _, _ => False
end DL

namespace DL
open PySem PySem.Spec PyProof.Rows L2 RZ

def dkR (i : Nat) (w : Wd) (f : List (Key × D) → Prop) : Prop := match w.M[i]? with
  | some (.dk xs) => f xs
  | some (.lk _ _ xs) => f xs
  | _ => False
section
variable {K : PySem.W.Frag} {G : Gh} {S H : Hp} {w : Wd}
end
def gDGetR (go gi : GE) : GE := fun ρ w kx k => go ρ w kx fun x w1 => gi ρ w1 kx fun y w2 => rfK x fun i => keyK y fun q => dkR i w2 fun kvs => someK (valD kvs q) fun d => k d w2
section
variable {X : Cx} {E : XK} {o i e : Expr} {go gi gd : GE} {pos apos cpos : Pos}
end
theorem rep_strs2 {K : PySem.W.Frag} {G : Gh} {S : Hp} : ∀ {bs : List Str} {vs : List V}, RepAll K G S vs (bs.map D.str) → vs = bs.map V.str
  | [], _, r => by
    cases r
    rfl
  | b :: bs, _, r => by
    cases r with
    | cons h r =>
      cases h
      rw [rep_strs2 r]
      rfl
theorem flat_strsS (bs : List Str) : (bs.map V.str).all flatV = true := by
  rw [List.all_eq_true]
  intro x hx
  obtain ⟨b, _, rfl⟩ := List.mem_map.mp hx
  rfl
def mCountS : FM := fun x ds w k => match x, ds with
  | .lst xs, [.str b] => ∃ bs : List Str, xs = bs.map D.str ∧ k (.int ((bs.count b : Nat) : Int)) w
  | _, _ => False
theorem ok_countS {K : PySem.W.Frag} : MtOk K (rCntV K) mCountS := by
  intro G S H w x d vs ds k Q hr rx rxs kl h
  unfold mCountS at h
  split at h
  · obtain ⟨bs, rfl, h2⟩ := h
    obtain ⟨v, rfl, r⟩ := one_rep rxs
    cases r
    rename_i b
    cases rx with
    | lst e r2 =>
      have e3 := rep_strs2 r2
      subst e3
      refine ⟨_, _, _, rfl, rfl, rfl, flat_strsS bs, .inl (.inl (hr.same _ _ e)), ?_⟩
      have hc : ((bs.map V.str).countP fun z => eqV z (.str b)) = bs.count b := by
        rw [List.countP_map, List.count]
        rfl
      rw [hc]
      exact kl.here hr (.int _) h2
  · exact h.elim
end DL

namespace DL
open PySem PySem.Spec PyProof.Rows L2 RZ
def giRange2 (ga : GA) : GI := fun ρ w kx k => ga ρ w kx fun ds w1 => match ds with
  | [.int i, .int j] => (-(2 ^ 62) ≤ i ∧ i < 2 ^ 62 ∧ -(2 ^ 62) ≤ j ∧ j < 2 ^ 62) ∧ k ((List.range (j - i).toNat).map fun (n : Nat) => .int (i + (n : Int))) (fun _ => True) w1
  | _ => False
theorem iter_rng2 {K : PySem.W.Frag} {G : Gh} {S : Hp} {lo : Int} {n : Nat} : IterOk K (Itr lo n) ((List.range n).map fun (i : Nat) => .int (lo + (i : Int))) (fun _ => True) G S := by
  intro i G1 S1 w1 H1 x1 hr1 _
  refine ⟨fun d hd => ?_, fun hl => ?_⟩
  · rw [List.getElem?_map] at hd
    cases q : (List.range n)[i]? with
    | none => rw [q] at hd; cases hd
    | some z =>
      rw [q] at hd
      have hd : D.int (lo + (z : Int)) = d := by simpa using hd
      subst hd
      have hi := (List.getElem?_eq_some_iff.mp q).1
      have hz := (List.getElem?_eq_some_iff.mp q).2
      rw [List.length_range] at hi
      rw [List.getElem_range] at hz
      subst hz
      refine ⟨hi, fun x H2 y => ?_⟩
      obtain ⟨rfl, rfl⟩ := y
      exact ⟨G1, S1, Ext.refl _ _, hr1, .int _⟩
  · rw [List.length_map, List.length_range] at hl
    exact Nat.le_of_eq hl
section
variable {X : Cx} {E : XK} {tg : Expr}
theorem di_range2 {a b : Expr} {ga : GA} {p pos : Pos} (B : Blt X.mg) (hg : Gl X "range") (ha : DA X E [a, b] ga) (hs : starEach [a, b] X.env = [(false, eval a X.env), (false, eval b X.env)] := by rfl) (hs2 : starEach [b] X.env = [(false, eval b X.env)] := by rfl) : DI X E tg (.Call (.Name "range" p) [a, b] [] pos) (giRange2 ga) := pi_imp (pi_range2 hg B.range_ ha hs hs2) (by
  rintro σ H R ⟨G, S, ρ, w, kx, k, hr, sr, xl, kl, h⟩
  refine ⟨G, S, ρ, w, kx, _, hr, sr, xl, fun G1 S1 H1 w1 ds vs x1 hr1 rp h1 => ?_, h⟩
  split at h1
  · rename_i i j
    cases rp with
    | cons r1 rp =>
      cases rp with
      | cons r2 rp =>
        cases rp
        cases r1
        cases r2
        exact ⟨i, j, rfl, h1.1, kl _ _ _ _ _ _ _ x1 hr1 iter_rng2 h1.2⟩
  · exact h1.elim)
end
def rNeDX (K : PySem.W.Frag) : R2 := fun x y H Q => ∃ (a b : Addr) (ks ls : List (Key × V)), x = .ref a ∧ y = .ref b ∧ H a = some (.dK ks) ∧ H b = some (.dK ls) ∧ ks.length = ls.length ∧ (∀ p ∈ ks, ∃ y d, valV ls p.1 = some y ∧ Dp K H p.2 d ∧ Dp K H y d ∧ (d.canLay0 = true ∧ d.depth ≤ 20)) ∧ Q (.bl false) H
theorem hits_dp {X : Cx} {pins : List (Addr × Obj)} {σ : L2.St} {H : Hp} {s : Shared} {A : Around} (hu : A.units + 64 < cLine) (I : Inv X pins σ H s) {ls : List (Key × V)} {vb : List (Key × Value)} (rb : KV ls vb) {ks : List (Key × V)} {va : List (Key × Value)} (ra : KV ks va) :
    (∀ p ∈ ks, ∃ y d, valV ls p.1 = some y ∧ Dp X.K H p.2 d ∧ Dp X.K H y d ∧ (d.canLay0 = true ∧ d.depth ≤ 20)) → PySem.W.KeqHits A.in1 s vb va true := by
  unfold KV at ra
  induction ra with
  | nil => exact fun _ => .nil
  | @cons p q ps qs h t ih =>
    intro hp
    obtain ⟨h1, h2⟩ := h
    obtain ⟨y, d, e, d1, d2, sd⟩ := hp p List.mem_cons_self
    have rr : RelO (some y) (valueAt vb p.1) := by
      rw [← e]
      exact rb.val p.1
    obtain ⟨v2, hy, ry⟩ := rr.some_of
    obtain ⟨k, v⟩ := q
    have h1' : p.1 = k := h1
    rw [h1'] at hy
    obtain ⟨as, r1⟩ := Dp.reads I d p.2 v d1 h2
    obtain ⟨bs, r2⟩ := Dp.reads I d y v2 d2 ry
    have q := SeqAt.eqAt_reads d d A.in1 s v v2 as bs r1 r2 sd.1 sd.1 (by
      show A.units + 1 + min d.depth d.depth < cLine
      have := sd.2
      omega)
    rw [SeqAt.eqv_refl d sd.1] at q
    show PySem.W.KeqHits A.in1 s vb ((k, v) :: qs) (true && true)
    exact .hit hy q (ih fun p' hm => hp p' (List.mem_cons_of_mem _ hm))
theorem op_neDX {X : Cx} (hu : X.A.units + 64 < cLine) : OpR X (compareOp .NotEq) (rNeDX X.K) := by
  intro pins s σ H x y v u Q I rx ry h
  obtain ⟨a, b, ks, ls, rfl, rfl, ea, eb, hlen, hp, q⟩ := h
  obtain rfl : v = Value.ref a := rx
  obtain rfl : u = Value.ref b := ry
  obtain ⟨_, ya, va, ra, da⟩ := (show ObjOk X.prog X.w H s.heap a (.dK ks) from I.hok a _ ea)
  obtain ⟨_, yb, vb, rb, db⟩ := (show ObjOk X.prog X.w H s.heap b (.dK ls) from I.hok b _ eb)
  have hl : va.length = vb.length := by
    rw [← ra.length, ← rb.length]
    exact hlen
  exact PySem.W.keq_ne (knd := mixKind X.prog X.w) (r := true) ya yb da db (by omega) (fun _ => hits_dp hu I rb ra hp) (fin_bl I q (by simp [hl]))
def neDE : F2 := fun x y w k => match x, y with
  | .rf i, .rf j => ∃ kvs : List (Key × D), w.M[i]? = some (.dk kvs) ∧ w.M[j]? = some (.dk kvs) ∧ (kvs.map (·.1)).Nodup ∧ (∀ p ∈ kvs, ∃ q, toPD p.2 = some q ∧ (q.canLay0 = true ∧ q.depth ≤ 20)) ∧ k (.bl false) w
  | _, _ => False
theorem fs_keysX {K : PySem.W.Frag} {G : Gh} {S : Hp} : ∀ {xs : List (Key × V)} {ys : List (Key × D)}, FsRep K G S xs ys → xs.map (·.1) = ys.map (·.1)
  | _, _, .nil => rfl
  | _, _, .cons h r => by
    rw [List.map_cons, List.map_cons, fs_keysX r, h.1]
theorem fs_two {K : PySem.W.Frag} {G : Gh} {S : Hp} : ∀ {xs zs : List (Key × V)} {ys : List (Key × D)}, FsRep K G S xs ys → FsRep K G S zs ys → (ys.map (·.1)).Nodup → ∀ p ∈ xs, ∃ y d, valV zs p.1 = some y ∧ d ∈ ys ∧ Rep K G S p.2 d.2 ∧ Rep K G S y d.2
  | _, _, _, .nil, .nil, _ => fun _ h => nomatch h
  | x :: xs, z :: zs, y :: ys, .cons h r, .cons h' r', nd => fun p hp => by
    rw [List.map_cons, List.nodup_cons] at nd
    rcases List.mem_cons.mp hp with rfl | hp
    · refine ⟨z.2, y, ?_, List.mem_cons_self, h.2, h'.2⟩
      unfold valV
      rw [List.find?_cons, decide_eq_true (h'.1.trans h.1.symm)]
      rfl
    · obtain ⟨v, d, e1, e2, e3, e4⟩ := fs_two r r' nd.2 p hp
      refine ⟨v, d, ?_, List.mem_cons_of_mem _ e2, e3, e4⟩
      have hk : p.1 ∈ ys.map (·.1) := by
        rw [← fs_keysX r]
        exact List.mem_map_of_mem hp
      have hne : z.1 ≠ p.1 := fun e => nd.1 (by rw [← h'.1, e]; exact hk)
      unfold valV at e1 ⊢
      rw [List.find?_cons, decide_eq_false hne]
      exact e1
theorem ok_neDE {K : PySem.W.Frag} : BinOk K (rNeDX K) neDE := by
  intro G S H w x y d e k Q hr rx ry kl h
  unfold neDE at h
  split at h
  · cases rx with
    | rf ea =>
      cases ry with
      | rf eb =>
        obtain ⟨kvs, m1, m2, nd, hn, hk⟩ := h
        obtain ⟨ds, xs, e1, _, g1, g2, e5⟩ := dk_get (f := fun d => d = kvs) hr ea (by unfold dkK; rw [m1])
        obtain ⟨ds', zs, e1', _, g1', g2', e5'⟩ := dk_get (f := fun d => d = kvs) hr eb (by unfold dkK; rw [m2])
        subst e5
        subst e5'
        refine ⟨_, _, xs, zs, rfl, rfl, g1, g1', ?_, fun p hp => ?_, kl.here hr (.bl false) hk⟩
        · have l1 := congrArg List.length (fs_keysX g2)
          have l2 := congrArg List.length (fs_keysX g2')
          simp only [List.length_map] at l1 l2
          omega
        · obtain ⟨v, dd, h1, h2, h3, h4⟩ := fs_two g2 g2' nd p hp
          obtain ⟨q, hq, hs⟩ := hn dd h2
          exact ⟨v, q, h1, rep_dp hr.same h3 hq, rep_dp hr.same h4 hq, hs⟩
  · exact h.elim
section
variable {X : Cx} {E : XK} {a b : Expr} {ga gb : GE} {pos : Pos} {kk : Nat} (hr : Room kk X.A)
include hr
theorem dt_neDE (ha : DE X E a ga) (hb : DE X E b gb) : DT X E (.Compare a [.NotEq] [b] pos) (gB (gBin neDE ga gb)) := dt_cmp (op_neDX hr.units) ok_neDE ha hb (nomark _)
end
def tListVals (td : TE) : TE := fun σ H Q => td σ H fun x H1 => ∃ (a : Addr) (kvs : List (Key × V)), x = .ref a ∧ H1 a = some (.dK kvs) ∧ ∀ p, H1 p = none → Q (.ref p) (upd H1 p (.lst (kvs.map (·.2))))
theorem kv_vals : ∀ {ks : List (Key × V)} {vs : List (Key × Value)}, KV ks vs → Vals (ks.map (·.2)) (vs.map (·.2))
  | _, _, .nil => .nil
  | _, _, .cons h t => .cons h.2 (kv_vals t)
section
variable {X : Cx} {o : Expr} {td : TE} {p pos apos mpos : Pos}
theorem pe_listVals (hc : X.calm = true) (hg : Gl X "list") (hm : X.mg "list" = none) (hd : PE X o td) (hbase : attributeBase o "values" X.env (eval o X.env) = eval o X.env := by rfl) (hline : (apos.endLine == mpos.line) = true := by rfl)
    (hse : starEach [Expr.Call (.Attribute o "values" apos) [] [] mpos] X.env = [(false, eval (Expr.Call (.Attribute o "values" apos) [] [] mpos) X.env)] := by rfl) :
    PE X (.Call (.Name "list" p) [.Call (.Attribute o "values" apos) [] [] mpos] [] pos) (tListVals td) := by
  refine ⟨fun pins s σ H Q I h => ?_⟩
  refine wpAny_Call_Name_kw (ld_blt I hg hm (u := .type "list") (by first | rfl | decide +kernel) ?_ (by first | decide +kernel | decide) (by first | decide +kernel | decide))
  rw [hse]
  refine PySem.callWith_type1 (wpAny_Call_method0_late hbase hline (thn (hd.run pins s σ H _ I h) fun v s1 ⟨x, H1, J, r1, a, kvs, ex, ha, q⟩ => ?_))
  subst ex
  obtain rfl : v = Value.ref a := r1
  obtain ⟨hz, hsys, vs, rel, dof⟩ := dk_of J.hok ha
  obtain ⟨ep, dat⟩ := dof.dictAt
  have dat2 := dat
  obtain ⟨ob, es, ho, ex, _⟩ := dat2
  refine ⟨"dict", "dict.values", F.plainAttrs_dict, F.slot_dict_values, F.type_dict_values, ⟨ob, ho, ex.1⟩, fun b e => ?_, Calls.callWith_builtin rfl (PySem.evalArgs_none ?_)⟩
  · cases e
    exact ⟨ob, ho, ex.2.1⟩
  refine call_meetsIn F.slot_dict_values ⟨ob, ho, ex.1⟩ F.entry_dict_values (F.args_dict_values_1 _) (meets_dict_values (mixKind X.prog X.w) a hsys) ⟨⟨vs, dof⟩, ?_⟩
  obtain ⟨vo, hvo⟩ : ∃ vo : Obj, vo = { cls := .type "dict_values", data := .fields #[.ref a] } := ⟨_, rfl⟩
  rw [← hvo]
  have keep : ∀ b u, s1.heap.get? b = some u → (s1.heap.push vo).get? b = some u := fun b u e => Heap.get?_push_of_some _ e
  have J2 : Inv X pins σ H1 { s1 with heap := s1.heap.push vo } := J.kept (t' := s1.toks) keep
  have hl := rel.length
  refine PySem.W.kdl_call (PySem.W.kdl_values (knd := mixKind X.prog X.w) (kvs := vs) (ep := ep) (r := s1.heap.objs.size) (d := a)) (J.ok.hd hc) ⟨⟨vo, Heap.get?_push_size _ (by rw [hvo]; rfl), by rw [hvo], by rw [hvo]⟩, dat.keep keep⟩ (by rw [← hl]; exact hz) fun h2 tk acc c k2 hget hit => ?_
  obtain ⟨hsz, hat⟩ := hit
  have hacc : acc = (vs.map (·.2)).toArray := by
    apply Array.ext
    · rw [hsz, List.size_toArray, List.length_map]
    · intro i h3 h4
      obtain ⟨k, hk⟩ := hat i acc[i] (by simp [h3])
      have h5 : (vs.map (·.2))[i]? = some acc[i] := by
        rw [List.getElem?_map, hk]
        rfl
      have h6 := (List.getElem?_eq_some_iff.mp h5).2
      rw [← h6]
      simp
  have hlen : (kvs.map (·.2)).length ≤ sizeLine := by
    rw [List.length_map]
    exact hz
  refine ⟨.ref (s1.heap.push vo).objs.size, upd H1 (s1.heap.push vo).objs.size (.lst (kvs.map (·.2))), J2.laid (t' := tk) (o := .lst (kvs.map (·.2))) (fun b ob e => k2 b ob e) (Nat.le_refl _) ⟨hlen, vs.map (·.2), c, kv_vals rel, by rw [← hacc]; exact hget⟩, rfl, q _ (J2.hok.fresh (Nat.le_refl _))⟩
end
def gListVals (go : GE) : GE := fun ρ w kx k => go ρ w kx fun x w1 => rfK x fun i => dkK i w1 fun kvs => k (.lst (kvs.map (·.2))) w1
theorem fs_vals {K : PySem.W.Frag} {G : Gh} {S : Hp} : ∀ {xs : List (Key × V)} {ys : List (Key × D)}, FsRep K G S xs ys → RepAll K G S (xs.map (·.2)) (ys.map (·.2))
  | _, _, .nil => .nil
  | _, _, .cons h r => .cons h.2 (fs_vals r)
section
variable {X : Cx} {E : XK} {e : Expr} {ge : GE} {p apos cpos pos : Pos}
theorem de_listVals (hc : X.calm = true) (B : Blt X.mg) (hg : Gl X "list") (he : DE X E e ge) (hbase : attributeBase e "values" X.env (eval e X.env) = eval e X.env := by rfl) (hline : (apos.endLine == cpos.line) = true := by rfl)
    (hse : starEach [Expr.Call (.Attribute e "values" apos) [] [] cpos] X.env = [(false, eval (Expr.Call (.Attribute e "values" apos) [] [] cpos) X.env)] := by rfl) : DE X E (.Call (.Name "list" p) [.Call (.Attribute e "values" apos) [] [] cpos] [] pos) (gListVals ge) :=
  pe_imp (pe_listVals hc hg B.list_ he hbase hline hse) (by
  rintro σ H Q ⟨G, S, ρ, w, kx, k, hr, sr, xl, kl, h⟩
  refine ⟨G, S, ρ, w, kx, _, hr, sr, xl, fun G1 S1 H1 w1 d v x1 hr1 rp h1 => ?_, h⟩
  obtain ⟨a, i, rfl, rfl, ea, h2⟩ := rfK_rep rp h1
  obtain ⟨ds, xs, e2, hs, ha, fr, h3⟩ := dk_get hr1 ea h2
  exact ⟨a, xs, rfl, ha, (kl.mono x1).newL hr1 (fs_vals fr) h3⟩)
end
end DL

namespace DL
open PySem PySem.Spec PyProof.Rows L2 RZ
open PySem.AutoSeq1 (wpAny_loadPart')
set_option maxHeartbeats 1000000 in
theorem enum_newT (tp : Addr) (its : Array Value) (n : Nat) (dct : Option Addr) (sl : Array (Option Value)) :
    Meets (Builtin.«enumerate.__new__» ⟨[.type "enumerate", .ref tp], []⟩) (fun _ R s => s.heap.get? tp = some { cls := .type "tuple", dict := dct, data := .seq its n, slots := sl } ∧
      R (.ok (.ret (.ref (s.heap.push { cls := .type "tuple_iterator", data := .fields #[.ref tp, .int 0 0] }).objs.size)))
        { s with heap := (s.heap.push { cls := .type "tuple_iterator", data := .fields #[.ref tp, .int 0 0] }).push { cls := .type "enumerate", data := .fields #[.none, .bool false, .ref s.heap.objs.size, rawInt 0, .none, .none] } }) :=
  .of_wp fun prog w A R s q => by
    obtain ⟨hp, gs, dd, tk, os⟩ := s
    obtain ⟨ht, q⟩ := q
    have sub := sub_enumerate
    have hT : Heap.IsTuple (Shared.heap ⟨hp, gs, dd, tk, os⟩) tp its := ⟨_, ht, rfl, n, rfl⟩
    wp_walk using wpAny_loadPart' ht
    refine wpAny_stack_any fun st => wpAny_pure ?_
    split
    · rename_i cl _ _ _ _ _
      cases (cl == Value.type "enumerate") <;>
      · wp_walk using wpAny_loadPart' ht, wpAny_pyIter_tuple hT
        exact ⟨_, rfl, q⟩
    · wp_walk using wpAny_loadPart' ht, wpAny_pyIter_tuple hT
      exact ⟨_, rfl, q⟩
theorem call_enumT {prog : Program} {w : World} {A : Around} {E : Value → Shared → Prop} {s : Shared} {tp : Addr} {its : Array Value} {Q : Value → Shared → Prop} (ht : s.heap.IsTuple tp its)
    (k : ∀ h1, IsEnum h1 (s.heap.objs.size + 1) s.heap.objs.size 0 .none → h1.IsTupleIter s.heap.objs.size tp 0 → (∀ b o, s.heap.get? b = some o → h1.get? b = some o) → Q (.ref (s.heap.objs.size + 1)) { s with heap := h1 }) :
    wpAny (model prog w) A (call (.type "enumerate") [.ref tp]) Q E s := by
  obtain ⟨⟨cl, dct, dt, sl⟩, hg, hc, n, hd⟩ := ht
  have hc : cl = .type "tuple" := hc
  have hd : dt = .seq its n := hd
  subst hc
  subst hd
  refine callType_new F.called_enumerate (by decide) (F.typeCall_enumerate_1 _) (F.newCall_enumerate_1 _) (fun ob => F.args_object_init_2 ob _) F.entry_enumerate_new (enum_newT tp its n dct sl) ⟨hg, ?_⟩
  obtain ⟨ho, hho⟩ : ∃ ho : Heap, ho = s.heap.push { cls := .type "tuple_iterator", data := .fields #[.ref tp, .int 0 0] } := ⟨_, rfl⟩
  have hz : ho.objs.size = s.heap.objs.size + 1 := by
    rw [hho]
    exact Heap.size_push ..
  rw [← hho]
  have it0 : ho.get? s.heap.objs.size = some { cls := .type "tuple_iterator", data := .fields #[.ref tp, .int 0 0] } := by
    rw [hho]
    exact Heap.get?_push_size _ rfl
  have keep : ∀ b o, s.heap.get? b = some o → ho.get? b = some o := fun b o e => by
    rw [hho]
    exact Heap.get?_push_of_some _ e
  have en : IsEnum (ho.push { cls := .type "enumerate", data := .fields #[.none, .bool false, .ref s.heap.objs.size, rawInt 0, .none, .none] }) (s.heap.objs.size + 1) s.heap.objs.size 0 .none := by
    rw [← hz]
    exact Heap.get?_push_size _ rfl
  show _ ∧ _
  rw [hz]
  exact ⟨⟨_, en, rfl⟩, k _ en ⟨_, Heap.get?_push_of_some _ it0, rfl, rfl⟩ fun b o e => Heap.get?_push_of_some _ (keep b o e)⟩
def IteT (K : PySem.W.Frag) (a : Addr) : It :=
  ⟨fun i H => ∃ (xs : List V) (x : V), SqT K H a xs ∧ xs[i]? = some x, fun i H v H' => ∃ T x, v = .ref T ∧ H T = none ∧ H' = upd H T (.tup [.int (i : Nat), x]) ∧ ∀ xs, SqT K H a xs → xs[i]? = some x, fun i H => ∃ xs : List V, SqT K H a xs ∧ xs.length = i⟩
theorem turn_enumT {P : Program} {w : World} {K : PySem.W.Frag} {elts : List Expr} {kk : Nat} {tpos : Pos} (a e it : Addr) :
    Turn P w K (.Tuple elts kk tpos) (IteT K a) [e, it] e (fun i h => (∃ old, IsEnum h e it ((i : Nat) : Int) old) ∧ h.IsTupleIter it a i ∧ e ≠ it ∧ a ≠ it ∧ a ≠ e) where
  mem := by simp
  obj := fun i h st b hb => by
    obtain ⟨⟨old, he⟩, ⟨o, ho, hc, hd⟩, _⟩ := st
    rcases (show b = e ∨ b = it by simpa using hb) with z | z
    · rw [z]
      exact ⟨_, he, fun v q => nomatch q⟩
    · rw [z]
      exact ⟨o, ho, fun v q => by rw [hd] at q; cases q⟩
  keep := fun i h h1 st k => by
    obtain ⟨⟨old, he⟩, hi, r⟩ := st
    exact ⟨⟨old, k e (by simp) _ he⟩, hi.at fun o q => k it (by simp) o q, r⟩
  item := by
    intro X hP hw hK hc i pins s σ H E I hf st hg
    subst hP hw hK
    obtain ⟨⟨old, he⟩, hit, hne, hai, hae⟩ := st
    obtain ⟨xs, x, hq, hx⟩ := hg
    obtain ⟨ts, rv, p, hz⟩ := I.tuple hq
    obtain ⟨u, hu, ru⟩ := rv.get hx
    have hel : e < s.heap.objs.size := Heap.lt_size he
    have hil : it < s.heap.objs.size := by
      obtain ⟨_, q, _⟩ := id hit
      exact Heap.lt_size q
    have hlt : i < ts.toArray.size := by
      have := (List.getElem?_eq_some_iff.mp hu).1
      simpa using this
    refine wpAny_pyNext_enum_itemD (n := ts.toArray.size) (Draws.tuple (A := X.A.in1) (I.ok.hd hc) it a hai ts.toArray) he ⟨hit, p⟩ hlt hne (by simp [hne, hae.symm]) fun y h1 tk hy ho hst hT hsz hk => ?_
    have hy : ts.toArray[i]? = some y := hy
    have ey : y = u := by
      rw [List.getElem?_toArray, hu] at hy
      exact (Option.some.inj hy).symm
    subst ey
    refine ⟨_, rfl, wpAny_letOwnedTupleGo_enum (s := { s with heap := h1, toks := tk + 1 }) ho fun h2 he2 sb => ?_⟩
    have hT2 : h2.get? s.heap.objs.size = some { cls := .type "tuple", data := .seq #[.int i tk, y] } := (sb.2 _ (Nat.ne_of_gt hel)).trans hT
    have new : ObjOk X.prog X.w (upd H s.heap.objs.size (.tup [.int (i : Nat), x])) h2 s.heap.objs.size (.tup [.int (i : Nat), x]) :=
      ⟨by show 2 ≤ sizeLine; decide, [.int i tk, y], .cons ⟨_, rfl⟩ (.cons ru .nil), ⟨_, hT2, rfl, _, rfl⟩⟩
    have J : Inv X pins σ (upd H s.heap.objs.size (.tup [.int (i : Nat), x])) { s with heap := h2, toks := tk + 1 } :=
      I.turnedNew (ch := [e, it]) (fun b ob hb q => (sb.2 b (fun z => hb (by simp [z]))).trans (hk b ob (fun z => hb (by simp [z])) (fun z => hb (by simp [z])) q)) hf (Nat.le_refl _) new
    refine ⟨.ref s.heap.objs.size, _, J, rfl, ⟨_, x, rfl, I.hok.fresh (Nat.le_refl _), rfl, fun ys hy2 => by rw [I.tuple_inj hy2 hq]; exact hx⟩, ⟨⟨y, ?_⟩, hst.1.at fun o q => (sb.2 it (Ne.symm hne)).trans q, hne, hai, hae⟩, fun b hb => ?_⟩
    · have e1 : ((i + 1 : Nat) : Int) = (i : Int) + 1 := by omega
      rw [e1]
      exact he2
    · have hb2 : b < s.heap.objs.size := by
        rcases (show b = e ∨ b = it by simpa using hb) with z | z
        · exact z ▸ hel
        · exact z ▸ hil
      rw [upd_ne (Nat.ne_of_lt hb2)]
      exact (hf b hb).1
  done := by
    intro X hP hw hK hc i pins s σ H E I hf st hg
    subst hP hw hK
    obtain ⟨⟨old, he⟩, hit, hne, hai, hae⟩ := st
    obtain ⟨xs, hq, hx⟩ := hg
    obtain ⟨ts, rv, p, hz⟩ := I.tuple hq
    obtain ⟨f0, f1, f2, f3, f4, f5⟩ := hf it (by simp)
    have hl := rv.length
    have hn : i = ts.toArray.size := by simp; omega
    rw [hn] at he hit
    exact wpAny_pyNext_enum_endD (n := ts.toArray.size) (Draws.tuple (A := X.A.in1) (I.ok.hd hc) it a hai ts.toArray) he ⟨hit, p⟩ fun h1 eb => ⟨rfl, I.turned (t' := s.toks) (fun b o hb q => eb b o hb q) f0 f1 f3 f4 f5⟩
  self := fun A i s Q E st h => by
    obtain ⟨⟨_, he⟩, _⟩ := st
    exact wpAny_pyIter_enum he h
def iEnumT (K : PySem.W.Frag) (ta : TA) : TI := fun σ H R => ta σ H fun vs H1 => ∃ a xs, vs = [.ref a] ∧ SqT K H1 a xs ∧ R (IteT K a) H1
theorem pi_enumT {X : Cx} {e : Expr} {ta : TA} {p pos tpos : Pos} {elts : List Expr} {kk : Nat} (hg : Gl X "enumerate") (hm : X.mg "enumerate" = none) (ha : PA X [e] ta) (hs : starEach [e] X.env = [(false, eval e X.env)] := by rfl) :
    PI X (.Tuple elts kk tpos) (.Call (.Name "enumerate" p) [e] [] pos) (iEnumT X.K ta) := by
  refine ⟨fun pins s σ H R I h => ?_⟩
  refine Call_ (ld_blt I hg hm boot_enumerate (PyProof.Rows.callWith_type1 (thn (ha.run pos pins s σ H _ I h) fun us s1 ⟨vs, H1, J, r1, q1⟩ => ?_) hs rfl))
  obtain ⟨a, xs, ex, hq, q⟩ := q1
  subst ex
  cases r1 with
  | cons r rr =>
    cases rr
    cases r
    obtain ⟨ts, rv, pt, hz⟩ := J.tuple hq
    have hal : a < s1.heap.objs.size := by
      obtain ⟨o, ho, _⟩ := pt
      exact Heap.lt_size ho
    refine call_enumT pt fun h1 he hit keep => wpAny_pyIter_enum he ?_
    have J2 : Inv X pins σ H1 { s1 with heap := h1 } := J.kept (t' := s1.toks) keep
    refine ⟨s1.heap.objs.size + 1, [s1.heap.objs.size + 1, s1.heap.objs.size], _, _, H1, rfl, J2, turn_enumT a (s1.heap.objs.size + 1) s1.heap.objs.size, ⟨⟨.none, he⟩, hit, Nat.succ_ne_self _, Nat.ne_of_lt hal, Nat.ne_of_lt (Nat.lt_succ_of_lt hal)⟩, fun b hb => ?_, q⟩
    have hle : s1.heap.objs.size ≤ b := by
      rcases (show b = s1.heap.objs.size + 1 ∨ b = s1.heap.objs.size by simpa using hb) with z | z
      · rw [z]
        exact Nat.le_add_right _ _
      · rw [z]
        exact Nat.le_refl _
    exact J.fpOk hle (J.hok.fresh hle)
def giEnumT (ga : GA) : GI := fun ρ w kx k => ga ρ w kx fun ds w1 => match ds with
  | [.tup xs] => k (enumD 0 xs) (fun _ => True) w1
  | _ => False
theorem iter_enumT {K : PySem.W.Frag} {G : Gh} {S : Hp} {a : Addr} {xs : List V} {ds : List D} (e1 : SqT K S a xs) (r1 : RepAll K G S xs ds) : IterOk K (IteT K a) (enumD 0 ds) (fun _ => True) G S := by
  intro i G1 S1 w1 H1 x1 hr1 _
  have q1 : SqT K H1 a xs := sqT_up hr1.same (sqT_up x1.same e1)
  refine ⟨fun d hd => ?_, fun hl => ⟨xs, q1, by rw [r1.length, ← enum_len ds 0, hl]⟩⟩
  obtain ⟨d1, g1, rfl⟩ := enum_get hd
  obtain ⟨v1, h1, h2⟩ := r1.get g1
  refine ⟨⟨xs, v1, q1, h1⟩, fun x H2 y => ?_⟩
  obtain ⟨T, u1, rfl, hT, rfl, y1⟩ := y
  have z1 := y1 xs q1
  rw [h1] at z1
  cases z1
  rw [Nat.zero_add]
  exact zip_new hr1 hT (.int _) (h2.mono x1)
theorem di_enumT {X : Cx} {E : XK} {e : Expr} {ga : GA} {p pos tpos : Pos} {elts : List Expr} {kk : Nat} (B : Blt X.mg) (hg : Gl X "enumerate") (ha : DA X E [e] ga) (hs : starEach [e] X.env = [(false, eval e X.env)] := by rfl) :
    DI X E (.Tuple elts kk tpos) (.Call (.Name "enumerate" p) [e] [] pos) (giEnumT ga) := pi_imp (pi_enumT hg B.enum_ ha hs) (by
  rintro σ H R ⟨G, S, ρ, w, kx, k, hr, sr, xl, kl, h⟩
  refine ⟨G, S, ρ, w, kx, _, hr, sr, xl, fun G1 S1 H1 w1 ds vs x1 hr1 rp h1 => ?_, h⟩
  split at h1
  · obtain ⟨v, rfl, r1⟩ := one_rep rp
    cases r1 with
    | tup e1 q1 => exact ⟨_, _, rfl, sqT_up hr1.same e1, kl _ _ _ _ _ _ _ x1 hr1 (iter_enumT e1 q1) h1⟩
  · exact h1.elim)
end DL

namespace PySem
open PySem.W PySem.Calls PySem.NumText PyProof.Rows
namespace LongInt
structure Box (p : Prop) : Prop where
  out : p
end LongInt
end PySem
namespace L2
open PySem PySem.Spec PyProof.Rows
structure NoDg (K : PySem.W.Frag) : Prop where
  ok : PySem.W.nsOkIn K cStatics = true
  non : PySem.W.nsIn K cStatics "sys.int_max_str_digits" = some none
theorem NoDg.heap {K : PySem.W.Frag} {h : Heap} (d : NoDg K) (X : K.In h) : h.NoDigits := ⟨h.nsMap cStatics, .of_isNs (PySem.W.isNs_of_in X d.ok), PySem.W.nsMap_none_of_in X d.ok d.non⟩
section
variable {X : Cx}
def rMulS : R2 := fun x y H Q => ∃ z i, x = .str z ∧ y = .int i ∧ -(2 ^ 62) ≤ i ∧ i ≤ 1 ∧ Q (.str (if i < 1 then Str.empty else z)) H
end
end L2

namespace DL
open PySem PySem.Spec PyProof.Rows L2 RZ
def fStrI : FB := fun ds w k => match ds with
  | [.int i] => i.natAbs < 10 ^ 4300 ∧ k (.str (toString i)) w
  | _ => False
def fIntS : FB := fun ds w k => match ds with
  | [.str a] => ∃ n, PySem.intText? a = some n ∧ a.length ≤ sizeLine ∧ k (.int n) w
  | _ => False
def inSD : F2 := fun x y w k => match x, y with
  | .str s, .str z => ∃ c, s = ⟨#[c]⟩ ∧ k (.bl (decide (c ∈ z.cps.toList))) w
  | _, _ => False
theorem ok_inSD {K : PySem.W.Frag} : BinOk K (fun x y H Q => ∃ (c : Nat) (z : Str), x = .str ⟨#[c]⟩ ∧ y = .str z ∧ Q (.bl (decide (c ∈ z.cps.toList))) H) inSD := by
  intro G S H w x y d e k Q hr rx ry kl h
  cases rx with
  | str s =>
    cases ry with
    | str z =>
      obtain ⟨c, rfl, h⟩ := h
      exact ⟨c, z, rfl, rfl, kl.here hr (.bl _) h⟩
    | _ => exact h.elim
  | _ => cases ry <;> exact h.elim
def mulSD : F2 := fun x y w k => match x, y with
  | .str z, .int i => (-(2 ^ 62) ≤ i ∧ i ≤ 1) ∧ k (.str (if i < 1 then Str.empty else z)) w
  | _, _ => False
def slS : D → Option Int → Option Int → Wd → KD → Prop := fun x lo hi w k => match x with
  | .str z => z.length ≤ sizeLine ∧ k (.str (L2.cutS z lo hi)) w
  | _ => False
section
variable {X : Cx} {E : XK} {a b e : Expr} {es : List Expr} {ga gb : GE} {gA : GA} {p p2 pos : Pos} {lo hi : Option Expr} {gl gh : GO} {tg : Expr}
theorem de_inS (ha : DE X E a ga) (hb : DE X E b gb) (hm : behindInMarks .In b = false := by rfl) : DE X E (.Compare a [.In] [b] pos) (gBin inSD ga gb) := de_cmp L2.op_in_sign ok_inSD ha hb hm
def giStr (ge : GE) : GI := fun ρ w kx k => ge ρ w kx fun d w1 => match d with
  | .str x => k (x.cps.toList.map fun c => D.str ⟨#[c]⟩) (fun _ => True) w1
  | _ => False
theorem iter_str {K : PySem.W.Frag} {G : Gh} {S : Hp} {x : Str} : IterOk K (Its x) (x.cps.toList.map fun c => D.str ⟨#[c]⟩) (fun _ => True) G S := by
  intro i G1 S1 w1 H1 x1 hr1 _
  refine ⟨fun d hd => ?_, fun hl => ?_⟩
  · rw [List.getElem?_map, Array.getElem?_toList] at hd
    cases q : x.cps[i]? with
    | none => rw [q] at hd; cases hd
    | some c =>
      rw [q] at hd
      have hd : D.str ⟨#[c]⟩ = d := by simpa using hd
      subst hd
      refine ⟨(Array.getElem?_eq_some_iff.mp q).1, fun y H2 hy => ?_⟩
      obtain ⟨rfl, c2, hc, rfl⟩ := hy
      rw [q] at hc
      cases hc
      exact ⟨G1, S1, Ext.refl _ _, hr1, .str _⟩
  · rw [List.length_map, Array.length_toList] at hl
    exact Nat.le_of_eq hl
theorem di_str {l : Expr} {ge : GE} (hl : DE X E l ge) : DI X E tg l (giStr ge) := pi_imp (pi_str hl) (by
  rintro σ H R ⟨G, S, ρ, w, kx, k, hr, sr, xl, kl, h⟩
  refine ⟨G, S, ρ, w, kx, _, hr, sr, xl, fun G1 S1 H1 w1 d v x1 hr1 rp h1 => ?_, h⟩
  cases rp with
  | str x => exact ⟨x, rfl, kl _ _ _ _ _ _ _ x1 hr1 iter_str h1⟩
  | _ => exact h1.elim)
end
end DL

namespace DL
open PySem PySem.Spec PyProof.Rows L2 RZ

def inRK (x : D) (ds : List D) (w : Wd) (k : Bool → Wd → Prop) : Prop := match x, ds with
  | .int i, [.int lo, .int hi] => k (decide (lo ≤ i ∧ i < hi)) w
  | _, _ => False
def gInR (ge : GE) (ga : GA) : GE := fun ρ w kx k => ge ρ w kx fun x w1 => ga ρ w1 kx fun ds w2 => inRK x ds w2 fun b w3 => k (.bl b) w3
section
variable {X : Cx} {E : XK} {e a : Expr} {es : List Expr} {ge : GE} {ga : GA} {p pos pos2 : Pos}
end
end DL

namespace DL
open PySem PySem.Spec PyProof.Rows L2 RZ
def tLenSetF (K : PySem.W.Frag) (ta : TE) : TE := fun σ H Q => ta σ H fun x H1 => ∃ (l : Addr) (ns : List Int), x = .ref l ∧ SqL K H1 l (ns.map V.int) ∧ ns.length ≤ 4000 ∧ Q (.int ((PyProof.Rows.firstMet (fun i => ns.getD i 0) ns.length).length : Nat)) H1
def gLenSet (ga : GA) : GE := fun ρ w kx k => ga ρ w kx fun ds w1 => ∃ ns : List Int, ds = [.lst (ns.map D.int)] ∧ ns.length ≤ 4000 ∧ ∀ c : Nat, (c = ns.length → ns.Nodup) → k (.int (c : Int)) w1
end DL

namespace DL
open PySem PySem.Spec PyProof.Rows L2 RZ
def TupG (K : PySem.W.Frag) (mg : Str → Option Value) (x : Str) (ns : List Int) : Prop := ∃ a, mg x = some (.ref a) ∧ ∀ H : Hp, SqT K H a (ns.map V.int)
def mPop : FM := fun x ds w k => match x, ds with
  | .rf i, [] => cellK i w fun xs => someK xs[xs.length - 1]? fun d => k d ⟨w.M.set i (.lst xs.dropLast), w.n⟩
  | _, _ => False
def dropD {κ : Type} [DecidableEq κ] (kvs : List (κ × D)) (k : κ) : List (κ × D) := kvs.filter fun kv => decide (kv.1 ≠ k)
def gDPop1 (go gi : GE) : GE := fun ρ w kx k => go ρ w kx fun x w1 => rfK x fun i => dkK i w1 fun _ => gi ρ w1 kx fun y w2 => keyK y fun q => dkK i w2 fun kvs => someK (valD kvs q) fun d => k d ⟨w2.M.set i (.dk (dropD kvs q)), w2.n⟩
def gDPop2 (go gi gd : GE) : GE := fun ρ w kx k => go ρ w kx fun x w1 => rfK x fun i => dkK i w1 fun _ => gi ρ w1 kx fun y w2 => gd ρ w2 kx fun z w3 => keyK y fun q => dkK i w3 fun kvs => match valD kvs q with
  | some d => k d ⟨w3.M.set i (.dk (dropD kvs q)), w3.n⟩
  | none => k z w3
section
variable {X : Cx} {E : XK} {o i e : Expr} {go gi gd : GE} {pos apos cpos : Pos}
end
end DL

namespace DL
open PySem PySem.Spec PyProof.Rows L2 RZ
def gSortItemsC (go : GE) : GE := fun ρ w kx k => go ρ w kx fun x w1 => rfK x fun i => dkK i w1 fun kvs => (∀ y ∈ kvs, ∃ p, toPD y.2 = some p ∧ p.depth < 60) ∧ PySem.W.AllAlike ((itemsD kvs).map encD) ∧ PySem.W.Sortable ((itemsD kvs).map encD) ∧ k (.rf w1.M.length) ⟨w1.M ++ [.lst ((itemsD kvs).mergeSort (PySem.W.dataLe false encD))], w1.n⟩
section
variable {X : Cx} {E : XK} {e : Expr} {ge : GE} {p apos cpos pos : Pos} {kk : Nat}
end
def eqDD : F2 := fun x y w k => match x, y with
  | .rf i, .rf j => ∃ kvs : List (Key × D), w.M[i]? = some (.dk kvs) ∧ w.M[j]? = some (.dk kvs) ∧ (kvs.map (·.1)).Nodup ∧ (∀ p ∈ kvs, ∃ n, p.2 = .int n) ∧ k (.bl true) w
  | _, _ => False
def rEqDD : R2 := fun x y H Q => ∃ a b kvs, x = .ref a ∧ y = .ref b ∧ H a = some (.dK kvs) ∧ H b = some (.dK kvs) ∧ (kvs.map (·.1)).Nodup ∧ (∀ p ∈ kvs, flatB p.2 = true) ∧ Q (.bl true) H
section
variable {X : Cx} {E : XK} {a b : Expr} {ga gb : GE} {pos : Pos} {kk : Nat} (hr : Room kk X.A)
include hr
end
end DL

namespace DL
open PySem PySem.Spec PyProof.Rows L2 RZ
def giRev (ga : GA) : GI := fun ρ w kx k => ga ρ w kx fun ds w1 => match ds with
  | [.lst xs] => k xs.reverse (fun _ => True) w1
  | _ => False
section
variable {X : Cx} {E : XK} {tg : Expr}
end
def gDisp1 (gk gv : GE) : GE := fun ρ w kx k => gk ρ ⟨w.M ++ [.dk []], w.n⟩ kx fun d w1 => keyK d fun q => gv ρ w1 kx fun v w2 => w2.M[w.M.length]? = some (.dk []) ∧ k (.rf w.M.length) ⟨w2.M.set w.M.length (.dk [(q, v)]), w2.n⟩
def mExtendC : FM := fun x ds w k => match x, ds with
  | .rf i, [.rf j] => cellK i w fun xs => cellK j w fun ys => xs.length + ys.length ≤ sizeLine ∧ k .non ⟨w.M.set i (.lst (xs ++ ys)), w.n⟩
  | _, _ => False
end DL

namespace DL
open PySem PySem.W PyProof.Rows
def Tg {α : Sort _} (x : α) : α := x
theorem run3 {α β γ : Type} {x : Option α} {f1 : α → Bool} {f2 : α → β} {f3 : α → γ} {c : β} {d : γ} (h1 : Tg (x.map f1) = some true) (h2 : Tg (x.map f2) = some c) (h3 : Tg (x.map f3) = some d) : x.map (fun s => (f1 s, f2 s, f3 s)) = some (true, c, d) := by
  unfold Tg at h1 h2 h3
  cases x with
  | none => simp at h1
  | some s =>
    simp only [Option.map_some, Option.some.injEq] at h1 h2 h3
    rw [Option.map_some, h1, h2, h3]
theorem run2 {α β γ : Type} {x : Option α} {f : α → β × γ} {c1 : β} {c2 : γ} (h1 : Tg (x.map fun s => (f s).1) = some c1) (h2 : Tg (x.map fun s => (f s).2) = some c2) : Tg (x.map f) = some (c1, c2) := by
  unfold Tg at h1 h2 ⊢
  cases x with
  | none => simp at h1
  | some s =>
    simp only [Option.map_some, Option.some.injEq] at h1 h2
    rw [Option.map_some, ← Prod.eta (f s), h1, h2]
theorem castE {P Q : Prop} (p : P) (h : P = Q) : Q := h ▸ p
def viewE : Program := { PySem.Challenge.rw_royaltree_k11_whole_units_parted.row.prog with main := { PySem.Challenge.rw_royaltree_k11_whole_units_parted.row.prog.main with body := (List.range 44).filterMap fun i => if [0, 7, 29].contains i then none else PySem.Challenge.rw_royaltree_k11_whole_units_parted.row.prog.main.body[i]? } }
noncomputable def runE (w : World) (os : OsState) := HeadRun.endF (HeadRun.stepQ (HeadRun.denQ HeadRun.tabQ) PySem.Challenge.rw_royaltree_k11_whole_units_parted.row.prog w) 2934 PySem.Challenge.rw_royaltree_k11_whole_units_parted.row.prog w os
noncomputable def seenE (s : Shared) := HeadRun.seenQ viewE [("MOST_UNITS" : PySem.Str)] (importedModules PySem.Challenge.rw_royaltree_k11_whole_units_parted.row.prog.main.body) (fun s => xlAt viewE [(("MOST_UNITS" : PySem.Str), .int 1000000)] s && recOk (RowW.records PySem.Challenge.rw_royaltree_k11_whole_units_parted.row.toRowW) s) s
theorem RE1 : ∀ (w : World) (os : OsState), Tg ((runE w os).map fun s => HeadRun.looksF PySem.Challenge.rw_royaltree_k11_whole_units_parted.row.prog (boot_heap w.params) s.abs) = some true := by
  intro w os
  kernel_rfl
theorem RE2 : ∀ (w : World) (os : OsState), Tg ((runE w os).map fun s => (seenE s.abs).1) = some (expectedOf viewE) := by
  intro w os
  kernel_rfl
theorem RE3 : ∀ (w : World) (os : OsState), Tg ((runE w os).map fun s => (seenE s.abs).2.1) = some (bltViewBooted) := by
  intro w os
  kernel_rfl
theorem RE4 : ∀ (w : World) (os : OsState), Tg ((runE w os).map fun s => (seenE s.abs).2.2.1) = some (true) := by
  intro w os
  kernel_rfl
theorem RE5 : ∀ (w : World) (os : OsState), Tg ((runE w os).map fun s => (seenE s.abs).2.2.2.1) = some (true) := by
  intro w os
  kernel_rfl
theorem RE6 : ∀ (w : World) (os : OsState), Tg ((runE w os).map fun s => (seenE s.abs).2.2.2.2.1) = some (pinGoodD (drecsOf viewE)) := by
  intro w os
  kernel_rfl
theorem RE7 : ∀ (w : World) (os : OsState), Tg ((runE w os).map fun s => (seenE s.abs).2.2.2.2.2.1) = some (plainGoodE viewE (looseW viewE [("MOST_UNITS" : PySem.Str)])) := by
  intro w os
  kernel_rfl
theorem RE8 : ∀ (w : World) (os : OsState), Tg ((runE w os).map fun s => (seenE s.abs).2.2.2.2.2.2.1) = some (plainGoodD viewE [("MOST_UNITS" : PySem.Str)]) := by
  intro w os
  kernel_rfl
theorem RE9 : ∀ (w : World) (os : OsState), Tg ((runE w os).map fun s => (seenE s.abs).2.2.2.2.2.2.2.1) = some (wideGood viewE) := by
  intro w os
  kernel_rfl
theorem RE10 : ∀ (w : World) (os : OsState), Tg ((runE w os).map fun s => (seenE s.abs).2.2.2.2.2.2.2.2) = some (clsGoodW viewE [("MOST_UNITS" : PySem.Str)]) := by
  intro w os
  kernel_rfl
end DL


namespace LW
open PySem PySem.Spec PyProof.Rows L2 RZ DL
local macro_rules | `(tactic| simp! only [$xs,*] $[$loc]?) => `(tactic| simp only [$xs,*, sem0,List.map_cons,List.map_nil,List.length_cons,List.length_nil,gSeq,gNext,gRet,gRetN,gIfS,gSet,gPar,gAsg,gDrop,gVar,gC,gBin,gUn,gB,gTru,gAnd,gOr,gNot,gAndV,gOrV,gNotV,gIf,gChain,gaNil,gaCons,DL.gTup,DL.gLst,gCB,gCall0,gAug,addD_i,addD_s,addD_l,addD_t,subD_i,mulD_i,mulD_l,fdivD_i,modD_i,powD_i,ltD_i,ltD_s,leD_i,gtD_i,geD_i,isD_n,isnotD_n,isNonD_non,isNonD_bl,isNonD_int,isNonD_str,isNonD_lst,isNonD_tup,negD_i,iaddD_i,truD_non,truD_bl,truD_int,truD_str,truD_lst,truD_tup,someK_some,ixD_l,ixD_t,fAbs_i,fInt_i,fInt_b,fMin2_i,fLen_l,fLen_t,fLen_s,fList_l,fList_t,fTuple_l,fTuple_t,optBK_some,fIsi_non,fIsi_bl,fIsi_int,fIsi_str,fIsi_lst,fIsi_tup,List.getElem?_cons_zero,List.getElem?_cons_succ,List.set_cons_zero,List.set_cons_succ,DL.ggName,ggNil0,ggCons1,ggTup2,ggTup3,gFor,giSeq,gLc,gYes,wipeR,true_and,and_true,at_0,at_1,at_2,kit_int_int,kit_bool_int,kit_str_int,kit_non_int,kit_list_int,kit_tuple_int,kit_int_bool,kit_bool_bool,kit_str_bool,kit_non_bool,kit_list_bool,kit_tuple_bool,kit_int_str,kit_bool_str,kit_str_str,kit_non_str,kit_list_str,kit_tuple_str,kit_int_list,kit_bool_list,kit_str_list,kit_non_list,kit_list_list,kit_tuple_list,kit_int_tuple,kit_bool_tuple,kit_str_tuple,kit_non_tuple,kit_list_tuple,kit_tuple_tuple,eqD_i,neD_i,eqD_s,neD_s,eqD_f,neD_f,Nat.zero_add,Nat.reduceAdd,nc0,nc1,nc2,nc3,nc4,nc5,nc6,nc7,nc8,nc9,eq_self,decide_true,decide_false,Int.reduceEq,Int.reduceLT,Int.reduceLE,Int.reduceNeg,Bool.not_true,Bool.not_false,Bool.false_eq_true,if_true,if_false,↓reduceIte,false_and,and_false,List.all_cons,List.all_nil,List.any_cons,List.any_nil,id_eq,Bool.and_true,Bool.true_and,Bool.or_false,Bool.false_or,Bool.and_false,Bool.false_and,gCut,eqD_b,neD_b,giZip,reduceCtorEq,Bool.true_eq_false,Bool.false_eq_true,gRevL,gSl,goNone,goSome,slD_l,ne_eq,not_false_eq_true,not_true_eq_false,gBM,isTy_l,isTy_s,new_at,new_set,isTy_new,cellK_new,append_new,popAt_new,gFrz_eq,frzK_new,fLen_new,fTuple_new,ixD_new,slA_l,slA_t,slA_new,addTD_t,addCD_l,mulCD_l,isbD_b,isnotbD_b,mSplitC_s,gLstC,gTr,ggSub,lstK_l,lstK_r,addLD_eq] $[$loc]?)
def topS (i : Nat) : Stmt := PySem.Challenge.pw_royaltree_k11_whole_units_parted.main.body.getD i (.Pass ⟨0, 0, 0, 0⟩)



theorem fmod_nat (x m : Nat) : (x : Int).fmod (m : Int) = ((x % m : Nat) : Int) := by
  rw [Int.fmod_eq_emod_of_nonneg _ (by omega)]
  rfl
def sg (t b : Int) : Int := if b < 0 then -(Int.gcd t b : Int) else (Int.gcd t b : Int)
def frT (t b : Int) : Int := t / sg t b
def frB (t b : Int) : Int := b / sg t b
structure IsFr (t b p q : Int) : Prop where
  pos : 0 < q
  cop : Int.gcd p q = 1
  eq : p * b = t * q
theorem gcd_pos {t b : Int} (h : b ≠ 0) : 0 < Int.gcd t b := Int.gcd_pos_of_ne_zero_right t h
theorem sg_dvd (t b : Int) : sg t b ∣ t ∧ sg t b ∣ b := by
  unfold sg
  split
  · exact ⟨Int.neg_dvd.mpr (Int.gcd_dvd_left t b), Int.neg_dvd.mpr (Int.gcd_dvd_right t b)⟩
  · exact ⟨Int.gcd_dvd_left t b, Int.gcd_dvd_right t b⟩
theorem sg_ne {t b : Int} (h : b ≠ 0) : sg t b ≠ 0 := by
  have := gcd_pos (t := t) h
  unfold sg
  split <;> omega
theorem fr_mul (t b : Int) : frT t b * sg t b = t ∧ frB t b * sg t b = b := ⟨Int.ediv_mul_cancel (sg_dvd t b).1, Int.ediv_mul_cancel (sg_dvd t b).2⟩
theorem fr_is {t b : Int} (h : b ≠ 0) : IsFr t b (frT t b) (frB t b) := by
  obtain ⟨e1, e2⟩ := fr_mul t b
  have g0 := gcd_pos (t := t) h
  have ns := sg_ne (t := t) h
  refine ⟨?_, ?_, ?_⟩
  · by_cases hb : b < 0
    · have hs : sg t b < 0 := by
        unfold sg
        rw [if_pos hb]
        omega
      refine Int.pos_of_mul_neg_right ?_ hs |> fun z => z
      rw [Int.mul_comm, e2]
      exact hb
    · have hs : 0 < sg t b := by
        unfold sg
        rw [if_neg hb]
        omega
      refine Int.pos_of_mul_pos_right ?_ hs |> fun z => z
      rw [Int.mul_comm, e2]
      omega
  · have e : Int.gcd t b = Int.gcd (frT t b) (frB t b) * (sg t b).natAbs := by
      have q : Int.gcd (frT t b * sg t b) (frB t b * sg t b) = Int.gcd (frT t b) (frB t b) * (sg t b).natAbs := Int.gcd_mul_right _ _ _
      rw [e1, e2] at q
      exact q
    have e3 : (sg t b).natAbs = Int.gcd t b := by
      unfold sg
      split <;> omega
    rw [e3] at e
    have : Int.gcd (frT t b) (frB t b) * Int.gcd t b = 1 * Int.gcd t b := by omega
    exact Nat.eq_of_mul_eq_mul_right g0 this
  · have : frT t b * b * sg t b = t * frB t b * sg t b := by
      calc frT t b * b * sg t b = (frT t b * sg t b) * b := by ac_rfl
        _ = t * b := by rw [e1]
        _ = t * (frB t b * sg t b) := by rw [e2]
        _ = t * frB t b * sg t b := by ac_rfl
    exact Int.eq_of_mul_eq_mul_right ns this
theorem dvd_cop {q p r : Int} (h : q ∣ p * r) (c : Int.gcd q p = 1) : q ∣ r := by
  have h1 : q.natAbs ∣ p.natAbs * r.natAbs := by
    rw [← Int.natAbs_mul]
    exact Int.natAbs_dvd_natAbs.mpr h
  have c1 : Nat.Coprime q.natAbs p.natAbs := c
  exact Int.natAbs_dvd_natAbs.mp (c1.dvd_of_dvd_mul_left h1)
theorem fr_unique {t b p q p' q' : Int} (hb : b ≠ 0) (h : IsFr t b p q) (h' : IsFr t b p' q') : p = p' ∧ q = q' := by
  have c : p * q' = p' * q := by
    have : p * q' * b = p' * q * b := by
      calc p * q' * b = (p * b) * q' := by ac_rfl
        _ = t * q * q' := by rw [h.eq]
        _ = (t * q') * q := by ac_rfl
        _ = (p' * b) * q := by rw [h'.eq]
        _ = p' * q * b := by ac_rfl
    exact Int.eq_of_mul_eq_mul_right hb this
  have d1 : q ∣ q' := by
    have : q ∣ p * q' := ⟨p', by rw [c, Int.mul_comm]⟩
    exact dvd_cop this (by rw [Int.gcd_comm]; exact h.cop)
  have d2 : q' ∣ q := by
    have : q' ∣ p' * q := ⟨p, by rw [← c, Int.mul_comm]⟩
    exact dvd_cop this (by rw [Int.gcd_comm]; exact h'.cop)
  have e : q = q' := Int.dvd_antisymm (Int.le_of_lt h.pos) (Int.le_of_lt h'.pos) d1 d2
  refine ⟨?_, e⟩
  subst e
  have := h.pos
  exact Int.eq_of_mul_eq_mul_right (by omega) c
theorem fr_eq {t b p q : Int} (hb : b ≠ 0) (h : IsFr t b p q) : frT t b = p ∧ frB t b = q := fr_unique hb (fr_is hb) h
theorem IsFr.self {p q : Int} (h1 : 0 < q) (h2 : Int.gcd p q = 1) : IsFr p q p q := ⟨h1, h2, rfl⟩
theorem fr_le {t b : Int} (hb : b ≠ 0) : (frT t b).natAbs ≤ t.natAbs ∧ (frB t b).natAbs ≤ b.natAbs := by
  obtain ⟨e1, e2⟩ := fr_mul t b
  have ns := sg_ne (t := t) hb
  have h1 : 1 ≤ (sg t b).natAbs := by omega
  have f1 := congrArg Int.natAbs e1
  have f2 := congrArg Int.natAbs e2
  rw [Int.natAbs_mul] at f1 f2
  constructor
  · calc (frT t b).natAbs = (frT t b).natAbs * 1 := by omega
      _ ≤ (frT t b).natAbs * (sg t b).natAbs := Nat.mul_le_mul_left _ h1
      _ = t.natAbs := f1
  · calc (frB t b).natAbs = (frB t b).natAbs * 1 := by omega
      _ ≤ (frB t b).natAbs * (sg t b).natAbs := Nat.mul_le_mul_left _ h1
      _ = b.natAbs := f2
theorem sg_abs (t b : Int) : (sg t b).natAbs = Int.gcd t b := by
  unfold sg
  split <;> omega
theorem gcd_le {t b : Int} (hb : b ≠ 0) : Int.gcd t b ≤ b.natAbs := Nat.le_of_dvd (by omega) (Int.natAbs_dvd_natAbs.mpr (Int.gcd_dvd_right t b) |> fun z => by simpa using z)
theorem log_ok {n : Nat} (h : n < 2 ^ 8990) : n.log2 < 9000 := Nat.lt_trans (PySem.Flt.log2_lt_of (by decide) h) (by decide)
theorem fdiv_dvd {t s : Int} (h : s ∣ t) : t.fdiv s = t / s := Int.fdiv_eq_ediv_of_dvd h

def sp__law_take : GF := gTake
def sp__law_begin : GF := gBegin
abbrev s__law_begin : Stmt := topS 30
theorem sc__law_begin : FnScope ["_law_script", "_law_cells"] ["_law_script"] (defScope s__law_begin) := ⟨rfl, rfl, rfl, by decide +kernel, rfl, by decide +kernel, by decide +kernel⟩

theorem ok__law_begin {P : Program} {w : World} {K : PySem.W.Frag} {mg : Str → Option Value} {base : Heap} (T : DefAt K mg "_law_begin" s__law_begin ["_law_script"]) (B : Blt mg) : FnAt P w K mg base CX0 1 "_law_begin" 1 gBegin := by
  have nd := sc__law_begin.nd
  refine T.mk0 fun f fd F => F.ok sc__law_begin (fun vs H Q E h => ?_) (fun cdv A outer s H vs Q E hr h => ?_)
  · obtain ⟨G, S, ds, w, kx, k, h1, h2, h3, _⟩ := h
    rw [h3.length, h1]
    rfl
  · obtain ⟨G, S, ds, w, kx, k, h1, h2, h3, h4, h5, ns, rfl, hn, hk⟩ := h
    obtain ⟨v, rfl, r⟩ := one_rep h3
    cases r with
    | scr hS =>
      rename_i a
      have hS1 := h2.same.seq hS
      refine ⟨_, pss_cons (ps_set (i := 1) nd rfl (by first | exact Or.inl rfl | exact Or.inr rfl) (pe_callTy call_list_of (by rfl) B.list_ (by decide +kernel) (pa_cons (pe_slice sl_list (pv 0) po_none (po_some pe_int)) pa_nil)))
        (pss_cons (ps_if (pt_cmpR (op_eqD hr.units) (pv 1) (pe_lst pa_nil) (nomark _)) (pss_one (ps_set (i := 1) nd rfl (by first | exact Or.inl rfl | exact Or.inr rfl) (pe_lst (pa_cons pe_int pa_nil)))) pss_nil)
        (pss_one (ps_ret (pe_disp (pps_cons pe_str (pv 1) (pps_cons pe_str pe_int pps_nil)) (by rfl) (by rfl) (by intro z; cases z) (by decide))))), ?_⟩
      -- list(script[:63])
      refine ⟨.ref a, rfl, 63, rfl, a, ns.map V.int, rfl, hS1, fun c1 n1 => ?_⟩
      refine ⟨c1, _, rfl, .inl (.inl (.inl upd_same)), fun c n2 => ?_⟩
      have cv : cutV (ns.map V.int) none (some 63) = (ns.take 63).map V.int := by
        unfold cutV
        rw [HT.sIx_none, show (some (63 : Int)) = some ((63 : Nat) : Int) from rfl, HT.sIx_nat, List.drop_zero, List.map_take, List.length_map, Nat.sub_zero]
        rcases Nat.le_total 63 ns.length with hle | hle
        · rw [Nat.min_eq_left hle]
        · rw [Nat.min_eq_right hle, List.take_of_length_le (by rw [List.length_map]; exact Nat.le_refl _), List.take_of_length_le (by rw [List.length_map]; exact hle)]
      rw [cv] at n2 ⊢
      have hlen : (ns.take 63).length ≤ 63 := by
        rw [List.length_take]
        exact Nat.min_le_left _ _
      clear cv
      generalize ns.take 63 = l at n2 hlen ⊢
      have nc1 : H c1 = none := n1
      have nc : (upd H c1 (.lst (l.map V.int))) c = none := n2
      have nc0 : H c = none := by
        rw [upd_ne] at nc
        · exact nc
        · intro z
          rw [z, upd_same] at nc
          cases nc
      -- the same heap but the copies
      have fin : ∀ (H3 : Hp) (c : Addr) (cells : List Int), Same H H3 → H c = none → H3 c = some (.lst (cells.map V.int)) → cells ≠ [] → cells.length ≤ 63 → HR K G S w H3 →
          (tRet (tDisp [(tC (.str "cells"), tVar 1), (tC (.str "turn"), tC (.int 0))])) { nx := fun _ H' => Q .non H', rt := Q } [some (.ref a), some (.ref c)] H3 := by
        intro H3 c cells sm hc0 hc3 hne hl63 hr3 p hp
        refine ⟨.ref c, rfl, upd_same, [(.inr "cells", .ref c), (.inr "turn", .int 0)], rfl, (by show 2 ≤ 15; decide), ?_⟩
        have em : mergeK [] [((Sum.inr ("cells" : Str) : Key), V.ref c), ((Sum.inr ("turn" : Str) : Key), V.int 0)] = stKv c 0 := by
          show putK (putK [] (Sum.inr ("cells" : Str) : Key) (V.ref c)) (Sum.inr ("turn" : Str) : Key) (V.int 0) = stKv c 0
          rw [putK_new (V.ref c) (valV_nil), List.nil_append, putK_new (V.int 0) (by rw [valV_neg key_ne, valV_nil])]
          rfl
        have ncp : c ≠ p := ne_of_none hc3 hp
        have e1 : upd (upd H3 p (.dK [])) p (.dK (mergeK [] [((Sum.inr ("cells" : Str) : Key), V.ref c), ((Sum.inr ("turn" : Str) : Key), V.int 0)])) = upd H3 p (.dK (stKv c 0)) := by
          rw [upd_upd, em]
        show Q (.ref p) (upd (upd H3 p (.dK [])) p (.dK (mergeK [] [((Sum.inr ("cells" : Str) : Key), V.ref c), ((Sum.inr ("turn" : Str) : Key), V.int 0)])))
        rw [e1]
        have hr4 := (hr3.push (o := .dK (stKv c 0)) hp).1
        -- out of the frame again
        have hr5 : HR K G S w (upd H3 p (.dK (stKv c 0))) := ⟨hr4.same, hr4.len, hr4.nod, fun i b cc e1 e2 => by
            have q := hr3.cell i b cc e1 e2
            exact q.mono (Ext.refl _ _) (upd_ne (fun z => hr3.freshAl hp (z ▸ List.mem_of_getElem? e1))) q.sNone, ⟨hr4.st.1, fun b cc e => by
            obtain ⟨y1, y2, y3, y4, y5, y6, y7⟩ := hr4.st.2 b cc e
            exact ⟨y1, y2, y3, y4, y5, fun q hq => y6 q (List.mem_cons_of_mem _ hq), y7⟩⟩, fun q hq => by
            obtain ⟨y1, y2, y3⟩ := hr3.fr q hq
            exact ⟨y1, y2, by rw [upd_ne (hr3.freshFr hp q hq)]; exact y3⟩⟩
        obtain ⟨hr6, x6⟩ := hr5.made hn (c := c) (a := p) (cells := cells) (by rw [upd_ne ncp]; exact hc3) ⟨h2.freshS hc0, h2.freshAl hc0, h2.freshFr hc0⟩ upd_same ⟨hr3.freshS hp, hr3.freshAl hp, hr3.freshFr hp⟩ ncp.symm hne hl63
        exact h5 _ _ _ _ _ _ x6 hr6 (.st rfl) hk
      have hrN : ∀ {H3 : Hp} {p : Addr} {o : HO}, HR K G S w H3 → H3 p = none → HR K G S w (upd H3 p o) := fun {H3 p o} hr3 hp => by
        have hr4 := (hr3.push (o := o) hp).1
        exact ⟨hr4.same, hr4.len, hr4.nod, fun i b cc e1 e2 => by
            have q := hr3.cell i b cc e1 e2
            exact q.mono (Ext.refl _ _) (upd_ne (fun z => hr3.freshAl hp (z ▸ List.mem_of_getElem? e1))) q.sNone, ⟨hr4.st.1, fun b cc e => by
            obtain ⟨y1, y2, y3, y4, y5, y6, y7⟩ := hr4.st.2 b cc e
            exact ⟨y1, y2, y3, y4, y5, fun q hq => y6 q (List.mem_cons_of_mem _ hq), y7⟩⟩, fun q hq => by
            obtain ⟨y1, y2, y3⟩ := hr3.fr q hq
            exact ⟨y1, y2, by rw [upd_ne (hr3.freshFr hp q hq)]; exact y3⟩⟩
      have hr1 := hrN (o := .lst (l.map V.int)) h2 nc1
      have hr2 := hrN (o := .lst (l.map V.int)) hr1 nc
      have sm1 : Same H (upd (upd H c1 (.lst (l.map V.int))) c (.lst (l.map V.int))) := fun b o e => by
        rw [upd_ne (ne_of_none e nc0), upd_ne (ne_of_none e nc1)]
        exact e
      have dp : ∀ (l : List Int) (H3 : Hp) (b : Addr), H3 b = some (.lst (l.map V.int)) → Dp K H3 (.ref b) (.list (l.map PyData.int)) := fun l H3 b e => by
        refine .lst (.inl (.inl e)) ?_
        clear e
        induction l with
        | nil => exact .nil
        | cons x r ih => exact .cons (.int x) ih
      -- cells == []
      refine ⟨.ref c, rfl, Nat.zero_le _, fun e n3 => ?_⟩
      have nce : c ≠ e := fun z => by
        have q := n3
        rw [← z, upd_same] at q
        cases q
      have hc3 : (upd (upd (upd H c1 (.lst (l.map V.int))) c (.lst (l.map V.int))) e (.lst [])) c = some (.lst (l.map V.int)) := by
        rw [upd_ne nce, upd_same]
      have hr3 := hrN (o := .lst []) hr2 n3
      have sm2 : Same H (upd (upd (upd H c1 (.lst (l.map V.int))) c (.lst (l.map V.int))) e (.lst [])) := fun b o eb => by
        rw [upd_ne (ne_of_none (sm1 b o eb) n3)]
        exact sm1 b o eb
      refine ⟨_, _, dp l _ c hc3, dp [] _ e upd_same, ?_, rfl, _, rfl, ?_⟩
      · exact shaped_ints _
      · cases l with
        | nil =>
          refine iteT ⟨by decide, fun d n4 => ?_⟩
          refine fin _ d [7] (fun b o eb => ?_) ?_ upd_same (by intro z; cases z) (by decide) (hrN hr3 n4)
          · rw [upd_ne (ne_of_none (sm2 b o eb) n4)]
            exact sm2 b o eb
          · cases q : H d with
            | none => rfl
            | some o =>
              have := sm2 d o q
              rw [n4] at this
              cases this
        | cons x r =>
          exact iteF (fin _ c (x :: r) sm2 nc0 hc3 (by intro z; cases z) hlen hr3)

abbrev s__law_take : Stmt := topS 31
theorem sc__law_take : FnScope ["_law_state", "_law_many", "_law_turn", "_law_place", "_law_cell", "_law_digit", "_law_mixed"] ["_law_state", "_law_many"] (defScope s__law_take) := ⟨rfl, rfl, rfl, by decide +kernel, rfl, by decide +kernel, by decide +kernel⟩

theorem ok__law_take {P : Program} {w : World} {K : PySem.W.Frag} {mg : Str → Option Value} {base : Heap} (T : DefAt K mg "_law_take" s__law_take ["_law_state", "_law_many"]) (B : Blt mg) : FnAt P w K mg base CX0 1 "_law_take" 2 gTake := by
  have nd := sc__law_take.nd
  refine T.mk0 fun f fd F => F.ok sc__law_take (fun vs H Q E h => ?_) (fun cdv A outer s H vs Q E hr h => ?_)
  · obtain ⟨G, S, ds, w, kx, k, h1, h2, h3, _⟩ := h
    rw [h3.length, h1]
    rfl
  · obtain ⟨G, S, ds, w, kx, k, h1, h2, h3, h4, h5, m, n, rfl, ⟨hm0, hm9⟩, hn, hk⟩ := h
    obtain ⟨v, u, rfl, r1, r2⟩ := two_rep h3
    cases r2
    cases r1 with
    | st hst =>
      rename_i a c
      obtain ⟨z1, z2, z3, z4, z5, z6, cells, turn, ha, hc, hne, hl63, ht0, htn⟩ := h2.st.2 a c hst
      rw [hn] at htn
      have htn' : turn + ((n + 1 : Nat) : Int) ≤ 1000000000 := htn
      have hu := hu_of hr
      have ha' : H a = some (.dK (stKv c turn)) := ha
      refine ⟨_, pss_cons (ps_set (i := 2) nd rfl (by first | exact Or.inl rfl | exact Or.inr rfl) (pe_op op_add (pe_dget hu (pv 0) pe_str (fun _ _ => rfl)) pe_int))
        (pss_cons (ps_dput hu (pv 0) pe_str (pv 2) (by rfl))
        (pss_cons (ps_set (i := 3) nd rfl (by first | exact Or.inl rfl | exact Or.inr rfl) (pe_op op_mod (pv 2) (pe_callB call_len_seq (by rfl) B.len_ PySem.boot_len (pa_cons (pe_dget hu (pv 0) pe_str (fun _ _ => rfl)) pa_nil))))
        (pss_cons (ps_set (i := 4) nd rfl (by first | exact Or.inl rfl | exact Or.inr rfl) (pe_ix ix_list (pe_dget hu (pv 0) pe_str (fun _ _ => rfl)) (pv 3) (fun _ _ => rfl)))
        (pss_cons (ps_if (pt_cmpR op_ge (pv 4) (pe_op op_pow pe_int pe_int) (nomark _))
          (pss_cons (ps_asg (pe_callB call_divmodW (by rfl) B.divmod_ (by decide +kernel) (pa_cons (pv 4) (pa_cons (pv 1) pa_nil))) (pg_tup rfl (pgs_cons (pg_sub (pe_dget hu (pv 0) pe_str (fun _ _ => rfl)) (pv 3) set_list) (pgs_cons (pg_name (i := 5) nd rfl (by first | exact Or.inl rfl | exact Or.inr rfl)) pgs_nil))))
            (pss_one (ps_ret (pv 5)))) pss_nil)
        (pss_cons (ps_set (i := 6) nd rfl (by first | exact Or.inl rfl | exact Or.inr rfl) (pe_op op_mod (pe_op op_mulX (pe_op op_add (pe_op op_add (pe_op op_mod (pv 4) pe_int) (pe_op op_mulX (pe_op op_mulX (pv 2) (pv 2)) pe_int)) pe_int) pe_int) pe_int))
        (pss_cons (ps_set (i := 6) nd rfl (by first | exact Or.inl rfl | exact Or.inr rfl) (pe_op op_mod (pe_op op_mulX (pv 6) (pv 6)) pe_int))
        (pss_one (ps_ret (pe_op op_mod (pe_op op_fdiv (pe_op op_mod (pe_op op_mulX (pe_op op_add (pv 6) (pe_op op_mulX (pv 2) pe_int)) pe_int) pe_int) pe_int) (pv 1)))))))))), ?_⟩
      have gT : DGet H a (.str "turn") (some (.int turn)) := by
        have q := DGet.k (k := .inr "turn") ha'
        rw [st_turn] at q
        exact q
      -- turn = state['turn'] + 1; state['turn'] = turn
      refine ⟨.ref a, rfl, a, .int turn, rfl, gT, turn, 1, rfl, rfl, ?_⟩
      refine ⟨.int (turn + 1), rfl, .ref a, rfl, a, _, rfl, DPut.k (k := .inr "turn") ha' (by show 2 < sizeLine; decide), ?_⟩
      rw [st_put]
      have hr1 : HR K G S ⟨w.M, some n⟩ (upd H a (.dK (stKv c (turn + 1)))) := h2.drawn hst (fun b b1 _ => upd_ne b1) upd_same (by rw [upd_ne (Ne.symm z3)]; exact hc) hne hl63 (by omega) (by omega)
      have ea1 : (upd H a (.dK (stKv c (turn + 1)))) a = some (.dK (stKv c (turn + 1))) := upd_same
      have ec1 : (upd H a (.dK (stKv c (turn + 1)))) c = some (.lst (cells.map V.int)) := by
        rw [upd_ne (Ne.symm z3)]
        exact hc
      generalize upd H a (.dK (stKv c (turn + 1))) = H1 at hr1 ea1 ec1
      have gC : ∀ {H2 : Hp}, H2 a = some (.dK (stKv c (turn + 1))) → DGet H2 a (.str "cells") (some (.ref c)) := fun {H2} e => by
        have q := DGet.k (k := .inr "cells") e
        rw [st_cells] at q
        exact q
      have hlc : 0 < cells.length := List.length_pos_iff.mpr hne
      -- place = turn % len(state['cells'])
      refine ⟨.int (turn + 1), rfl, .ref a, rfl, a, _, rfl, gC ea1, c, _, rfl, .inl (.inl (.inl ec1)), turn + 1, _, rfl, rfl, by rw [List.length_map]; omega, ?_⟩
      rw [List.length_map]
      obtain ⟨j, hj, hjl⟩ : ∃ j : Nat, (turn + 1) % (cells.length : Int) = (j : Int) ∧ j < cells.length := by
        have p1 := Int.emod_nonneg (turn + 1) (b := (cells.length : Int)) (by omega)
        have p2 := Int.emod_lt_of_pos (turn + 1) (b := (cells.length : Int)) (by omega)
        exact ⟨((turn + 1) % (cells.length : Int)).toNat, by omega, by omega⟩
      dsimp only
      rw [hj]
      have hcj : (cells.map V.int)[j]? = some (.int cells[j]) := by
        rw [List.getElem?_map, List.getElem?_eq_getElem hjl]
        rfl
      generalize hcell : cells[j] = cell at hcj
      -- cell = state['cells'][place]
      refine ⟨.ref a, rfl, a, _, rfl, gC ea1, .int (j : Int), rfl, c, _, (j : Int), _, rfl, rfl, .inl (.inl ec1), atI_nat hcj, ?_⟩
      refine ⟨.int cell, rfl, 10, 18, rfl, rfl, ⟨by decide, by decide, by decide⟩, cell, _, rfl, rfl, _, rfl, ite2 (fun _ => ?_) (fun _ => ?_)⟩
      · -- a digit
        refine ⟨.int cell, rfl, .int m, rfl, cell, m, rfl, ⟨hm0, PyProof.noPylong_of_log2 hm9⟩, fun p hp => ?_⟩
        obtain ⟨hr2, x2⟩ := hr1.newS hp (.tup [.int (cell / m), .int (cell % m)])
        have nap : a ≠ p := ne_of_none ea1 hp
        have ncp : c ≠ p := ne_of_none ec1 hp
        have ea2 : (upd H1 p (.tup [.int (cell / m), .int (cell % m)])) a = some (.dK (stKv c (turn + 1))) := by
          rw [upd_ne nap]
          exact ea1
        have ec2 : (upd H1 p (.tup [.int (cell / m), .int (cell % m)])) c = some (.lst (cells.map V.int)) := by
          rw [upd_ne ncp]
          exact ec1
        have ep2 : (upd H1 p (.tup [.int (cell / m), .int (cell % m)])) p = some (.tup [.int (cell / m), .int (cell % m)]) := upd_same
        refine ⟨p, [.int (cell / m), .int (cell % m)], rfl, .inl (.inl upd_same), rfl, ?_⟩
        generalize upd H1 p (.tup [.int (cell / m), .int (cell % m)]) = H2 at hr2 ea2 ec2 ep2
        refine ⟨_, _, rfl, .ref a, rfl, a, _, rfl, gC ea2, .int (j : Int), rfl, c, _, (j : Int), j, rfl, rfl, ec2, ?_, ?_⟩
        · show L2.ixN _ (j : Int) = some j
          unfold L2.ixN
          rw [if_pos (by omega), if_pos (by rw [List.length_map]; omega)]
          rfl
        refine ⟨_, _, rfl, rfl, .int (cell % m), rfl, ?_⟩
        have es : (cells.map V.int).set j (.int (cell / m)) = (cells.set j (cell / m)).map V.int := by rw [List.map_set]
        have hst2 : (⟨G.al, G.st, G.fr⟩ : Gh).st = some (a, c) := hst
        have hr3 : HR K G (upd S p (.tup [.int (cell / m), .int (cell % m)])) ⟨w.M, some n⟩ (upd H2 c (.lst ((cells.set j (cell / m)).map V.int))) :=
          hr2.drawn hst (fun b _ b2 => upd_ne b2) (by rw [upd_ne z3]; exact ea2) upd_same (by intro z; have := congrArg List.length z; rw [List.length_set] at this; simp at this; exact hne this) (by rw [List.length_set]; exact hl63) (by omega) (by omega)
        rw [es]
        exact h5 _ _ _ _ _ _ x2 hr3 (.int _) (hk _ (Int.emod_nonneg _ (by omega)) (Int.emod_lt_of_pos _ hm0))
      · have a0 := Int.emod_nonneg cell (b := 2147483629) (by decide)
        have a1 := Int.emod_lt_of_pos cell (b := 2147483629) (by decide)
        have t1 : (turn + 1).natAbs < 2 ^ 30 := by omega
        have t2 : ((turn + 1) * (turn + 1)).natAbs < 2 ^ 60 := wide_lt (a := 30) (b := 30) t1 t1
        have t3 : ((turn + 1) * (turn + 1) * 7919).natAbs < 2 ^ 73 := wide_lt (a := 60) (b := 13) t2 (by decide)
        refine ⟨.int cell, rfl, cell, 2147483629, rfl, rfl, (by show (0 : Int) < 2147483629; decide), .int (turn + 1), rfl, .int (turn + 1), rfl, turn + 1, turn + 1, rfl, rfl, mulx_ok t1 t1 (by decide), _, 7919, rfl, rfl, mulx_ok (a := 60) (b := 13) t2 (by decide) (by decide), _, _, rfl, rfl, _, 11, rfl, rfl, _, 48271, rfl, rfl, mulx_ok (a := 75) (b := 16) ?_ (by decide) (by decide), _, 2147483647, rfl, rfl, (by show (0 : Int) < 2147483647; decide), ?_⟩
        · generalize cell % 2147483629 = A at a0 a1 ⊢
          generalize (turn + 1) * (turn + 1) * 7919 = B at t3 ⊢
          omega
        dsimp only
        have b0 := Int.emod_nonneg ((cell % 2147483629 + (turn + 1) * (turn + 1) * 7919 + 11) * 48271) (b := 2147483647) (by decide)
        have b1 := Int.emod_lt_of_pos ((cell % 2147483629 + (turn + 1) * (turn + 1) * 7919 + 11) * 48271) (b := 2147483647) (by decide)
        generalize (cell % 2147483629 + (turn + 1) * (turn + 1) * 7919 + 11) * 48271 % 2147483647 = M1 at b0 b1 ⊢
        refine ⟨.int M1, rfl, .int M1, rfl, M1, M1, rfl, rfl, mulx_ok (a := 32) (b := 32) (by omega) (by omega) (by decide), _, 2147483587, rfl, rfl, (by show (0 : Int) < 2147483587; decide), ?_⟩
        dsimp only
        have c0 := Int.emod_nonneg (M1 * M1) (b := 2147483587) (by decide)
        have c1 := Int.emod_lt_of_pos (M1 * M1) (b := 2147483587) (by decide)
        generalize M1 * M1 % 2147483587 = M2 at c0 c1 ⊢
        refine ⟨.int M2, rfl, .int (turn + 1), rfl, turn + 1, 104729, rfl, rfl, mulx_ok (b := 17) t1 (by decide) (by decide), M2, _, rfl, rfl, _, 39373, rfl, rfl, mulx_ok (a := 64) (b := 16) (by omega) (by decide) (by decide), _, 2147483629, rfl, rfl, (by show (0 : Int) < 2147483629; decide), _, 64, rfl, rfl, ⟨by decide, by decide⟩, .int m, rfl, _, m, rfl, rfl, hm0, ?_⟩
        exact h5 _ _ _ _ _ _ (Ext.refl _ _) hr1 (.int _) (hk _ (Int.emod_nonneg _ (by omega)) (Int.emod_lt_of_pos _ hm0))

def sp__law_same : GF := gSame 8
abbrev s__law_same : Stmt := topS 32
theorem sc__law_same : FnScope ["_law_found", "_law_due", "_law_one", "_law_other"] ["_law_found", "_law_due"] (defScope s__law_same) := ⟨rfl, rfl, rfl, by decide +kernel, rfl, by decide +kernel, by decide +kernel⟩
def g__law_same (sp_rec : GF) : GS := (gSeq (gIfS (gB (gBin isD (gVar 1) (gC .non))) (gRet (gBin isD (gVar 0) (gC .non))) gNext)
  (gSeq (gIfS (gOr (gTru (gCB fIsi (gaCons (gVar 1) (gaCons (gC (.ob (.ty "list"))) gaNil)))) (gTru (gCB fIsi (gaCons (gVar 1) (gaCons (gC (.ob (.ty "tuple"))) gaNil))))) (gSeq (gIfS (gB (gBin neD (gCB fIsi (gaCons (gVar 0) (gaCons (gC (.ob (.ty "list"))) gaNil))) (gCB fIsi (gaCons (gVar 1) (gaCons (gC (.ob (.ty "list"))) gaNil))))) (gRet (gC (.bl false))) gNext)
  (gSeq (gIfS (gOr (gB (gBin neD (gCB fIsi (gaCons (gVar 0) (gaCons (gC (.ob (.ty "tuple"))) gaNil))) (gCB fIsi (gaCons (gVar 1) (gaCons (gC (.ob (.ty "tuple"))) gaNil))))) (gB (gBin neD (gCB fLen (gaCons (gVar 0) gaNil)) (gCB fLen (gaCons (gVar 1) gaNil))))) (gRet (gC (.bl false))) gNext)
  (gRet (gCB fAll (gaCons (gLc (giZip (gaCons (gVar 0) (gaCons (gVar 1) gaNil))) (ggTup 2 (ggCons (ggName 2) (ggCons (ggName 3) ggNil))) gYes (gCall0 2 sp_rec (gaCons (gVar 2) (gaCons (gVar 3) gaNil))) [2, 3]) gaNil))))) gNext)
  (gSeq (gIfS (gTru (gCB fIsi (gaCons (gVar 1) (gaCons (gC (.ob (.ty "str"))) gaNil)))) (gRet (gAndV (gCB fIsi (gaCons (gVar 0) (gaCons (gC (.ob (.ty "str"))) gaNil))) (gBin eqD (gVar 0) (gVar 1)))) gNext)
  (gRet (gAndV (gCB fIsi (gaCons (gVar 0) (gaCons (gC (.ob (.ty "int"))) gaNil))) (gAndV (gNotV (gCB fIsi (gaCons (gVar 0) (gaCons (gC (.ob (.ty "bool"))) gaNil)))) (gBin eqD (gVar 0) (gVar 1))))))))
theorem w__law_same {P : Program} {w : World} {K : PySem.W.Frag} {mg : Str → Option Value} {base : Heap} (T : DefAt K mg "_law_same" s__law_same ["_law_found", "_law_due"]) (B : Blt mg) {j : Nat} {sp_rec : GF} (F_rec : FnAt P w K mg base CX0 j "_law_same" 2 sp_rec) : FnAt P w K mg base CX0 (j + 1) "_law_same" 2 (sem0 4 (g__law_same sp_rec)) := by
  have nd := sc__law_same.nd
  exact T.fn0 sc__law_same (fun f cdv A outer s H E hr => (dss_cons (ds_if (dt_is (de_var 1) de_non) (dss_one (ds_ret (de_is (de_var 0) de_non))) dss_nil)
  (dss_cons (ds_if (dt_w (dw_or (dt_truth (de_isi B (by rfl) (da_cons (de_var 1) (da_cons (de_type (by rfl) B.list_ (by decide +kernel)) da_nil)))) (dw_or1 (dt_truth (de_isi B (by rfl) (da_cons (de_var 1) (da_cons (de_type (by rfl) B.tuple_ (by decide +kernel)) da_nil))))))) (dss_cons (ds_if (dt_ne hr (de_isi B (by rfl) (da_cons (de_var 0) (da_cons (de_type (by rfl) B.list_ (by decide +kernel)) da_nil))) (de_isi B (by rfl) (da_cons (de_var 1) (da_cons (de_type (by rfl) B.list_ (by decide +kernel)) da_nil)))) (dss_one (ds_ret de_bl)) dss_nil)
  (dss_cons (ds_if (dt_w (dw_or (dt_ne hr (de_isi B (by rfl) (da_cons (de_var 0) (da_cons (de_type (by rfl) B.tuple_ (by decide +kernel)) da_nil))) (de_isi B (by rfl) (da_cons (de_var 1) (da_cons (de_type (by rfl) B.tuple_ (by decide +kernel)) da_nil)))) (dw_or1 (dt_ne hr (de_len B (by rfl) (da_cons (de_var 0) da_nil)) (de_len B (by rfl) (da_cons (de_var 1) da_nil)))))) (dss_one (ds_ret de_bl)) dss_nil)
  (dss_one (ds_ret (de_all B rfl (by rfl) (da_cons (de_lc (own := [("_law_one", 2), ("_law_other", 3)]) (us := [2, 3]) rfl nd (di_zip B (by rfl) (da_cons (de_var 0) (da_cons (de_var 1) da_nil))) (blkOk_by (N := ["_law_found", "_law_due", "_law_one", "_law_other"]) (sc := defScope s__law_same) (by decide +kernel)) (by decide) (fun _ _ _ _ _ => (dg_tup rfl (dgs_cons (dg_name (i := 2) nd rfl (by first | exact Or.inl rfl | exact Or.inr rfl)) (dgs_cons (dg_name (i := 3) nd rfl (by first | exact Or.inl rfl | exact Or.inr rfl)) dgs_nil)))) (fun _ _ _ _ _ => dts_nil) (fun _ _ _ _ _ => (de_call0 F_rec hr (by rfl) (da_cons (de_var 2) (da_cons (de_var 3) da_nil)) (hjk := Nat.le_refl _)))) da_nil)))))) dss_nil)
  (dss_cons (ds_if (dt_truth (de_isi B (by rfl) (da_cons (de_var 1) (da_cons (de_type (by rfl) B.str_ (by decide +kernel)) da_nil)))) (dss_one (ds_ret (de_and (de_isi B (by rfl) (da_cons (de_var 0) (da_cons (de_type (by rfl) B.str_ (by decide +kernel)) da_nil))) (de_one (de_eq hr (de_var 0) (de_var 1)))))) dss_nil)
  (dss_one (ds_ret (de_and (de_isi B (by rfl) (da_cons (de_var 0) (da_cons (de_type (by rfl) B.int_ (by decide +kernel)) da_nil))) (de_and (de_not (de_isi B (by rfl) (da_cons (de_var 0) (da_cons (de_type (by rfl) B.bool_ (by decide +kernel)) da_nil)))) (de_one (de_eq hr (de_var 0) (de_var 1)))))))))))

theorem v__law_same (j : Nat) : ∀ ds w kx k, gSame (j + 1) ds w kx k → sem0 4 (g__law_same (gSame j)) ds w kx k := by
  rintro ds w kx k ⟨a, b, rfl, ⟨ha, hb, hd, wa, wb⟩, hk⟩
  have e : rho 4 [a, b] = [some a, some b, none, none] := rfl
  simp! only [g__law_same, e]
  have hT : ∀ {w' : Wd}, w' = w → a = b → k (.bl true) w' := fun hw h => hw ▸ hk true (by simp [h])
  have hF : ∀ {w' : Wd}, w' = w → a ≠ b → k (.bl false) w' := fun hw h => hw ▸ hk false (by simp [h])
  cases b with
  | non =>
    simp! only [id_eq]
    cases a <;> first | exact hT rfl rfl | exact hF rfl (by simp) | simp [okF] at ha
  | bl q => simp [DL.plain] at hb
  | rf q => simp [DL.plain] at hb
  | st => simp [DL.plain] at hb
  | ob q => simp [DL.plain] at hb
  | scr q => simp [DL.plain] at hb
  | int i =>
    simp! only [id_eq]
    cases a <;> (first | (exfalso; simp [okF] at ha; done) | simp! only [id_eq]) <;> first
      | exact hF rfl (by simp)
      | (rename_i i'
         by_cases h : i' = i
         · rw [decide_eq_true h]
           exact hT rfl (by rw [h])
         · rw [decide_eq_false h]
           exact hF rfl (by simpa using h))
      | simp [okF] at ha
  | str i =>
    simp! only [id_eq]
    cases a <;> (first | (exfalso; simp [okF] at ha; done) | simp! only [id_eq]) <;> first
      | exact hF rfl (by simp)
      | (rename_i i'
         by_cases h : i' = i
         · rw [decide_eq_true h]
           exact hT rfl (by rw [h])
         · rw [decide_eq_false h]
           exact hF rfl (by simpa using h))
      | simp [okF] at ha
  | lst ys =>
    simp! only [id_eq]
    cases a <;> (first | (exfalso; simp [okF] at ha; done) | simp! only [id_eq]) <;> first
      | exact hF rfl (by simp)
      | skip
    rename_i xs
    by_cases hl : xs.length = ys.length
    · rw [decide_eq_true (show ((xs.length : Nat) : Int) = ys.length by rw [hl])]
      simp! only [id_eq]
      unfold okF at ha
      unfold DL.plain at hb
      unfold dep at hd
      unfold wid at wa wb
      rw [Bool.and_eq_true] at wa wb
      refine lc_rel (fun p y => ∃ c a b, p = D.tup [a, b] ∧ y = D.bl c ∧ (c = true ↔ a = b)) trivial ?_ (fun p hp k' hk' => ?_) (fun cs hcs => ?_)
      · unfold zipD
        rw [List.length_zipWith]
        have := of_decide_eq_true wa.1
        omega
      · obtain ⟨i, hi⟩ := List.getElem?_of_mem hp
        obtain ⟨x, y, h1, h2, rfl⟩ := DL.zip_get hi
        have mx := List.mem_of_getElem? h1
        have my := List.mem_of_getElem? h2
        simp! only [id_eq]
        cases j with
        | zero => omega
        | succ j =>
          refine ⟨x, y, rfl, ⟨okFs_mem ha mx, plains_mem hb my, ?_, wids_mem wa.2 mx, wids_mem wb.2 my⟩, fun c hc => hk' _ ⟨c, x, y, rfl, rfl, hc⟩⟩
          have := deps_mem my
          omega
      · obtain ⟨bs, rfl, hbs⟩ := zip_pairs hl hcs
        rw [fAll_m]
        exact hk _ (by rw [hbs]; simp)
    · rw [decide_eq_false (show ¬ ((xs.length : Nat) : Int) = ys.length by omega)]
      simp! only [id_eq]
      exact hF rfl (by intro h; cases h; exact hl rfl)
  | tup ys =>
    simp! only [id_eq]
    cases a <;> (first | (exfalso; simp [okF] at ha; done) | simp! only [id_eq]) <;> first
      | exact hF rfl (by simp)
      | skip
    rename_i xs
    by_cases hl : xs.length = ys.length
    · rw [decide_eq_true (show ((xs.length : Nat) : Int) = ys.length by rw [hl])]
      simp! only [id_eq]
      unfold okF at ha
      unfold DL.plain at hb
      unfold dep at hd
      unfold wid at wa wb
      rw [Bool.and_eq_true] at wa wb
      refine lc_rel (fun p y => ∃ c a b, p = D.tup [a, b] ∧ y = D.bl c ∧ (c = true ↔ a = b)) trivial ?_ (fun p hp k' hk' => ?_) (fun cs hcs => ?_)
      · unfold zipD
        rw [List.length_zipWith]
        have := of_decide_eq_true wa.1
        omega
      · obtain ⟨i, hi⟩ := List.getElem?_of_mem hp
        obtain ⟨x, y, h1, h2, rfl⟩ := DL.zip_get hi
        have mx := List.mem_of_getElem? h1
        have my := List.mem_of_getElem? h2
        simp! only [id_eq]
        cases j with
        | zero => omega
        | succ j =>
          refine ⟨x, y, rfl, ⟨okFs_mem ha mx, plains_mem hb my, ?_, wids_mem wa.2 mx, wids_mem wb.2 my⟩, fun c hc => hk' _ ⟨c, x, y, rfl, rfl, hc⟩⟩
          have := deps_mem my
          omega
      · obtain ⟨bs, rfl, hbs⟩ := zip_pairs hl hcs
        rw [fAll_m]
        exact hk _ (by rw [hbs]; simp)
    · rw [decide_eq_false (show ¬ ((xs.length : Nat) : Int) = ys.length by omega)]
      simp! only [id_eq]
      exact hF rfl (by intro h; cases h; exact hl rfl)
theorem okr__law_same {P : Program} {w : World} {K : PySem.W.Frag} {mg : Str → Option Value} {base : Heap} (T : DefAt K mg "_law_same" s__law_same ["_law_found", "_law_due"]) (B : Blt mg) : ∀ j, FnAt P w K mg base CX0 j "_law_same" 2 (gSame j)
  | 0 => T.mk0 fun f fd F => ⟨fun vs H Q E h => by
      obtain ⟨_, _, _, _, _, _, _, _, _, _, _, h⟩ := h
      exact h.elim, fun A outer s H args us vs Q E _ _ _ _ h => by
      obtain ⟨_, _, _, _, _, _, _, _, _, _, _, h⟩ := h
      exact h.elim⟩
  | j + 1 => (w__law_same T B (okr__law_same T B j)).imp (v__law_same j)
theorem ok__law_same {P : Program} {w : World} {K : PySem.W.Frag} {mg : Str → Option Value} {base : Heap} (T : DefAt K mg "_law_same" s__law_same ["_law_found", "_law_due"]) (B : Blt mg) : FnAt P w K mg base CX0 8 "_law_same" 2 sp__law_same := okr__law_same T B 8
theorem same_use {a b : D} {w : Wd} {kx : KX} {k : KD} (ha : okF a = true) (hb : DL.plain b = true) (hd : dep b ≤ 7) (wa : wid a = true) (wb : wid b = true) (h : ∀ c : Bool, (c = true ↔ a = b) → k (.bl c) w) : sp__law_same [a, b] w kx k := ⟨a, b, rfl, ⟨ha, hb, hd, wa, wb⟩, h⟩
theorem same_yes {a : D} {w : Wd} {kx : KX} {k : KD} (hb : DL.plain a = true) (hd : dep a ≤ 7) (wa : wid a = true) (h : k (.bl true) w) : sp__law_same [a, a] w kx k := same_use (plain_ok hb) hb hd wa wa fun c hc => by
  have : c = true := hc.mpr rfl
  rw [this]
  exact h

abbrev Qp := Int × Int
def fD (x : Qp) : D := .tup [.int x.1, .int x.2]
structure Fr (x : Qp) : Prop where
  pos : 0 < x.2
  cop : Int.gcd x.1 x.2 = 1
def norm (t b : Int) : Qp := (frT t b, frB t b)
def Lt2 (a : Nat) (x : Qp) : Prop := x.1.natAbs < 2 ^ a ∧ x.2.natAbs < 2 ^ a
theorem fr_norm {t b : Int} (h : b ≠ 0) : Fr (norm t b) := ⟨(fr_is h).pos, (fr_is h).cop⟩
theorem norm_eq {t b : Int} (h : b ≠ 0) : (norm t b).1 * b = t * (norm t b).2 := (fr_is h).eq
theorem norm_of {t b : Int} {x : Qp} (h : b ≠ 0) (hx : Fr x) (e : x.1 * b = t * x.2) : norm t b = x := by
  obtain ⟨h1, h2⟩ := fr_eq h ⟨hx.pos, hx.cop, e⟩
  exact Prod.ext h1 h2
theorem norm_self {x : Qp} (hx : Fr x) : norm x.1 x.2 = x := norm_of (by have := hx.pos; omega) hx rfl
theorem norm_cross {t b t' b' : Int} (h : b ≠ 0) (h' : b' ≠ 0) (e : t * b' = t' * b) : norm t b = norm t' b' := by
  refine norm_of h (fr_norm h') ?_
  have e2 := norm_eq (t := t') h'
  refine Int.eq_of_mul_eq_mul_right h' ?_
  calc (norm t' b').1 * b * b' = (norm t' b').1 * b' * b := by ac_rfl
    _ = t' * (norm t' b').2 * b := by rw [e2]
    _ = t' * b * (norm t' b').2 := by ac_rfl
    _ = t * b' * (norm t' b').2 := by rw [e]
    _ = t * (norm t' b').2 * b' := by ac_rfl
theorem fr_inj {x y : Qp} (hx : Fr x) (hy : Fr y) (e : x.1 * y.2 = y.1 * x.2) : x = y := by
  rw [← norm_self hx, ← norm_self hy]
  exact norm_cross (by have := hx.pos; omega) (by have := hy.pos; omega) e
theorem norm_lt {t b : Int} {a : Nat} (h : b ≠ 0) (ht : t.natAbs < 2 ^ a) (hb : b.natAbs < 2 ^ a) : Lt2 a (norm t b) := ⟨Nat.lt_of_le_of_lt (fr_le h).1 ht, Nat.lt_of_le_of_lt (fr_le h).2 hb⟩
theorem Lt2.mono {a c : Nat} {x : Qp} (h : Lt2 a x) (l : a ≤ c) : Lt2 c x := ⟨Nat.lt_of_lt_of_le h.1 (Nat.pow_le_pow_right (by decide) l), Nat.lt_of_lt_of_le h.2 (Nat.pow_le_pow_right (by decide) l)⟩
theorem nat_mono {n a c : Nat} (h : n < 2 ^ a) (l : a ≤ c) : n < 2 ^ c := Nat.lt_of_lt_of_le h (Nat.pow_le_pow_right (by decide) l)
theorem add_lt {x y : Int} {a : Nat} (hx : x.natAbs < 2 ^ a) (hy : y.natAbs < 2 ^ a) : (x + y).natAbs < 2 ^ (a + 1) := by
  rw [Nat.pow_succ]
  omega
theorem sub_lt {x y : Int} {a : Nat} (hx : x.natAbs < 2 ^ a) (hy : y.natAbs < 2 ^ a) : (x - y).natAbs < 2 ^ (a + 1) := by
  rw [Nat.pow_succ]
  omega
section
variable {x y : Qp} {w : Wd} {k : KD} {t : GGs} {r : Rho} {kr : Rho → Wd → Prop} {n : String}
theorem ixD_f0 : ixD (fD x) (.int 0) w k = k (.int x.1) w := rfl
theorem ixD_f1 : ixD (fD x) (.int 1) w k = k (.int x.2) w := rfl
theorem ggTup_f : DL.ggTup 2 t (fD x) r w kr = t [.int x.1, .int x.2] r w kr := by
  show (2 = 2 ∧ t [.int x.1, .int x.2] r w kr) = _
  simp
theorem fIsi_f : fIsi [fD x, .ob (.ty n)] w k = optBK (kitB "tuple" n) (fun b => k (.bl b) w) := rfl
theorem fLen_f : fLen [fD x] w k = k (.int 2) w := rfl
theorem eqD_ff : eqD (fD x) (fD y) w k = k (.bl (decide (x = y))) w := by
  unfold fD
  rw [eqD_f]
  congr 2
  rw [Bool.eq_iff_iff]
  simp [Prod.ext_iff]
theorem neD_ff : neD (fD x) (fD y) w k = k (.bl (!decide (x = y))) w := by
  unfold fD
  rw [neD_f]
  congr 3
  rw [Bool.eq_iff_iff]
  simp [Prod.ext_iff]
end
theorem dep_f (x : Qp) : dep (fD x) = 1 := rfl
theorem wid_f (x : Qp) : wid (fD x) = true := by
  simp [fD, wid, wids]
def Pb : List Qp → Int
  | [] => 1
  | x :: xs => x.2 * Pb xs
def Nt : List Qp → Int
  | [] => 0
  | x :: xs => x.1 * Pb xs + x.2 * Nt xs
theorem Pb_pos : ∀ {xs : List Qp}, (∀ x ∈ xs, Fr x) → 0 < Pb xs
  | [], _ => by decide
  | x :: xs, h => Int.mul_pos (h x List.mem_cons_self).pos (Pb_pos fun y hy => h y (List.mem_cons_of_mem _ hy))
theorem Pb_ne {xs : List Qp} (h : ∀ x ∈ xs, Fr x) : Pb xs ≠ 0 := by
  have := Pb_pos h
  omega
theorem Pb_app : ∀ (xs ys : List Qp), Pb (xs ++ ys) = Pb xs * Pb ys
  | [], ys => by simp [Pb]
  | x :: xs, ys => by
    show x.2 * Pb (xs ++ ys) = x.2 * Pb xs * Pb ys
    rw [Pb_app xs ys, Int.mul_assoc]
theorem Nt_app : ∀ (xs ys : List Qp), Nt (xs ++ ys) = Nt xs * Pb ys + Pb xs * Nt ys
  | [], ys => by simp [Nt, Pb]
  | x :: xs, ys => by
    show x.1 * Pb (xs ++ ys) + x.2 * Nt (xs ++ ys) = (x.1 * Pb xs + x.2 * Nt xs) * Pb ys + x.2 * Pb xs * Nt ys
    rw [Pb_app, Nt_app, Int.add_mul, Int.mul_add]
    have e1 : x.1 * (Pb xs * Pb ys) = x.1 * Pb xs * Pb ys := by ac_rfl
    have e2 : x.2 * (Nt xs * Pb ys) = x.2 * Nt xs * Pb ys := by ac_rfl
    have e3 : x.2 * (Pb xs * Nt ys) = x.2 * Pb xs * Nt ys := by ac_rfl
    rw [e1, e2, e3, Int.add_assoc]
def sumQ (xs : List Qp) : Qp := norm (Nt xs) (Pb xs)
theorem fr_sum {xs : List Qp} (h : ∀ x ∈ xs, Fr x) : Fr (sumQ xs) := fr_norm (Pb_ne h)
theorem sumQ_nil : sumQ [] = (0, 1) := norm_of (by decide) ⟨by decide, by decide⟩ rfl
theorem sumQ_one {x : Qp} (h : Fr x) : sumQ [x] = x := by
  refine norm_of ?_ h ?_
  · show x.2 * 1 ≠ 0
    have := h.pos
    omega
  · show x.1 * (x.2 * 1) = (x.1 * 1 + x.2 * 0) * x.2
    rw [Int.mul_one, Int.mul_one, Int.mul_zero, Int.add_zero]
theorem sumQ_snoc {xs : List Qp} {x : Qp} (h : ∀ y ∈ xs, Fr y) (hx : Fr x) : norm ((sumQ xs).1 * x.2 + x.1 * (sumQ xs).2) ((sumQ xs).2 * x.2) = sumQ (xs ++ [x]) := by
  have hp := (fr_sum h).pos
  have hxp := hx.pos
  have e := norm_eq (t := Nt xs) (Pb_ne h)
  have n1 : (sumQ xs).2 * x.2 ≠ 0 := Int.mul_ne_zero (by omega) (by omega)
  have n2 : Pb (xs ++ [x]) ≠ 0 := by
    rw [Pb_app]
    show Pb xs * (x.2 * 1) ≠ 0
    rw [Int.mul_one]
    exact Int.mul_ne_zero (Pb_ne h) (by omega)
  refine norm_cross n1 n2 ?_
  rw [Pb_app, Nt_app]
  show ((sumQ xs).1 * x.2 + x.1 * (sumQ xs).2) * (Pb xs * (x.2 * 1)) = (Nt xs * (x.2 * 1) + Pb xs * (x.1 * 1 + x.2 * 0)) * ((sumQ xs).2 * x.2)
  have e' : (sumQ xs).1 * Pb xs = Nt xs * (sumQ xs).2 := e
  rw [Int.mul_one, Int.mul_one, Int.mul_zero, Int.add_zero, Int.add_mul, Int.add_mul]
  have a1 : (sumQ xs).1 * x.2 * (Pb xs * x.2) = Nt xs * x.2 * ((sumQ xs).2 * x.2) := by
    calc (sumQ xs).1 * x.2 * (Pb xs * x.2) = (sumQ xs).1 * Pb xs * (x.2 * x.2) := by ac_rfl
      _ = Nt xs * (sumQ xs).2 * (x.2 * x.2) := by rw [e']
      _ = Nt xs * x.2 * ((sumQ xs).2 * x.2) := by ac_rfl
  have a2 : x.1 * (sumQ xs).2 * (Pb xs * x.2) = Pb xs * x.1 * ((sumQ xs).2 * x.2) := by ac_rfl
  rw [a1, a2]
def subQ (y x : Qp) : Qp := norm (y.1 * x.2 - x.1 * y.2) (x.2 * y.2)
def mulQ (x y : Qp) : Qp := norm (x.1 * y.1) (x.2 * y.2)
def divQ (x y : Qp) : Qp := norm (x.1 * y.2) (x.2 * y.1)
def FrB (a : Nat) (xs : List Qp) : Prop := ∀ x ∈ xs, Fr x ∧ Lt2 a x

def Big (x : Int) : Prop := x.natAbs < 2 ^ 8990
def sp_divisor_of : GF := fun ds w _ k => ∃ a b : Int, ds = [.int a, .int b] ∧ k (.int (Int.gcd a b)) w
abbrev s_divisor_of : Stmt := topS 1
theorem sc_divisor_of : FnScope ["one", "other"] ["one", "other"] (defScope s_divisor_of) := ⟨rfl, rfl, rfl, by decide +kernel, rfl, by decide +kernel, by decide +kernel⟩
def g_divisor_of : GS := (gSeq (gPar 0 1 (gaCons (gCB fAbs (gaCons (gVar 0) gaNil)) (gaCons (gCB fAbs (gaCons (gVar 1) gaNil)) gaNil)))
  (gSeq (gWhile (gB (gBin gtD (gVar 1) (gC (.int 0)))) (gPar 0 1 (gaCons (gVar 1) (gaCons (gBin modD (gVar 0) (gVar 1)) gaNil))))
  (gRet (gVar 0))))
theorem w_divisor_of {P : Program} {w : World} {K : PySem.W.Frag} {mg : Str → Option Value} {base : Heap} (T : DefAt K mg "divisor_of" s_divisor_of ["one", "other"]) (B : Blt mg) : FnAt P w K mg base CX0 1 "divisor_of" 2 (sem0 2 g_divisor_of) := by
  have nd := sc_divisor_of.nd
  exact T.fn0 sc_divisor_of (fun f cdv A outer s H E hr => (dss_cons (ds_par (i := 0) (j := 1) rfl nd rfl rfl (by decide) rfl rfl (da_cons (de_abs B (by rfl) (da_cons (de_var 0) da_nil)) (da_cons (de_abs B (by rfl) (da_cons (de_var 1) da_nil)) da_nil)) (by rfl))
  (dss_cons (ds_while PassesOwn.never (dt_gt (de_var 1) de_int) (dss_one (ds_par (i := 0) (j := 1) rfl nd rfl rfl (by decide) rfl rfl (da_cons (de_var 1) (da_cons (de_mod (de_var 0) (de_var 1)) da_nil)) (by rfl))))
  (dss_one (ds_ret (de_var 0))))))

theorem v_divisor_of : ∀ ds w kx k, sp_divisor_of ds w kx k → sem0 2 g_divisor_of ds w kx k := by
  rintro ds w kx k ⟨a, b, rfl, hk⟩
  have e : rho 2 [D.int a, D.int b] = [some (.int a), some (.int b)] := rfl
  simp! only [g_divisor_of, e]
  refine ⟨fun m ρ w' => ∃ x y : Nat, ρ = [some (.int x), some (.int y)] ∧ Nat.gcd x y = Int.gcd a b ∧ m = y ∧ w' = w, ⟨_, a.natAbs, b.natAbs, rfl, rfl, rfl, rfl⟩, ?_⟩
  rintro m ρ w' ⟨x, y, rfl, hg, rfl, rfl⟩
  simp! only [id_eq]
  refine ite2 (fun h => ?_) (fun h => ?_)
  · have h0 : 0 < m := by simpa using h
    refine ⟨by omega, x % m, Nat.mod_lt _ h0, m, x % m, by rw [fmod_nat], ?_, rfl⟩
    rw [← hg, Nat.gcd_comm x m, Nat.gcd_rec m x, Nat.gcd_comm]
  · have h0 : m = 0 := by
      have : ¬ 0 < m := by simpa using h
      omega
    subst h0
    rw [Nat.gcd_zero_right] at hg
    rw [hg]
    exact hk
theorem ok_divisor_of {P : Program} {w : World} {K : PySem.W.Frag} {mg : Str → Option Value} {base : Heap} (T : DefAt K mg "divisor_of" s_divisor_of ["one", "other"]) (B : Blt mg) : FnAt P w K mg base CX0 1 "divisor_of" 2 sp_divisor_of := (w_divisor_of T B ).imp v_divisor_of

def sp_fraction_of : GF := fun ds w _ k => ∃ t b : Int, ds = [.int t, .int b] ∧ (b ≠ 0 ∧ Big b) ∧ k (fD (norm t b)) w
abbrev s_fraction_of : Stmt := topS 2
theorem sc_fraction_of : FnScope ["top", "below", "divisor"] ["top", "below"] (defScope s_fraction_of) := ⟨rfl, rfl, rfl, by decide +kernel, rfl, by decide +kernel, by decide +kernel⟩
def g_fraction_of : GS := (gSeq (gSet 2 (gCall0 2 sp_divisor_of (gaCons (gVar 0) (gaCons (gVar 1) gaNil))))
  (gCut (gIfS (gB (gBin ltD (gVar 1) (gC (.int 0)))) (gSet 2 (gUn negD (gVar 2))) gNext)
  (gRet (gTup (gaCons (gBin fdivD (gVar 0) (gVar 2)) (gaCons (gBin fdivD (gVar 1) (gVar 2)) gaNil))))))
theorem w_fraction_of {P : Program} {w : World} {K : PySem.W.Frag} {mg : Str → Option Value} {base : Heap} (T : DefAt K mg "fraction_of" s_fraction_of ["top", "below"]) (B : Blt mg) (F_divisor_of : FnAt P w K mg base CX0 1 "divisor_of" 2 sp_divisor_of) : FnAt P w K mg base CX0 2 "fraction_of" 2 (sem0 3 g_fraction_of) := by
  have nd := sc_fraction_of.nd
  exact T.fn0 sc_fraction_of (fun f cdv A outer s H E hr => (dss_cons (ds_set (i := 2) nd rfl (by first | exact Or.inl rfl | exact Or.inr rfl) (de_call0 F_divisor_of hr (by rfl) (da_cons (de_var 0) (da_cons (de_var 1) da_nil))))
  (dss_cut (ds_if (dt_lt (de_var 1) de_int) (dss_one (ds_set (i := 2) nd rfl (by first | exact Or.inl rfl | exact Or.inr rfl) (de_neg (de_var 2)))) dss_nil)
  (dss_one (ds_ret (de_tup (da_cons (de_fdiv (de_var 0) (de_var 2)) (da_cons (de_fdiv (de_var 1) (de_var 2)) da_nil))))))))

theorem v_fraction_of : ∀ ds w kx k, sp_fraction_of ds w kx k → sem0 3 g_fraction_of ds w kx k := by
  rintro ds w kx k ⟨t, b, rfl, ⟨hb, hB⟩, hk⟩
  have e : rho 3 [D.int t, D.int b] = [some (.int t), some (.int b), none] := rfl
  have g0 := gcd_pos (t := t) hb
  have gl : (Int.gcd t b).log2 < 9000 := log_ok (Nat.lt_of_le_of_lt (gcd_le hb) hB)
  obtain ⟨d1, d2⟩ := sg_dvd t b
  obtain ⟨ns, nl⟩ : sg t b ≠ 0 ∧ (sg t b).natAbs.log2 < 9000 := ⟨sg_ne hb, by rw [sg_abs]; exact gl⟩
  simp! only [g_fraction_of, e, sp_divisor_of]
  refine ⟨t, b, rfl, fun ρ w' => ρ = [some (.int t), some (.int b), some (.int (sg t b))] ∧ w' = w, ?_, ?_⟩
  · refine ite2 (fun h => ⟨?_, rfl⟩) (fun h => ⟨?_, rfl⟩)
    · unfold sg
      rw [if_pos (by simpa using h)]
    · unfold sg
      rw [if_neg (by simpa using h)]
  · rintro ρ w' ⟨rfl, rfl⟩
    simp! only [id_eq]
    exact ⟨⟨ns, nl⟩, ⟨ns, nl⟩, by decide, by rw [fdiv_dvd d1, fdiv_dvd d2]; exact hk⟩
theorem ok_fraction_of {P : Program} {w : World} {K : PySem.W.Frag} {mg : Str → Option Value} {base : Heap} (T : DefAt K mg "fraction_of" s_fraction_of ["top", "below"]) (B : Blt mg) (F_divisor_of : FnAt P w K mg base CX0 1 "divisor_of" 2 sp_divisor_of) : FnAt P w K mg base CX0 2 "fraction_of" 2 sp_fraction_of := (w_fraction_of T B F_divisor_of).imp v_fraction_of


def sp__law_lowest : GF := fun ds w _ k => ∃ t b : Int, ds = [.int t, .int b] ∧ (b ≠ 0 ∧ Big b ∧ Big t) ∧ k (fD (norm t b)) w
abbrev s__law_lowest : Stmt := topS 33
theorem sc__law_lowest : FnScope ["_law_top", "_law_below", "_law_one", "_law_other", "_law_sign"] ["_law_top", "_law_below"] (defScope s__law_lowest) := ⟨rfl, rfl, rfl, by decide +kernel, rfl, by decide +kernel, by decide +kernel⟩
def g__law_lowest : GS := (gSeq (gPar 2 3 (gaCons (gCB fAbs (gaCons (gVar 0) gaNil)) (gaCons (gCB fAbs (gaCons (gVar 1) gaNil)) gaNil)))
  (gSeq (gWhile (gB (gBin gtD (gVar 3) (gC (.int 0)))) (gPar 2 3 (gaCons (gVar 3) (gaCons (gBin modD (gVar 2) (gVar 3)) gaNil))))
  (gCut (gSet 4 (gIf (gB (gBin ltD (gVar 1) (gC (.int 0)))) (gUn negD (gC (.int 1))) (gC (.int 1))))
  (gRet (gTup (gaCons (gBin fdivD (gBin mulD (gVar 4) (gVar 0)) (gVar 2)) (gaCons (gBin fdivD (gBin mulD (gVar 4) (gVar 1)) (gVar 2)) gaNil)))))))
theorem w__law_lowest {P : Program} {w : World} {K : PySem.W.Frag} {mg : Str → Option Value} {base : Heap} (T : DefAt K mg "_law_lowest" s__law_lowest ["_law_top", "_law_below"]) (B : Blt mg) : FnAt P w K mg base CX0 1 "_law_lowest" 2 (sem0 5 g__law_lowest) := by
  have nd := sc__law_lowest.nd
  exact T.fn0 sc__law_lowest (fun f cdv A outer s H E hr => (dss_cons (ds_par (i := 2) (j := 3) rfl nd rfl rfl (by decide) rfl rfl (da_cons (de_abs B (by rfl) (da_cons (de_var 0) da_nil)) (da_cons (de_abs B (by rfl) (da_cons (de_var 1) da_nil)) da_nil)) (by rfl))
  (dss_cons (ds_while PassesOwn.never (dt_gt (de_var 3) de_int) (dss_one (ds_par (i := 2) (j := 3) rfl nd rfl rfl (by decide) rfl rfl (da_cons (de_var 3) (da_cons (de_mod (de_var 2) (de_var 3)) da_nil)) (by rfl))))
  (dss_cut (ds_set (i := 4) nd rfl (by first | exact Or.inl rfl | exact Or.inr rfl) (de_ifExp (dt_lt (de_var 1) de_int) (de_neg de_int) de_int))
  (dss_one (ds_ret (de_tup (da_cons (de_fdiv (de_mul (de_var 4) (de_var 0)) (de_var 2)) (da_cons (de_fdiv (de_mul (de_var 4) (de_var 1)) (de_var 2)) da_nil)))))))))

theorem v__law_lowest : ∀ ds w kx k, sp__law_lowest ds w kx k → sem0 5 g__law_lowest ds w kx k := by
  rintro ds w kx k ⟨t, b, rfl, ⟨hb, hB, hT⟩, hk⟩
  have e : rho 5 [D.int t, D.int b] = [some (.int t), some (.int b), none, none, none] := rfl
  have g0 := gcd_pos (t := t) hb
  have gl : (Int.gcd t b).log2 < 9000 := log_ok (Nat.lt_of_le_of_lt (gcd_le hb) hB)
  simp! only [g__law_lowest, e]
  refine ⟨fun m ρ w' => ∃ x y : Nat, ρ = [some (.int t), some (.int b), some (.int x), some (.int y), none] ∧ Nat.gcd x y = Int.gcd t b ∧ m = y ∧ w' = w, ⟨_, t.natAbs, b.natAbs, rfl, rfl, rfl, rfl⟩, ?_⟩
  rintro m ρ w' ⟨x, y, rfl, hg, rfl, rfl⟩
  simp! only [id_eq]
  refine ite2 (fun h => ?_) (fun h => ?_)
  · have h0 : 0 < m := by simpa using h
    refine ⟨by omega, x % m, Nat.mod_lt _ h0, m, x % m, by rw [fmod_nat], ?_, rfl⟩
    rw [← hg, Nat.gcd_comm x m, Nat.gcd_rec m x, Nat.gcd_comm]
  · have h0 : m = 0 := by
      have : ¬ 0 < m := by simpa using h
      omega
    subst h0
    rw [Nat.gcd_zero_right] at hg
    rw [hg]
    obtain ⟨d1, d2⟩ := sg_dvd t b
    have gd1 : (Int.gcd t b : Int) ∣ t := Int.gcd_dvd_left t b
    have gd2 : (Int.gcd t b : Int) ∣ b := Int.gcd_dvd_right t b
    have gn : (Int.gcd t b : Int) ≠ 0 := by omega
    have gl2 : (Int.gcd t b : Int).natAbs.log2 < 9000 := by simpa using gl
    have key : ∀ s : Int, (s = -1 ∧ b < 0) ∨ (s = 1 ∧ ¬ b < 0) → (s * t).fdiv (Int.gcd t b : Int) = frT t b ∧ (s * b).fdiv (Int.gcd t b : Int) = frB t b ∧ s.natAbs < 2 ^ 1 := by
      rintro s (⟨rfl, h0⟩ | ⟨rfl, h0⟩)
      · refine ⟨?_, ?_, by decide⟩
        · rw [fdiv_dvd (by rw [Int.neg_one_mul]; exact Int.dvd_neg.mpr gd1)]
          unfold frT sg
          rw [if_pos h0, Int.neg_one_mul, Int.ediv_neg, Int.neg_ediv_of_dvd gd1]
        · rw [fdiv_dvd (by rw [Int.neg_one_mul]; exact Int.dvd_neg.mpr gd2)]
          unfold frB sg
          rw [if_pos h0, Int.neg_one_mul, Int.ediv_neg, Int.neg_ediv_of_dvd gd2]
      · refine ⟨?_, ?_, by decide⟩
        · rw [Int.one_mul, fdiv_dvd gd1]
          unfold frT sg
          rw [if_neg h0]
        · rw [Int.one_mul, fdiv_dvd gd2]
          unfold frB sg
          rw [if_neg h0]
    refine ⟨fun ρ w'' => w'' = w' ∧ ∃ s : Int, ((s = -1 ∧ b < 0) ∨ (s = 1 ∧ ¬ b < 0)) ∧ ρ = [some (.int t), some (.int b), some (.int (Int.gcd t b : Int)), some (.int ((0 : Nat) : Int)), some (.int s)], ite2 (fun h => ⟨rfl, -1, .inl ⟨rfl, by simpa using h⟩, rfl⟩) (fun h => ⟨rfl, 1, .inr ⟨rfl, by simpa using h⟩, rfl⟩), ?_⟩
    rintro ρ w'' ⟨rfl, s, hs, rfl⟩
    obtain ⟨s1, s2, s3⟩ := key s hs
    simp! only [id_eq]
    rw [s1, s2]
    exact ⟨mulx_ok (a := 1) (b := 8990) s3 hT (by decide), ⟨gn, gl2⟩, mulx_ok (a := 1) (b := 8990) s3 hB (by decide), ⟨gn, gl2⟩, by decide, hk⟩
theorem ok__law_lowest {P : Program} {w : World} {K : PySem.W.Frag} {mg : Str → Option Value} {base : Heap} (T : DefAt K mg "_law_lowest" s__law_lowest ["_law_top", "_law_below"]) (B : Blt mg) : FnAt P w K mg base CX0 1 "_law_lowest" 2 sp__law_lowest := (w__law_lowest T B ).imp v__law_lowest


abbrev Rate := Option Int × Qp
def optD : Option Int → D
  | none => .non
  | some i => .int i
def rateD (r : Rate) : D := .tup [optD r.1, fD r.2]
inductive Row where
  | of (n : Str) (p : Qp)
  | steps (n : Str) (rs : List Rate)
  | left (n : Str) (p : Qp)
  | length (n : Str) (m : Int)
def rowD : Row → D
  | .of n p => .tup [.str "of", .str n, fD p]
  | .steps n rs => .tup [.str "steps", .str n, .tup (rs.map rateD)]
  | .left n p => .tup [.str "left", .str n, fD p]
  | .length n m => .tup [.str "length", .str n, .int m]
def kindS : Row → Str
  | .of _ _ => "of"
  | .steps _ _ => "steps"
  | .left _ _ => "left"
  | .length _ _ => "length"
structure Part (p : Qp) : Prop where
  fr : Fr p
  lt : Lt2 12 p
  pos : 0 < p.1
def Rates (rs : List Rate) : Prop := rs.length ≤ 8 ∧ (∀ r ∈ rs, Part r.2) ∧ ∃ q, (none, q) ∈ rs
def RowOk : Row → Prop
  | .of _ p => Part p
  | .steps _ rs => Rates rs
  | .left _ p => Part p
  | .length _ m => 0 < m ∧ m ≤ 1000
theorem low_rate {n : Nat} (r : Rate) : low n (rateD r) = true := by
  obtain ⟨u, p⟩ := r
  cases u <;> rfl
theorem low_row {n : Nat} (r : Row) : low n (rowD r) = true := by
  cases r with
  | steps s rs =>
    show (true && (true && (lows n (rs.map rateD) && true))) = true
    rw [lows_of fun x hx => ?_]
    · rfl
    · obtain ⟨r, _, rfl⟩ := List.mem_map.mp hx
      exact low_rate r
  | _ => rfl
theorem low_rows {n : Nat} (rs : List Row) : lows n (rs.map rowD) = true := lows_of fun x hx => by
  obtain ⟨r, _, rfl⟩ := List.mem_map.mp hx
  exact low_row r
section
variable {w : Wd} {k : KD} {r : Row} {n : Str} {p : Qp} {rs : List Rate} {m : Int} {t : Rate}
theorem row0 : ixD (rowD r) (.int 0) w k = k (.str (kindS r)) w := by cases r <;> rfl
theorem row2_of : ixD (rowD (.of n p)) (.int 2) w k = k (fD p) w := rfl
theorem row2_st : ixD (rowD (.steps n rs)) (.int 2) w k = k (.tup (rs.map rateD)) w := rfl
theorem rate_tup {q : GGs} {ρ : Rho} {kr : Rho → Wd → Prop} : DL.ggTup 2 q (rateD t) ρ w kr = q [optD t.1, fD t.2] ρ w kr := by
  show (2 = 2 ∧ q [optD t.1, fD t.2] ρ w kr) = _
  simp
end
def ofP : Row → Option Qp
  | .of _ p => some p
  | _ => none
def stP : Row → Option (List Rate)
  | .steps _ rs => some rs
  | _ => none
def great : List Rate → Qp → Qp
  | [], g => g
  | r :: rs, g => great rs (if g.1 * r.2.2 < r.2.1 * g.2 then r.2 else g)
def ofs (rs : List Row) : List Qp := rs.filterMap ofP
def sts (rs : List Row) : List Qp := (rs.filterMap stP).map fun r => great r (0, 1)
def partsOf (rs : List Row) : List Qp := ofs rs ++ sts rs
structure Pt0 (p : Qp) : Prop where
  fr : Fr p
  lt : Lt2 12 p
  pos : 0 ≤ p.1
theorem Part.pt0 {p : Qp} (h : Part p) : Pt0 p := ⟨h.fr, h.lt, Int.le_of_lt h.pos⟩
theorem pt00 : Pt0 (0, 1) := ⟨⟨by decide, by decide⟩, ⟨by decide, by decide⟩, by decide⟩
theorem great_ok : ∀ {rs : List Rate} {g : Qp}, (∀ r ∈ rs, Part r.2) → Pt0 g → Pt0 (great rs g)
  | [], _, _, h => h
  | r :: rs, g, hr, h => by
    unfold great
    refine great_ok (fun x hx => hr x (List.mem_cons_of_mem _ hx)) ?_
    split
    · exact (hr r List.mem_cons_self).pt0
    · exact h
theorem ofs_ok {rs : List Row} (h : ∀ r ∈ rs, RowOk r) : ∀ p ∈ ofs rs, Pt0 p := fun p hp => by
  obtain ⟨r, hr, e⟩ := List.mem_filterMap.mp hp
  have := h r hr
  cases r with
  | of n q =>
    cases e
    exact Part.pt0 this
  | _ => cases e
theorem sts_ok {rs : List Row} (h : ∀ r ∈ rs, RowOk r) : ∀ p ∈ sts rs, Pt0 p := fun p hp => by
  obtain ⟨q, hq, rfl⟩ := List.mem_map.mp hp
  obtain ⟨r, hr, e⟩ := List.mem_filterMap.mp hq
  have := h r hr
  cases r with
  | steps n q =>
    cases e
    exact great_ok this.2.1 pt00
  | _ => cases e
theorem partsOf_ok {rs : List Row} (h : ∀ r ∈ rs, RowOk r) : FrB 12 (partsOf rs) := fun p hp => by
  rcases List.mem_append.mp hp with hp | hp
  · exact ⟨(ofs_ok h p hp).fr, (ofs_ok h p hp).lt⟩
  · exact ⟨(sts_ok h p hp).fr, (sts_ok h p hp).lt⟩
theorem partsOf_len (rs : List Row) : (partsOf rs).length ≤ 2 * rs.length := by
  unfold partsOf ofs sts
  rw [List.length_append, List.length_map]
  have h1 := List.length_filterMap_le ofP rs
  have h2 := List.length_filterMap_le stP rs
  omega
def Wt (ps : List Qp) (m : Int) : Prop := 60 * Nt ps ≤ m * Pb ps
theorem wt_nil {m : Int} (h : 0 ≤ m) : Wt [] m := by
  show 60 * 0 ≤ m * 1
  omega
theorem wt_app {xs ys : List Qp} {m n : Int} (fx : ∀ x ∈ xs, Fr x) (fy : ∀ x ∈ ys, Fr x) (h1 : Wt xs m) (h2 : Wt ys n) : Wt (xs ++ ys) (m + n) := by
  unfold Wt at *
  rw [Nt_app, Pb_app]
  have p1 := Pb_pos fx
  have p2 := Pb_pos fy
  have a := Int.mul_le_mul_of_nonneg_right h1 (Int.le_of_lt p2)
  have b := Int.mul_le_mul_of_nonneg_right h2 (Int.le_of_lt p1)
  have e1 : 60 * (Nt xs * Pb ys) = 60 * Nt xs * Pb ys := by ac_rfl
  have e2 : 60 * (Pb xs * Nt ys) = 60 * Nt ys * Pb xs := by ac_rfl
  have e3 : m * (Pb xs * Pb ys) = m * Pb xs * Pb ys := by ac_rfl
  have e4 : n * (Pb xs * Pb ys) = n * Pb ys * Pb xs := by ac_rfl
  rw [Int.mul_add, Int.add_mul, e1, e2, e3, e4]
  exact Int.add_le_add a b
theorem wt_one {p : Qp} {m : Int} (h : 60 * p.1 ≤ m * p.2) : Wt [p] m := by
  show 60 * (p.1 * 1 + p.2 * 0) ≤ m * (p.2 * 1)
  rw [Int.mul_one, Int.mul_one, Int.mul_zero, Int.add_zero]
  exact h
theorem wt_mono {xs : List Qp} {m n : Int} (f : ∀ x ∈ xs, Fr x) (h : Wt xs m) (l : m ≤ n) : Wt xs n := Int.le_trans h (Int.mul_le_mul_of_nonneg_right l (Int.le_of_lt (Pb_pos f)))
theorem wt_sum {xs : List Qp} (f : ∀ x ∈ xs, Fr x) (h : Wt xs 60) : (sumQ xs).1 ≤ (sumQ xs).2 := by
  unfold Wt at h
  have hl : Nt xs ≤ Pb xs := by omega
  have e := norm_eq (t := Nt xs) (Pb_ne f)
  have p := Pb_pos f
  have q := (fr_sum f).pos
  have e' : (sumQ xs).1 * Pb xs = Nt xs * (sumQ xs).2 := e
  have h2 : Nt xs * (sumQ xs).2 ≤ Pb xs * (sumQ xs).2 := Int.mul_le_mul_of_nonneg_right hl (Int.le_of_lt q)
  rw [← e', Int.mul_comm (Pb xs)] at h2
  exact Int.le_of_mul_le_mul_right h2 p
theorem great_le {m : Int} : ∀ {rs : List Rate} {g : Qp}, (∀ r ∈ rs, 60 * r.2.1 ≤ m * r.2.2) → 60 * g.1 ≤ m * g.2 → 60 * (great rs g).1 ≤ m * (great rs g).2
  | [], _, _, h => h
  | r :: rs, g, hr, h => by
    unfold great
    refine great_le (fun x hx => hr x (List.mem_cons_of_mem _ hx)) ?_
    split
    · exact hr r List.mem_cons_self
    · exact h
def RowsW (rs : List Row) (m : Int) : Prop := ∃ a b : Int, Wt (ofs rs) a ∧ Wt (sts rs) b ∧ a + b ≤ m
def RowW : Row → Int → Prop
  | .of _ p, m => 60 * p.1 ≤ m * p.2
  | .steps _ rs, m => ∀ r ∈ rs, 60 * r.2.1 ≤ m * r.2.2
  | _, _ => True
theorem ofs_app (xs ys : List Row) : ofs (xs ++ ys) = ofs xs ++ ofs ys := by
  unfold ofs
  rw [List.filterMap_append]
theorem sts_app (xs ys : List Row) : sts (xs ++ ys) = sts xs ++ sts ys := by
  unfold sts
  rw [List.filterMap_append, List.map_append]
theorem rowsW_add {rs : List Row} {r : Row} {m t : Int} (hs : ∀ x ∈ rs, RowOk x) (hr : RowOk r) (h : RowsW rs m) (ht : 0 ≤ t) (hw : RowW r t) : RowsW (rs ++ [r]) (m + t) := by
  obtain ⟨a, b, h1, h2, h3⟩ := h
  unfold RowsW
  rw [ofs_app, sts_app]
  have f1 : ∀ x ∈ ofs rs, Fr x := fun x hx => (ofs_ok hs x hx).fr
  have f2 : ∀ x ∈ sts rs, Fr x := fun x hx => (sts_ok hs x hx).fr
  have g1 : ∀ x ∈ ofs [r], Fr x := fun x hx => (ofs_ok (rs := [r]) (fun y hy => by rw [List.mem_singleton] at hy; subst hy; exact hr) x hx).fr
  have g2 : ∀ x ∈ sts [r], Fr x := fun x hx => (sts_ok (rs := [r]) (fun y hy => by rw [List.mem_singleton] at hy; subst hy; exact hr) x hx).fr
  cases r with
  | of n p => exact ⟨a + t, b + 0, wt_app f1 g1 h1 (wt_one hw), wt_app f2 g2 h2 (wt_nil (by decide)), by omega⟩
  | steps n qs =>
    refine ⟨a + 0, b + t, wt_app f1 g1 h1 (wt_nil (by decide)), wt_app f2 g2 h2 (wt_one (great_le hw ?_)), by omega⟩
    show 60 * 0 ≤ t * 1
    omega
  | left n p => exact ⟨a + 0, b + 0, wt_app f1 g1 h1 (wt_nil (by decide)), wt_app f2 g2 h2 (wt_nil (by decide)), by omega⟩
  | length n p => exact ⟨a + 0, b + 0, wt_app f1 g1 h1 (wt_nil (by decide)), wt_app f2 g2 h2 (wt_nil (by decide)), by omega⟩
theorem rowsW_le {rs : List Row} (hs : ∀ x ∈ rs, RowOk x) (h : RowsW rs 60) : (sumQ (partsOf rs)).1 ≤ (sumQ (partsOf rs)).2 := by
  obtain ⟨a, b, h1, h2, h3⟩ := h
  have f : ∀ x ∈ partsOf rs, Fr x := fun x hx => (partsOf_ok hs x hx).1
  exact wt_sum f (wt_mono f (wt_app (fun x hx => (ofs_ok hs x hx).fr) (fun x hx => (sts_ok hs x hx).fr) h1 h2) h3)

structure RowsOk (rs : List Row) (m : Nat) : Prop where
  len : rs.length ≤ m
  ok : ∀ r ∈ rs, RowOk r

theorem erase_map {α β : Type} (f : α → β) : ∀ (xs : List α) (i : Nat), (xs.map f).eraseIdx i = (xs.eraseIdx i).map f
  | [], i => by simp
  | x :: xs, 0 => rfl
  | x :: xs, i + 1 => by
    simp [erase_map f xs i]
theorem lt_sl {n : Nat} (h : n ≤ 100000) : n < sizeLine := Nat.lt_of_le_of_lt h (by decide)
theorem le_sl {n : Nat} (h : n ≤ 100000) : n ≤ sizeLine := Nat.le_of_lt (lt_sl h)
def NameOk (s : Str) : Prop := (PyData.strOk s && decide (s.length ≤ 100)) = true
def pool : List Str := Txt.split "b aa zebra c quartzes ab m knows d mm likes z ba abcdefgh y zz e x f g hh jj kk pave" " "
theorem pool_len : pool.length = 24 := by decide +kernel
theorem pool_nd : (pool ++ [("never" : Str)]).Nodup := by decide +kernel
def Drawn (ss : List Str) : Prop := ∃ rest, (ss ++ rest).Perm pool
theorem Drawn.nd {ss : List Str} (h : Drawn ss) : (ss ++ [("never" : Str)]).Nodup := by
  obtain ⟨rest, p⟩ := h
  have h1 : ((ss ++ rest) ++ [("never" : Str)]).Nodup := (p.append_right _).nodup_iff.mpr pool_nd
  refine h1.sublist ?_
  exact (List.sublist_append_left ss rest).append_right _
theorem erase_perm {α : Type} : ∀ {l : List α} {i : Nat} (h : i < l.length), (l[i] :: l.eraseIdx i).Perm l
  | x :: l, 0, _ => List.Perm.refl _
  | x :: l, i + 1, h => by
    have h' : i < l.length := by simpa using h
    show (l[i] :: x :: l.eraseIdx i).Perm (x :: l)
    exact (List.Perm.swap x l[i] _).trans ((erase_perm h').cons x)
theorem pool_ok : ∀ s ∈ pool, PyData.strOk s = true := by
  have : pool.all (fun s => PyData.strOk s) = true := by decide +kernel
  exact List.all_eq_true.mp this
theorem Drawn.ok {ss : List Str} (h : Drawn ss) : ∀ s ∈ ss, PyData.strOk s = true := fun s hs => by
  obtain ⟨rest, p⟩ := h
  exact pool_ok s (p.mem_iff.mp (List.mem_append_left _ hs))
def sp__law_names : GF := fun ds w _ k => ∃ (m c n : Nat), ds = [.st, .int (m : Int)] ∧ (m ≤ 24 ∧ w.n = some c ∧ n + m ≤ c) ∧ ∀ (ss : List Str) c', ss.length = m → Drawn ss → n ≤ c' → k (.lst (ss.map D.str)) ⟨w.M, some c'⟩
abbrev s__law_names : Stmt := topS 36
theorem sc__law_names : FnScope ["_law_state", "_law_many", "_law_some", "_law_turn"] ["_law_state", "_law_many"] (defScope s__law_names) := ⟨rfl, rfl, rfl, by decide +kernel, rfl, by decide +kernel, by decide +kernel⟩
def g__law_names : GS := (gSeq (gSet 2 (gBM "str" mSplitC (gC (.str "b aa zebra c quartzes ab m knows d mm likes z ba abcdefgh y zz e x f g hh jj kk pave")) (gaCons (gC (.str " ")) gaNil)))
  (gRet (gLc (giRange1 (gaCons (gVar 1) gaNil)) (ggName 3) gYes (gBM "list" mPopAt (gVar 2) (gaCons (gCall0 2 sp__law_take (gaCons (gVar 0) (gaCons (gCB fLen (gaCons (gVar 2) gaNil)) gaNil))) gaNil)) [3])))
theorem w__law_names {P : Program} {w : World} {K : PySem.W.Frag} {mg : Str → Option Value} {base : Heap} (T : DefAt K mg "_law_names" s__law_names ["_law_state", "_law_many"]) (B : Blt mg) (F__law_take : FnAt P w K mg base CX0 1 "_law_take" 2 sp__law_take) : FnAt P w K mg base CX0 2 "_law_names" 2 (sem0 4 g__law_names) := by
  have nd := sc__law_names.nd
  exact T.fn0 sc__law_names (fun f cdv A outer s H E hr => (dss_cons (ds_set (i := 2) nd rfl (by first | exact Or.inl rfl | exact Or.inr rfl) (de_bm PySem.F.plainAttrs_str PySem.F.slot_str_split (by rfl) mt_split ok_splitC de_str (da_cons de_str da_nil) (by rfl) (by rfl) (by rfl) (by rfl) (by rfl)))
  (dss_one (ds_ret (de_lc (own := [("_law_turn", 3)]) (us := [3]) rfl nd (di_range1 B (by rfl) (da_cons (de_var 1) da_nil)) (blkOk_by (N := ["_law_state", "_law_many", "_law_some", "_law_turn"]) (sc := defScope s__law_names) (by decide +kernel)) (by decide) (fun _ _ _ _ _ => (dg_name (i := 3) nd rfl (by first | exact Or.inl rfl | exact Or.inr rfl))) (fun _ _ _ _ _ => dts_nil) (fun _ _ _ _ _ => (de_bm PySem.F.plainAttrs_list PySem.F.slot_list_pop (by rfl) mt_popAt ok_popAt (de_var 2) (da_cons (de_call0 F__law_take hr (by rfl) (da_cons (de_var 0) (da_cons (de_len B (by rfl) (da_cons (de_var 2) da_nil)) da_nil))) da_nil) (by rfl) (by rfl) (by rfl) (by rfl) (by rfl))))))))

theorem v__law_names : ∀ ds w kx k, sp__law_names ds w kx k → gTr (sem0 4 g__law_names) ds w kx k := by
  rintro ds w kx k ⟨m, c, n, rfl, ⟨hm, hn, hc⟩, hk⟩
  have e : rho 4 [D.st, D.int (m : Int)] = [some .st, some (.int m), none, none] := rfl
  simp! only [g__law_names, e, giRange1, sp__law_take]
  refine ⟨by decide +kernel, by decide +kernel, ⟨by omega, by omega⟩, ?_⟩
  refine ⟨fun rem acc w' => ∃ (ss rest : List Str) (c' : Nat), acc = ss.map D.str ∧ w' = ⟨w.M ++ [.lst (rest.map D.str)], some c'⟩ ∧ ss.length + rem.length = m ∧ (ss ++ rest).Perm pool ∧ n + rem.length ≤ c', ⟨[], pool, c, rfl, by rw [hn]; rfl, ?_, List.Perm.refl _, ?_⟩, ?_, ?_⟩
  · rw [Int.toNat_natCast, range_len]
    exact Nat.zero_add _
  · rw [Int.toNat_natCast, range_len]
    exact hc
  · rintro acc w' ⟨ss, rest, c', rfl, rfl, h1, h2, h3⟩
    refine ⟨trivial, ⟨_, rfl⟩, lows_of fun x hx => ?_, hk ss c' (by simpa using h1) ⟨_, h2⟩ (by simpa using h3)⟩
    obtain ⟨s, _, rfl⟩ := List.mem_map.mp hx
    rfl
  · rintro x xs acc w' ⟨ss, rest, c', rfl, rfl, h1, h2, h3⟩
    rw [List.length_cons] at h1 h3
    have hlen : ss.length + rest.length = 24 := by
      have := h2.length_eq
      rw [List.length_append, pool_len] at this
      exact this
    simp! only [id_eq]
    have hr : 0 < (rest.map D.str).length := by rw [List.length_map]; omega
    refine take_use (n + xs.length) rfl (by omega) ⟨by omega, log_of (by rw [List.length_map]; exact Nat.lt_of_le_of_lt (show rest.length ≤ 24 by omega) (by decide))⟩ fun r c2 h4 h5 h6 => ?_
    simp! only [id_eq]
    rw [List.length_map] at h5
    have hl : r.toNat < rest.length := by omega
    refine ⟨h4, by rw [List.length_map]; exact h5, by omega, ?_⟩
    rw [List.getElem?_map, List.getElem?_eq_getElem hl]
    refine ⟨lt_sl (by rw [List.length_map]; omega), ss ++ [rest[r.toNat]], rest.eraseIdx r.toNat, c2, by simp, ?_, by simp; omega, ?_, h6⟩
    · rw [erase_map]
    · rw [List.append_assoc]
      exact ((erase_perm hl).append_left ss).trans h2
theorem names_use {w : Wd} {c : Nat} {kx : KX} {k : KD} {m : Int} (n : Nat) (hn : w.n = some c) (hc : n + 24 ≤ c) (hm : 0 ≤ m ∧ m ≤ 24) (h : ∀ (ss : List Str) c', (ss.length : Int) = m → Drawn ss → n ≤ c' → k (.lst (ss.map D.str)) ⟨w.M, some c'⟩) : sp__law_names [.st, .int m] w kx k :=
  ⟨m.toNat, c, n, by rw [Int.toNat_of_nonneg hm.1], ⟨by omega, hn, by omega⟩, fun ss c' h1 h2 h3 => h ss c' (by omega) h2 h3⟩
theorem ok__law_names {P : Program} {w : World} {K : PySem.W.Frag} {mg : Str → Option Value} {base : Heap} (T : DefAt K mg "_law_names" s__law_names ["_law_state", "_law_many"]) (B : Blt mg) (F__law_take : FnAt P w K mg base CX0 1 "_law_take" 2 sp__law_take) : FnAt P w K mg base CX0 2 "_law_names" 2 sp__law_names := (w__law_names T B F__law_take).trunc.imp v__law_names


def sp__law_part : GF := fun ds w _ k => ∃ c n : Nat, ds = [.st] ∧ (w.n = some c ∧ n + 3 ≤ c) ∧ ∀ p c', Part p → p.1 ≤ p.2 → p.2 ≤ 60 → n ≤ c' → k (fD p) ⟨w.M, some c'⟩
theorem lt212 {p : Qp} (h : p.1.natAbs ≤ 4000 ∧ p.2.natAbs ≤ 4000) : Lt2 12 p := ⟨Nat.lt_of_le_of_lt h.1 (by decide), Nat.lt_of_le_of_lt h.2 (by decide)⟩
theorem part_norm {t b : Int} (ht : 0 < t) (hb : 0 < b) (h1 : t ≤ 4000) (h2 : b ≤ 4000) : Part (norm t b) ∧ (norm t b).1 ≤ t ∧ (norm t b).2 ≤ b ∧ (norm t b).1 * b = t * (norm t b).2 := by
  have b0 : b ≠ 0 := by omega
  have f := fr_norm (t := t) b0
  have l := fr_le (t := t) b0
  have e := norm_eq (t := t) b0
  have fp := f.pos
  have p1 : 0 < (norm t b).1 := by
    have : 0 < (norm t b).1 * b := by
      rw [e]
      exact Int.mul_pos ht fp
    exact Int.pos_of_mul_pos_left this hb
  have l1 : (norm t b).1.natAbs ≤ t.natAbs := l.1
  have l2 : (norm t b).2.natAbs ≤ b.natAbs := l.2
  exact ⟨⟨f, lt212 ⟨by omega, by omega⟩, p1⟩, by omega, by omega, e⟩
theorem small_big {x : Int} (h : x.natAbs ≤ 100000) : Big x := Nat.lt_of_le_of_lt h (by decide +kernel)
theorem low_use {t b : Int} {w : Wd} {kx : KX} {k : KD} (ht : 0 < t) (hb : 0 < b) (h1 : t ≤ 4000) (h2 : b ≤ 4000) (h : ∀ p, Part p → p.1 ≤ t → p.2 ≤ b → p.1 * b = t * p.2 → k (fD p) w) : sp__law_lowest [.int t, .int b] w kx k := by
  obtain ⟨a1, a2, a3, a4⟩ := part_norm ht hb h1 h2
  exact ⟨t, b, rfl, ⟨by omega, small_big (by omega), small_big (by omega)⟩, h _ a1 a2 a3 a4⟩
theorem log_int {m : Int} (h0 : 0 ≤ m) (h : m ≤ 1000000000) : m.natAbs.log2 < 9000 := log_of (Nat.lt_of_le_of_lt (show m.natAbs ≤ 1000000000 by omega) (by decide))
abbrev s__law_part : Stmt := topS 37
theorem sc__law_part : FnScope ["_law_state", "_law_below"] ["_law_state"] (defScope s__law_part) := ⟨rfl, rfl, rfl, by decide +kernel, rfl, by decide +kernel, by decide +kernel⟩
def g__law_part : GS := (gSeq (gSet 1 (gBin ixD (DL.gLst (gaCons (gC (.int 2)) (gaCons (gC (.int 3)) (gaCons (gC (.int 4)) (gaCons (gC (.int 5)) (gaCons (gC (.int 10)) (gaCons (gBin addD (gC (.int 1)) (gCall0 2 sp__law_take (gaCons (gVar 0) (gaCons (gC (.int 60)) gaNil)))) gaNil))))))) (gCall0 2 sp__law_take (gaCons (gVar 0) (gaCons (gC (.int 6)) gaNil)))))
  (gRet (gCall0 2 sp__law_lowest (gaCons (gBin addD (gC (.int 1)) (gCall0 2 sp__law_take (gaCons (gVar 0) (gaCons (gVar 1) gaNil)))) (gaCons (gVar 1) gaNil)))))
theorem w__law_part {P : Program} {w : World} {K : PySem.W.Frag} {mg : Str → Option Value} {base : Heap} (T : DefAt K mg "_law_part" s__law_part ["_law_state"]) (B : Blt mg) (F__law_lowest : FnAt P w K mg base CX0 1 "_law_lowest" 2 sp__law_lowest) (F__law_take : FnAt P w K mg base CX0 1 "_law_take" 2 sp__law_take) : FnAt P w K mg base CX0 2 "_law_part" 1 (sem0 2 g__law_part) := by
  have nd := sc__law_part.nd
  exact T.fn0 sc__law_part (fun f cdv A outer s H E hr => (dss_cons (ds_set (i := 1) nd rfl (by first | exact Or.inl rfl | exact Or.inr rfl) (de_ix (de_lst (da_cons de_int (da_cons de_int (da_cons de_int (da_cons de_int (da_cons de_int (da_cons (de_add de_int (de_call0 F__law_take hr (by rfl) (da_cons (de_var 0) (da_cons de_int da_nil)))) da_nil))))))) (de_call0 F__law_take hr (by rfl) (da_cons (de_var 0) (da_cons de_int da_nil)))))
  (dss_one (ds_ret (de_call0 F__law_lowest hr (by rfl) (da_cons (de_add de_int (de_call0 F__law_take hr (by rfl) (da_cons (de_var 0) (da_cons (de_var 1) da_nil)))) (da_cons (de_var 1) da_nil)))))))

theorem v__law_part : ∀ ds w kx k, sp__law_part ds w kx k → sem0 2 g__law_part ds w kx k := by
  rintro ds w kx k ⟨c, n, rfl, ⟨hn, hc⟩, hk⟩
  have e : rho 2 [D.st] = [some .st, none] := rfl
  simp! only [g__law_part, e, sp__law_take]
  refine take_use (n + 2) hn (by omega) ⟨by decide, log_of (by decide)⟩ fun r1 c1 h0 h1 hc1 => ⟨by decide, take_use (n + 1) rfl (by omega) ⟨by decide, log_of (by decide)⟩ fun r2 c2 h2 h3 hc2 => ?_⟩
  refine ix_all (fun d => ∃ b : Int, d = .int b ∧ 0 < b ∧ b ≤ 60) h2 h3 (all_cons ⟨_, rfl, by decide, by decide⟩ (all_cons ⟨_, rfl, by decide, by decide⟩ (all_cons ⟨_, rfl, by decide, by decide⟩ (all_cons ⟨_, rfl, by decide, by decide⟩ (all_cons ⟨_, rfl, by decide, by decide⟩ (all_cons ⟨_, rfl, by omega, by omega⟩ all_nil)))))) ?_
  rintro d ⟨b, rfl, hb0, hb⟩
  simp! only [id_eq]
  refine take_use n rfl (by omega) ⟨hb0, log_int (by omega) (by omega)⟩ fun r3 c3 h4 h5 hc3 => ?_
  simp! only [id_eq]
  refine low_use (by omega) hb0 (by omega) (by omega) fun p hp p1 p2 p3 => hk p c3 hp ?_ (by omega) hc3
  have fp := hp.fr.pos
  have : p.1 * b ≤ p.2 * b := by
    rw [p3, Int.mul_comm]
    exact Int.mul_le_mul_of_nonneg_left (by omega) (by omega)
  exact Int.le_of_mul_le_mul_right this hb0
theorem part_use {w : Wd} {c : Nat} {kx : KX} {k : KD} (n : Nat) (hn : w.n = some c) (hc : n + 3 ≤ c) (h : ∀ p c', Part p → p.1 ≤ p.2 → p.2 ≤ 60 → n ≤ c' → k (fD p) ⟨w.M, some c'⟩) : sp__law_part [.st] w kx k := ⟨c, n, rfl, ⟨hn, hc⟩, h⟩
theorem ok__law_part {P : Program} {w : World} {K : PySem.W.Frag} {mg : Str → Option Value} {base : Heap} (T : DefAt K mg "_law_part" s__law_part ["_law_state"]) (B : Blt mg) (F__law_lowest : FnAt P w K mg base CX0 1 "_law_lowest" 2 sp__law_lowest) (F__law_take : FnAt P w K mg base CX0 1 "_law_take" 2 sp__law_take) : FnAt P w K mg base CX0 2 "_law_part" 1 sp__law_part := (w__law_part T B F__law_lowest F__law_take).imp v__law_part


end LW

namespace LW
open PySem PySem.Spec PyProof.Rows L2 RZ DL
local macro_rules | `(tactic| simp! only [$xs,*] $[$loc]?) => `(tactic| simp only [$xs,*, sem0,List.map_cons,List.map_nil,List.length_cons,List.length_nil,gSeq,gNext,gRet,gRetN,gIfS,gSet,gPar,gAsg,gDrop,gVar,gC,gBin,gUn,gB,gTru,gAnd,gOr,gNot,gAndV,gOrV,gNotV,gIf,gChain,gaNil,gaCons,DL.gTup,DL.gLst,gCB,gCall0,gAug,addD_i,addD_s,addD_l,addD_t,subD_i,mulD_i,mulD_l,fdivD_i,modD_i,powD_i,ltD_i,ltD_s,leD_i,gtD_i,geD_i,isD_n,isnotD_n,isNonD_non,isNonD_bl,isNonD_int,isNonD_str,isNonD_lst,isNonD_tup,negD_i,iaddD_i,truD_non,truD_bl,truD_int,truD_str,truD_lst,truD_tup,someK_some,ixD_l,ixD_t,fAbs_i,fInt_i,fInt_b,fMin2_i,fLen_l,fLen_t,fLen_s,fList_l,fList_t,fTuple_l,fTuple_t,optBK_some,fIsi_non,fIsi_bl,fIsi_int,fIsi_str,fIsi_lst,fIsi_tup,List.getElem?_cons_zero,List.getElem?_cons_succ,List.set_cons_zero,List.set_cons_succ,DL.ggName,ggNil0,ggCons1,ggTup2,ggTup3,gFor,giSeq,gLc,gYes,wipeR,true_and,and_true,at_0,at_1,at_2,kit_int_int,kit_bool_int,kit_str_int,kit_non_int,kit_list_int,kit_tuple_int,kit_int_bool,kit_bool_bool,kit_str_bool,kit_non_bool,kit_list_bool,kit_tuple_bool,kit_int_str,kit_bool_str,kit_str_str,kit_non_str,kit_list_str,kit_tuple_str,kit_int_list,kit_bool_list,kit_str_list,kit_non_list,kit_list_list,kit_tuple_list,kit_int_tuple,kit_bool_tuple,kit_str_tuple,kit_non_tuple,kit_list_tuple,kit_tuple_tuple,eqD_i,neD_i,eqD_s,neD_s,eqD_f,neD_f,Nat.zero_add,Nat.reduceAdd,nc0,nc1,nc2,nc3,nc4,nc5,nc6,nc7,nc8,nc9,eq_self,decide_true,decide_false,Int.reduceEq,Int.reduceLT,Int.reduceLE,Int.reduceNeg,Bool.not_true,Bool.not_false,Bool.false_eq_true,if_true,if_false,↓reduceIte,false_and,and_false,List.all_cons,List.all_nil,List.any_cons,List.any_nil,id_eq,Bool.and_true,Bool.true_and,Bool.or_false,Bool.false_or,Bool.and_false,Bool.false_and,gCut,eqD_b,neD_b,giZip,reduceCtorEq,Bool.true_eq_false,Bool.false_eq_true,gRevL,gSl,goNone,goSome,slD_l,ne_eq,not_false_eq_true,not_true_eq_false,gBM,isTy_l,isTy_s,new_at,new_set,isTy_new,cellK_new,append_new,popAt_new,gFrz_eq,frzK_new,fLen_new,fTuple_new,ixD_new,slA_l,slA_t,slA_new,addTD_t,addCD_l,mulCD_l,isbD_b,isnotbD_b,mSplitC_s,gLstC,gTr,ggSub,lstK_l,lstK_r,addLD_eq] $[$loc]?)



def nameOf : Row → Str
  | .of n _ => n
  | .steps n _ => n
  | .left n _ => n
  | .length n _ => n
structure Pt (p : Qp) : Prop where
  pt : Part p
  le : p.1 ≤ p.2
  b : p.2 ≤ 60
def Ups : Int → List Rate → Prop
  | _, [] => False
  | l, r :: rs => (r.1 = none ∧ rs = []) ∨ ∃ u, r.1 = some u ∧ l < u ∧ u ≤ 1000000 ∧ Ups u rs
def UpTo : Int → List Rate → Int → Prop
  | l, [], u => u = l
  | l, r :: rs, u => ∃ v, r.1 = some v ∧ l < v ∧ v ≤ u ∧ UpTo v rs u
theorem upTo_snoc {v : Int} {p : Qp} : ∀ {rs : List Rate} {l u : Int}, UpTo l rs u → u < v → UpTo l (rs ++ [(some v, p)]) v
  | [], l, u, h, hv => ⟨v, rfl, by
    have h : u = l := h
    omega, Int.le_refl _, rfl⟩
  | r :: rs, l, u, ⟨w, h1, h2, h3, h4⟩, hv => ⟨w, h1, h2, by omega, upTo_snoc h4 hv⟩
theorem ups_of {p : Qp} : ∀ {rs : List Rate} {l u : Int}, UpTo l rs u → u ≤ 1000000 → Ups l (rs ++ [(none, p)])
  | [], _, _, _, _ => .inl ⟨rfl, rfl⟩
  | r :: rs, l, u, ⟨w, h1, h2, h3, h4⟩, hu => .inr ⟨w, h1, h2, by omega, ups_of h4 hu⟩
theorem ups_none : ∀ {rs : List Rate} {l : Int}, Ups l rs → ∃ q, (none, q) ∈ rs
  | [], _, h => h.elim
  | r :: rs, _, .inl ⟨h, _⟩ => ⟨r.2, by rw [← h]; exact List.mem_cons_self⟩
  | r :: rs, _, .inr ⟨u, _, _, _, h⟩ => by
    obtain ⟨q, hq⟩ := ups_none h
    exact ⟨q, List.mem_cons_of_mem _ hq⟩
def RowS : Row → Prop
  | .of _ p => Pt p
  | .steps _ rs => 2 ≤ rs.length ∧ rs.length ≤ 4 ∧ (∀ r ∈ rs, Pt r.2) ∧ Ups 0 rs
  | .left _ p => Pt p
  | .length _ m => 0 < m ∧ m ≤ 1000
theorem RowS.ok {r : Row} (h : RowS r) : RowOk r := by
  cases r with
  | of n p => exact Pt.pt h
  | steps n rs => exact ⟨by have := h.2.1; omega, fun x hx => (h.2.2.1 x hx).pt, ups_none h.2.2.2⟩
  | left n p => exact Pt.pt h
  | length n m => exact h
theorem pt_low {p : Qp} {t : Int} (hp : Part p) (p2 : p.2 ≤ 60) (p3 : p.1 * 60 = t * p.2) (ht : t ≤ 60) : Pt p := by
  refine ⟨hp, ?_, p2⟩
  have fp := hp.fr.pos
  have : p.1 * 60 ≤ p.2 * 60 := by
    rw [p3, Int.mul_comm p.2]
    exact Int.mul_le_mul_of_nonneg_right ht (by omega)
  omega
def sp__law_row : GF := fun ds w _ k => ∃ (s : Str) (room : Int) (c n : Nat), ds = [.st, .str s, .int room] ∧ ((0 ≤ room ∧ room ≤ 60) ∧ w.n = some c ∧ n + 20 ≤ c) ∧ ∀ r t c', RowS r → nameOf r = s → RowW r t → 0 ≤ t → t ≤ room → n ≤ c' → k (.tup [rowD r, .int t]) ⟨w.M, some c'⟩
theorem sixty {p : Qp} {m t : Int} (h : p.1 * 60 = t * p.2) (hp : 0 < p.2) (l : t ≤ m) : 60 * p.1 ≤ m * p.2 := by
  rw [Int.mul_comm, h]
  exact Int.mul_le_mul_of_nonneg_right l (by omega)
abbrev s__law_row : Stmt := topS 38
theorem sc__law_row : FnScope ["_law_state", "_law_name", "_law_room", "_law_way", "_law_most", "_law_rates", "_law_upto", "_law_turn"] ["_law_state", "_law_name", "_law_room"] (defScope s__law_row) := ⟨rfl, rfl, rfl, by decide +kernel, rfl, by decide +kernel, by decide +kernel⟩
def g__law_row : GS := (gSeq (gSet 3 (gCall0 2 sp__law_take (gaCons (gVar 0) (gaCons (gC (.int 8)) gaNil))))
  (gSeq (gIfS (gB (gBin gtD (gVar 3) (gC (.int 5)))) (gRet (gTup (gaCons (gTup (gaCons (gC (.str "length")) (gaCons (gVar 1) (gaCons (gBin addD (gC (.int 1)) (gCall0 2 sp__law_take (gaCons (gVar 0) (gaCons (gBin ixD (DL.gLst (gaCons (gC (.int 5)) (gaCons (gC (.int 1000)) gaNil))) (gCall0 2 sp__law_take (gaCons (gVar 0) (gaCons (gC (.int 2)) gaNil)))) gaNil)))) gaNil)))) (gaCons (gC (.int 0)) gaNil)))) gNext)
  (gSeq (gIfS (gOr (gB (gBin gtD (gVar 3) (gC (.int 3)))) (gB (gBin eqD (gVar 2) (gC (.int 0))))) (gRet (gTup (gaCons (gTup (gaCons (gC (.str "left")) (gaCons (gVar 1) (gaCons (gCall0 1 sp__law_part (gaCons (gVar 0) gaNil)) gaNil)))) (gaCons (gC (.int 0)) gaNil)))) gNext)
  (gSeq (gSet 4 (gBin addD (gC (.int 1)) (gCall0 2 sp__law_take (gaCons (gVar 0) (gaCons (gCB fMin2 (gaCons (gVar 2) (gaCons (gBin ixD (DL.gLst (gaCons (gC (.int 12)) (gaCons (gC (.int 60)) gaNil))) (gBin fdivD (gCall0 2 sp__law_take (gaCons (gVar 0) (gaCons (gC (.int 3)) gaNil))) (gC (.int 2)))) gaNil))) gaNil)))))
  (gSeq (gIfS (gB (gBin gtD (gVar 3) (gC (.int 1)))) (gRet (gTup (gaCons (gTup (gaCons (gC (.str "of")) (gaCons (gVar 1) (gaCons (gCall0 2 sp__law_lowest (gaCons (gVar 4) (gaCons (gC (.int 60)) gaNil))) gaNil)))) (gaCons (gVar 4) gaNil)))) gNext)
  (gSeq (gSet 5 (gLstC gaNil))
  (gSeq (gSet 6 (gC (.int 0)))
  (gSeq (gFor (giRange1 (gaCons (gBin addD (gC (.int 1)) (gCall0 2 sp__law_take (gaCons (gVar 0) (gaCons (gC (.int 3)) gaNil)))) gaNil)) (ggName 7) (gSeq (gSet 6 (gBin addD (gBin addD (gVar 6) (gC (.int 1))) (gCall0 2 sp__law_take (gaCons (gVar 0) (gaCons (gBin ixD (DL.gLst (gaCons (gC (.int 3)) (gaCons (gC (.int 9)) (gaCons (gBin powD (gC (.int 10)) (gC (.int 5))) gaNil)))) (gCall0 2 sp__law_take (gaCons (gVar 0) (gaCons (gC (.int 3)) gaNil)))) gaNil)))))
  (gDrop (gBM "list" mAppend (gVar 5) (gaCons (gTup (gaCons (gVar 6) (gaCons (gCall0 2 sp__law_lowest (gaCons (gBin addD (gC (.int 1)) (gCall0 2 sp__law_take (gaCons (gVar 0) (gaCons (gVar 4) gaNil)))) (gaCons (gC (.int 60)) gaNil))) gaNil))) gaNil)))))
  (gSeq (gDrop (gBM "list" mAppend (gVar 5) (gaCons (gTup (gaCons (gC .non) (gaCons (gCall0 2 sp__law_lowest (gaCons (gBin addD (gC (.int 1)) (gCall0 2 sp__law_take (gaCons (gVar 0) (gaCons (gVar 4) gaNil)))) (gaCons (gC (.int 60)) gaNil))) gaNil))) gaNil)))
  (gRet (gTup (gaCons (gTup (gaCons (gC (.str "steps")) (gaCons (gVar 1) (gaCons (gCB fTuple (gaCons (gVar 5) gaNil)) gaNil)))) (gaCons (gVar 4) gaNil)))))))))))))
theorem w__law_row {P : Program} {w : World} {K : PySem.W.Frag} {mg : Str → Option Value} {base : Heap} (T : DefAt K mg "_law_row" s__law_row ["_law_state", "_law_name", "_law_room"]) (B : Blt mg) (F__law_take : FnAt P w K mg base CX0 1 "_law_take" 2 sp__law_take) (F__law_lowest : FnAt P w K mg base CX0 1 "_law_lowest" 2 sp__law_lowest) (F__law_part : FnAt P w K mg base CX0 2 "_law_part" 1 sp__law_part) : FnAt P w K mg base CX0 3 "_law_row" 3 (sem0 8 g__law_row) := by
  have nd := sc__law_row.nd
  exact T.fn0 sc__law_row (fun f cdv A outer s H E hr => (dss_cons (ds_set (i := 3) nd rfl (by first | exact Or.inl rfl | exact Or.inr rfl) (de_call0 F__law_take hr (by rfl) (da_cons (de_var 0) (da_cons de_int da_nil))))
  (dss_cons (ds_if (dt_gt (de_var 3) de_int) (dss_one (ds_ret (de_tup (da_cons (de_tup (da_cons de_str (da_cons (de_var 1) (da_cons (de_add de_int (de_call0 F__law_take hr (by rfl) (da_cons (de_var 0) (da_cons (de_ix (de_lst (da_cons de_int (da_cons de_int da_nil))) (de_call0 F__law_take hr (by rfl) (da_cons (de_var 0) (da_cons de_int da_nil)))) da_nil)))) da_nil)))) (da_cons de_int da_nil))))) dss_nil)
  (dss_cons (ds_if (dt_w (dw_or (dt_gt (de_var 3) de_int) (dw_or1 (dt_eq hr (de_var 2) de_int)))) (dss_one (ds_ret (de_tup (da_cons (de_tup (da_cons de_str (da_cons (de_var 1) (da_cons (de_call0 F__law_part hr (by rfl) (da_cons (de_var 0) da_nil)) da_nil)))) (da_cons de_int da_nil))))) dss_nil)
  (dss_cons (ds_set (i := 4) nd rfl (by first | exact Or.inl rfl | exact Or.inr rfl) (de_add de_int (de_call0 F__law_take hr (by rfl) (da_cons (de_var 0) (da_cons (de_min2 B rfl (by rfl) (da_cons (de_var 2) (da_cons (de_ix (de_lst (da_cons de_int (da_cons de_int da_nil))) (de_fdiv (de_call0 F__law_take hr (by rfl) (da_cons (de_var 0) (da_cons de_int da_nil))) de_int)) da_nil))) da_nil)))))
  (dss_cons (ds_if (dt_gt (de_var 3) de_int) (dss_one (ds_ret (de_tup (da_cons (de_tup (da_cons de_str (da_cons (de_var 1) (da_cons (de_call0 F__law_lowest hr (by rfl) (da_cons (de_var 4) (da_cons de_int da_nil))) da_nil)))) (da_cons (de_var 4) da_nil))))) dss_nil)
  (dss_cons (ds_set (i := 5) nd rfl (by first | exact Or.inl rfl | exact Or.inr rfl) (de_lstC da_nil))
  (dss_cons (ds_set (i := 6) nd rfl (by first | exact Or.inl rfl | exact Or.inr rfl) de_int)
  (dss_cons (ds_for PassesOwn.never rfl (di_range1 B (by rfl) (da_cons (de_add de_int (de_call0 F__law_take hr (by rfl) (da_cons (de_var 0) (da_cons de_int da_nil)))) da_nil)) (dg_name (i := 7) nd rfl (by first | exact Or.inl rfl | exact Or.inr rfl)) (dss_cons (ds_set (i := 6) nd rfl (by first | exact Or.inl rfl | exact Or.inr rfl) (de_add (de_add (de_var 6) de_int) (de_call0 F__law_take hr (by rfl) (da_cons (de_var 0) (da_cons (de_ix (de_lst (da_cons de_int (da_cons de_int (da_cons (de_pow de_int de_int) da_nil)))) (de_call0 F__law_take hr (by rfl) (da_cons (de_var 0) (da_cons de_int da_nil)))) da_nil)))))
  (dss_one (ds_expr (de_bm PySem.F.plainAttrs_list PySem.F.slot_list_append (by rfl) mt_append ok_append (de_var 5) (da_cons (de_tup (da_cons (de_var 6) (da_cons (de_call0 F__law_lowest hr (by rfl) (da_cons (de_add de_int (de_call0 F__law_take hr (by rfl) (da_cons (de_var 0) (da_cons (de_var 4) da_nil)))) (da_cons de_int da_nil))) da_nil))) da_nil) (by rfl) (by rfl) (by rfl) (by rfl) (by rfl))))))
  (dss_cons (ds_expr (de_bm PySem.F.plainAttrs_list PySem.F.slot_list_append (by rfl) mt_append ok_append (de_var 5) (da_cons (de_tup (da_cons de_non (da_cons (de_call0 F__law_lowest hr (by rfl) (da_cons (de_add de_int (de_call0 F__law_take hr (by rfl) (da_cons (de_var 0) (da_cons (de_var 4) da_nil)))) (da_cons de_int da_nil))) da_nil))) da_nil) (by rfl) (by rfl) (by rfl) (by rfl) (by rfl)))
  (dss_one (ds_ret (de_tup (da_cons (de_tup (da_cons de_str (da_cons (de_var 1) (da_cons (de_tuple B (by rfl) (da_cons (de_var 5) da_nil)) da_nil)))) (da_cons (de_var 4) da_nil)))))))))))))))

theorem v__law_row : ∀ ds w kx k, sp__law_row ds w kx k → gTr (sem0 8 g__law_row) ds w kx k := by
  rintro ds w kx k ⟨s, room, c, n, rfl, ⟨⟨hr0, hr1⟩, hn, hc⟩, hk⟩
  have e : rho 8 [D.st, D.str s, D.int room] = [some .st, some (.str s), some (.int room), none, none, none, none, none] := rfl
  have lw : ∀ {m : Nat} (r : Row) (t : Int), low m (.tup [rowD r, .int t]) = true := fun r t => by
    show (low _ (rowD r) && (true && true)) = true
    rw [low_row]
    rfl
  simp! only [g__law_row, e, sp__law_take]
  refine take_use (n + 19) hn (by omega) ⟨by decide, log_of (by decide)⟩ fun way c1 h0 h1 hc1 => ?_
  simp! only [id_eq]
  refine ite2 (fun _ => ?_) (fun _ => ?_)
  · refine ⟨by decide, take_use (n + 18) rfl (by omega) ⟨by decide, log_of (by decide)⟩ fun r1 c2 h2 h3 hc2 => ?_⟩
    refine ix_all (fun d => ∃ b : Int, d = .int b ∧ 0 < b ∧ b ≤ 1000) h2 h3 (all_cons ⟨_, rfl, by decide, by decide⟩ (all_cons ⟨_, rfl, by decide, by decide⟩ all_nil)) ?_
    rintro d ⟨b, rfl, hb0, hb⟩
    refine take_use n rfl (by omega) ⟨hb0, log_int (by omega) (by omega)⟩ fun r2 c3 h4 h5 hc3 => ?_
    simp! only [id_eq]
    exact ⟨by decide, by decide, ⟨_, (List.append_nil _).symm⟩, lw (.length s (1 + r2)) 0, hk (.length s (1 + r2)) 0 c3 ⟨by omega, by omega⟩ rfl trivial (Int.le_refl _) hr0 hc3⟩
  have end_left : ∀ w', w' = (⟨w.M, some c1⟩ : Wd) → sp__law_part [.st] w' noX fun x w1 => 3 ≤ sizeLine ∧ 2 ≤ sizeLine ∧ (∃ r, w1.M = w.M ++ r) ∧ low w.M.length (.tup [.tup [.str "left", .str s, x], .int 0]) = true ∧ k (.tup [.tup [.str "left", .str s, x], .int 0]) ⟨w.M, w1.n⟩ := by
    rintro w' rfl
    exact part_use n rfl (by omega) fun p c2 hp pa pb hc2 => ⟨by decide, by decide, ⟨_, (List.append_nil _).symm⟩, lw (.left s p) 0, hk (.left s p) 0 c2 ⟨hp, pa, pb⟩ rfl trivial (Int.le_refl _) hr0 hc2⟩
  refine ite2 (fun _ => end_left _ rfl) (fun _ => ite2 (fun _ => end_left _ rfl) (fun hr => ?_))
  have hroom : 0 < room := by
    have : room ≠ 0 := by simpa using hr
    omega
  refine ⟨by decide, take_use (n + 18) rfl (by omega) ⟨by decide, log_of (by decide)⟩ fun r1 c2 h2 h3 hc2 => ?_⟩
  have h23 : 0 ≤ r1.fdiv 2 ∧ r1.fdiv 2 < 2 := by
    rw [Int.fdiv_eq_ediv_of_nonneg _ (by decide)]
    omega
  refine ⟨⟨by decide, by decide⟩, ?_⟩
  refine ix_all (fun d => ∃ b : Int, d = .int b ∧ 0 < b ∧ b ≤ 60) h23.1 h23.2 (all_cons ⟨_, rfl, by decide, by decide⟩ (all_cons ⟨_, rfl, by decide, by decide⟩ all_nil)) ?_
  rintro d ⟨b, rfl, hb0, hb⟩
  simp! only [id_eq]
  have hmin : 0 < (if b < room then b else room) ∧ (if b < room then b else room) ≤ room ∧ (if b < room then b else room) ≤ 60 := by
    split <;> omega
  refine take_use (n + 17) rfl (by omega) ⟨hmin.1, log_int (by omega) (by omega)⟩ fun r2 c3 h4 h5 hc3 => ?_
  simp! only [id_eq]
  obtain ⟨most, hmost⟩ : ∃ most, most = 1 + r2 := ⟨_, rfl⟩
  rw [← hmost]
  have m1 : 0 < most := by omega
  have m2 : most ≤ room := by omega
  refine ite2 (fun _ => ?_) (fun _ => ?_)
  · exact low_use m1 (by decide) (by omega) (by decide) fun p hp p1 p2 p3 => ⟨by decide, by decide, ⟨_, (List.append_nil _).symm⟩, lw (.of s p) most, hk (.of s p) most c3 (pt_low hp p2 p3 (by omega)) rfl (sixty p3 hp.fr.pos (Int.le_refl _)) (by omega) m2 (by omega)⟩
  · simp! only [giRange1]
    refine ⟨by decide, take_use (n + 16) rfl (by omega) ⟨by decide, log_of (by decide)⟩ fun r3 c4 h6 h7 hc4 => ?_⟩
    simp! only [id_eq]
    refine ⟨by omega, fun rem ρ w' => ∃ (rs : List Rate) (u : Int) (x : Option D) (c' : Nat), ρ = [some .st, some (.str s), some (.int room), some (.int way), some (.int most), some (.rf w.M.length), some (.int u), x] ∧ w' = ⟨w.M ++ [.lst (rs.map rateD)], some c'⟩ ∧
      (rs.length + rem.length ≤ 3 ∧ 1 ≤ rs.length + rem.length) ∧ (UpTo 0 rs u ∧ u ≤ 100001 * rs.length) ∧ (∀ r ∈ rs, Pt r.2 ∧ 60 * r.2.1 ≤ most * r.2.2) ∧ n + 4 + 4 * rem.length ≤ c', ⟨[], 0, none, c4, rfl, rfl, ?_, ⟨rfl, by decide⟩, (by intro r hr; cases hr), ?_⟩, ?_, ?_⟩
    · rw [range_len]
      simp
      omega
    · rw [range_len]
      omega
    · rintro ρ w' ⟨rs, u, x, c5, rfl, rfl, hl, ⟨hu, hu2⟩, hrs, hc5⟩
      rw [List.length_nil] at hl hc5
      refine ⟨trivial, ?_⟩
      simp! only [id_eq]
      refine take_use (n + 3) rfl (by omega) ⟨m1, log_int (by omega) (by omega)⟩ fun r4 c6 h8 h9 hc6 => ?_
      simp! only [id_eq]
      refine low_use (by omega) (by decide) (by omega) (by decide) fun p hp p1 p2 p3 => ?_
      have h60 := sixty p3 hp.fr.pos (show 1 + r4 ≤ most by omega)
      simp! only [id_eq]
      refine ⟨by decide, lt_sl (by rw [List.length_map]; omega), by decide, by decide, ⟨_, rfl⟩, ?_, ?_⟩
      · have := lw (m := w.M.length) (.steps s (rs ++ [(none, p)])) most
        rw [rowD, List.map_append] at this
        exact this
      · have := hk (.steps s (rs ++ [(none, p)])) most c6 ⟨by rw [List.length_append]; simp; omega, by rw [List.length_append]; simp; omega, fun r hr => ?_, ups_of hu (by omega)⟩ rfl (fun r hr => ?_) (by omega) m2 (by omega)
        · rw [rowD, List.map_append] at this
          exact this
        · rcases List.mem_append.mp hr with hr | hr
          · exact (hrs r hr).1
          · rw [List.mem_singleton.mp hr]
            exact pt_low hp p2 p3 (by omega)
        · rcases List.mem_append.mp hr with hr | hr
          · exact (hrs r hr).2
          · rw [List.mem_singleton.mp hr]
            exact h60
    · rintro z xs ρ w' ⟨rs, u, x, c5, rfl, rfl, hl, ⟨hu, hu2⟩, hrs, hc5⟩
      rw [List.length_cons] at hl hc5
      refine ⟨trivial, ?_⟩
      simp! only [id_eq]
      refine ⟨⟨by decide, by decide, by decide⟩, by decide, take_use (n + 4 + 4 * xs.length + 2) rfl (by omega) ⟨by decide, log_of (by decide)⟩ fun r4 c6 h8 h9 hc6 => ?_⟩
      refine ix_all (fun d => ∃ b : Int, d = .int b ∧ 0 < b ∧ b ≤ 100000) h8 h9 (all_cons ⟨_, rfl, by decide, by decide⟩ (all_cons ⟨_, rfl, by decide, by decide⟩ (all_cons ⟨_, rfl, by decide, by decide⟩ all_nil))) ?_
      rintro d ⟨b2, rfl, hb20, hb2⟩
      refine take_use (n + 4 + 4 * xs.length + 1) rfl (by omega) ⟨hb20, log_int (by omega) (by omega)⟩ fun r5 c7 h10 h11 hc7 => ?_
      simp! only [id_eq]
      refine take_use (n + 4 + 4 * xs.length) rfl (by omega) ⟨m1, log_int (by omega) (by omega)⟩ fun r6 c8 h12 h13 hc8 => ?_
      simp! only [id_eq]
      refine low_use (by omega) (by decide) (by omega) (by decide) fun p hp p1 p2 p3 => ?_
      have h60 := sixty p3 hp.fr.pos (show 1 + r6 ≤ most by omega)
      simp! only [id_eq]
      refine ⟨by decide, lt_sl (by rw [List.length_map]; omega), rs ++ [(some (u + 1 + r5), p)], u + 1 + r5, _, c8, rfl, by rw [List.map_append]; rfl, by rw [List.length_append]; simp; omega, ⟨upTo_snoc hu (by omega), by rw [List.length_append, List.length_singleton]; omega⟩, fun r hr => ?_, hc8⟩
      rcases List.mem_append.mp hr with hr | hr
      · exact hrs r hr
      · rw [List.mem_singleton.mp hr]
        exact ⟨pt_low hp p2 p3 (by omega), h60⟩
theorem ok__law_row {P : Program} {w : World} {K : PySem.W.Frag} {mg : Str → Option Value} {base : Heap} (T : DefAt K mg "_law_row" s__law_row ["_law_state", "_law_name", "_law_room"]) (B : Blt mg) (F__law_take : FnAt P w K mg base CX0 1 "_law_take" 2 sp__law_take) (F__law_lowest : FnAt P w K mg base CX0 1 "_law_lowest" 2 sp__law_lowest) (F__law_part : FnAt P w K mg base CX0 2 "_law_part" 1 sp__law_part) : FnAt P w K mg base CX0 3 "_law_row" 3 sp__law_row := (w__law_row T B F__law_take F__law_lowest F__law_part).trunc.imp v__law_row


end LW

namespace LW
open PySem PySem.Spec PyProof.Rows L2 RZ DL
local macro_rules | `(tactic| simp! only [$xs,*] $[$loc]?) => `(tactic| simp only [$xs,*, sem0,List.map_cons,List.map_nil,List.length_cons,List.length_nil,gSeq,gNext,gRet,gRetN,gIfS,gSet,gPar,gAsg,gDrop,gVar,gC,gBin,gUn,gB,gTru,gAnd,gOr,gNot,gAndV,gOrV,gNotV,gIf,gChain,gaNil,gaCons,DL.gTup,DL.gLst,gCB,gCall0,gAug,addD_i,addD_s,addD_l,addD_t,subD_i,mulD_i,mulD_l,fdivD_i,modD_i,powD_i,ltD_i,ltD_s,leD_i,gtD_i,geD_i,isD_n,isnotD_n,isNonD_non,isNonD_bl,isNonD_int,isNonD_str,isNonD_lst,isNonD_tup,negD_i,iaddD_i,truD_non,truD_bl,truD_int,truD_str,truD_lst,truD_tup,someK_some,ixD_l,ixD_t,fAbs_i,fInt_i,fInt_b,fMin2_i,fLen_l,fLen_t,fLen_s,fList_l,fList_t,fTuple_l,fTuple_t,optBK_some,fIsi_non,fIsi_bl,fIsi_int,fIsi_str,fIsi_lst,fIsi_tup,List.getElem?_cons_zero,List.getElem?_cons_succ,List.set_cons_zero,List.set_cons_succ,DL.ggName,ggNil0,ggCons1,ggTup2,ggTup3,gFor,giSeq,gLc,gYes,wipeR,true_and,and_true,at_0,at_1,at_2,kit_int_int,kit_bool_int,kit_str_int,kit_non_int,kit_list_int,kit_tuple_int,kit_int_bool,kit_bool_bool,kit_str_bool,kit_non_bool,kit_list_bool,kit_tuple_bool,kit_int_str,kit_bool_str,kit_str_str,kit_non_str,kit_list_str,kit_tuple_str,kit_int_list,kit_bool_list,kit_str_list,kit_non_list,kit_list_list,kit_tuple_list,kit_int_tuple,kit_bool_tuple,kit_str_tuple,kit_non_tuple,kit_list_tuple,kit_tuple_tuple,eqD_i,neD_i,eqD_s,neD_s,eqD_f,neD_f,Nat.zero_add,Nat.reduceAdd,nc0,nc1,nc2,nc3,nc4,nc5,nc6,nc7,nc8,nc9,eq_self,decide_true,decide_false,Int.reduceEq,Int.reduceLT,Int.reduceLE,Int.reduceNeg,Bool.not_true,Bool.not_false,Bool.false_eq_true,if_true,if_false,↓reduceIte,false_and,and_false,List.all_cons,List.all_nil,List.any_cons,List.any_nil,id_eq,Bool.and_true,Bool.true_and,Bool.or_false,Bool.false_or,Bool.and_false,Bool.false_and,gCut,eqD_b,neD_b,giZip,reduceCtorEq,Bool.true_eq_false,Bool.false_eq_true,gRevL,gSl,goNone,goSome,slD_l,ne_eq,not_false_eq_true,not_true_eq_false,gBM,isTy_l,isTy_s,new_at,new_set,isTy_new,cellK_new,append_new,popAt_new,gFrz_eq,frzK_new,fLen_new,fTuple_new,ixD_new,slA_l,slA_t,slA_new,addTD_t,addCD_l,mulCD_l,isbD_b,isnotbD_b,mSplitC_s,gLstC,gTr,ggSub,lstK_l,lstK_r,addLD_eq] $[$loc]?)



theorem row_use {w : Wd} {c : Nat} {kx : KX} {k : KD} {s : Str} {room : Int} (n : Nat) (hn : w.n = some c) (hc : n + 20 ≤ c) (hr : 0 ≤ room ∧ room ≤ 60) (h : ∀ r t c', RowS r → nameOf r = s → RowW r t → 0 ≤ t → t ≤ room → n ≤ c' → k (.tup [rowD r, .int t]) ⟨w.M, some c'⟩) : sp__law_row [.st, .str s, .int room] w kx k := ⟨s, room, c, n, rfl, ⟨hr, hn, hc⟩, h⟩
theorem deps_strs : ∀ ss : List Str, deps (ss.map D.str) = 0
  | [] => rfl
  | s :: ss => by
    show max 0 (deps (ss.map D.str)) = 0
    rw [deps_strs ss]
    rfl
theorem lays_strs : ∀ {ss : List Str}, (∀ s ∈ ss, PyData.strOk s = true) → lays (ss.map D.str) = true
  | [], _ => rfl
  | s :: ss, h => by
    have := h s List.mem_cons_self
    show (PyData.strOk s && lays (ss.map D.str)) = true
    rw [this, lays_strs fun x hx => h x (List.mem_cons_of_mem _ hx)]
    rfl
theorem ne_nil {ss : List Str} {w : Wd} {k : KD} (h : ∀ s ∈ ss, PyData.strOk s = true) (h0 : 0 < ss.length) (hk : k (.bl true) w) : neD (.lst (ss.map D.str)) (.lst []) w k := by
  obtain ⟨ps, h1, h2, h3⟩ := lays_pd (lays_strs h)
  show neD0 _ _ w k
  unfold neD0
  have e1 : toPD (.lst (ss.map D.str)) = some (.list ps) := by
    rw [toPD, h1]
    rfl
  have e2 : toPD (.lst []) = some (.list []) := rfl
  rw [e1, e2]
  have d0 : PyData.depth (.list ps) = 1 := by
    show PyData.depthAll ps + 1 = 1
    rw [h3, deps_strs]
  have s1 : SeqAt.shaped (.list ps) = true := by
    unfold SeqAt.shaped
    rw [show PyData.canLay0 (.list ps) = PyData.canLayAll0 ps from rfl, h2, d0]
    rfl
  refine ⟨s1, rfl, ?_⟩
  have ne : ps ≠ [] := by
    cases ss with
    | nil => cases h0
    | cons s r =>
      rintro rfl
      rw [List.map_cons, toPDs] at h1
      revert h1
      cases toPD (.str s) <;> cases toPDs (r.map D.str) <;> intro h1 <;> cases h1
  cases ps with
  | nil => exact absurd rfl ne
  | cons p r => exact hk
def rowK : D → D
  | .tup (s :: _) => s
  | _ => .non
theorem rowK_row (r : Row) : rowK (rowD r) = .str (kindS r) := by cases r <;> rfl
theorem rowK_rows (rs : List Row) : (rs.map rowD).map rowK = (rs.map kindS).map D.str := by
  rw [List.map_map, List.map_map]
  exact List.map_congr_left fun r _ => rowK_row r
theorem rowsW_mono {rs : List Row} {m n : Int} (h : RowsW rs m) (l : m ≤ n) : RowsW rs n := by
  obtain ⟨a, b, h1, h2, h3⟩ := h
  exact ⟨a, b, h1, h2, by omega⟩
theorem rowsW_nil {m : Int} (h : 0 ≤ m) : RowsW [] m := ⟨0, 0, wt_nil (by decide), wt_nil (by decide), by omega⟩
def lefts (rs : List Row) : Nat := (rs.map kindS).count ("left" : Str)
structure RowsS (rs : List Row) (ss : List Str) (m : Nat) : Prop where
  len : rs.length ≤ m
  ok : ∀ r ∈ rs, RowS r
  nm : ∀ r ∈ rs, nameOf r ∈ ss
  w : RowsW rs 60
  lf : lefts rs ≤ 3
theorem RowsS.rows {rs : List Row} {ss : List Str} {m n : Nat} (h : RowsS rs ss m) (hn : m ≤ n) : RowsOk rs n := ⟨Nat.le_trans h.len hn, fun r hr => (h.ok r hr).ok⟩
theorem lefts_snoc (rs : List Row) (r : Row) : lefts (rs ++ [r]) = lefts rs + if kindS r = "left" then 1 else 0 := by
  unfold lefts
  rw [List.map_append, List.count_append, List.map_singleton, List.count_singleton]
  by_cases h : kindS r = "left"
  · rw [if_pos h, if_pos (by rw [h]; exact beq_self_eq_true _)]
  · rw [if_neg h, if_neg (by rw [beq_iff_eq]; exact h)]
def sp__law_rows : GF := fun ds w _ k => ∃ (ss : List Str) (m c n : Nat), ds = [.st, .lst (ss.map D.str), .int (m : Int)] ∧ ((0 < ss.length ∧ ss.length ≤ 30 ∧ m ≤ 8 ∧ (∀ s ∈ ss, PyData.strOk s = true)) ∧ w.n = some c ∧ n + 21 * m ≤ c) ∧ ∀ rs c', RowsS rs ss m → n ≤ c' → k (.tup (rs.map rowD)) ⟨w.M, some c'⟩
abbrev s__law_rows : Stmt := topS 39
theorem sc__law_rows : FnScope ["_law_state", "_law_names_here", "_law_many", "_law_room", "_law_found", "_law_turn", "_law_row_here", "_law_taken", "_law_one"] ["_law_state", "_law_names_here", "_law_many"] (defScope s__law_rows) := ⟨rfl, rfl, rfl, by decide +kernel, rfl, by decide +kernel, by decide +kernel⟩
def g__law_rows : GS := (gSeq (gSet 3 (gC (.int 60)))
  (gSeq (gSet 4 (gLstC gaNil))
  (gSeq (gFor (giRange1 (gaCons (gBin mulD (gVar 2) (gCB fInt (gaCons (gBin neD (gVar 1) (DL.gLst gaNil)) gaNil))) gaNil)) (ggName 5) (gSeq (gAsg (gCall0 3 sp__law_row (gaCons (gVar 0) (gaCons (gBin ixD (gVar 1) (gCall0 2 sp__law_take (gaCons (gVar 0) (gaCons (gCB fLen (gaCons (gVar 1) gaNil)) gaNil)))) (gaCons (gVar 3) gaNil)))) (ggTup 2 (ggCons (ggName 6) (ggCons (ggName 7) ggNil))))
  (gSeq (gSet 3 (gBin subD (gVar 3) (gVar 7)))
  (gIfS (gOr (gB (gBin neD (gBin ixD (gVar 6) (gC (.int 0))) (gC (.str "left")))) (gB (gBin ltD (gBM "list" mCountS (gLc (giSeq (gVar 4)) (ggName 8) gYes (gBin ixD (gVar 8) (gC (.int 0))) [8]) (gaCons (gC (.str "left")) gaNil)) (gC (.int 3))))) (gDrop (gBM "list" mAppend (gVar 4) (gaCons (gVar 6) gaNil))) gNext))))
  (gRet (gCB fTuple (gaCons (gVar 4) gaNil))))))
theorem w__law_rows {P : Program} {w : World} {K : PySem.W.Frag} {mg : Str → Option Value} {base : Heap} (T : DefAt K mg "_law_rows" s__law_rows ["_law_state", "_law_names_here", "_law_many"]) (B : Blt mg) (F__law_row : FnAt P w K mg base CX0 3 "_law_row" 3 sp__law_row) (F__law_take : FnAt P w K mg base CX0 1 "_law_take" 2 sp__law_take) : FnAt P w K mg base CX0 4 "_law_rows" 3 (sem0 9 g__law_rows) := by
  have nd := sc__law_rows.nd
  exact T.fn0 sc__law_rows (fun f cdv A outer s H E hr => (dss_cons (ds_set (i := 3) nd rfl (by first | exact Or.inl rfl | exact Or.inr rfl) de_int)
  (dss_cons (ds_set (i := 4) nd rfl (by first | exact Or.inl rfl | exact Or.inr rfl) (de_lstC da_nil))
  (dss_cons (ds_for PassesOwn.never rfl (di_range1 B (by rfl) (da_cons (de_mul (de_var 2) (de_toint B (by rfl) (da_cons (de_ne hr (de_var 1) (de_lst da_nil)) da_nil))) da_nil)) (dg_name (i := 5) nd rfl (by first | exact Or.inl rfl | exact Or.inr rfl)) (dss_cons (ds_asg (de_call0 F__law_row hr (by rfl) (da_cons (de_var 0) (da_cons (de_ix (de_var 1) (de_call0 F__law_take hr (by rfl) (da_cons (de_var 0) (da_cons (de_len B (by rfl) (da_cons (de_var 1) da_nil)) da_nil)))) (da_cons (de_var 3) da_nil)))) (dg_tup rfl (dgs_cons (dg_name (i := 6) nd rfl (by first | exact Or.inl rfl | exact Or.inr rfl)) (dgs_cons (dg_name (i := 7) nd rfl (by first | exact Or.inl rfl | exact Or.inr rfl)) dgs_nil))))
  (dss_cons (ds_set (i := 3) nd rfl (by first | exact Or.inl rfl | exact Or.inr rfl) (de_sub (de_var 3) (de_var 7)))
  (dss_one (ds_if (dt_w (dw_or (dt_ne hr (de_ix (de_var 6) de_int) de_str) (dw_or1 (dt_lt (de_bm PySem.F.plainAttrs_list PySem.F.slot_list_count (by rfl) mt_countV ok_countS (de_lc (own := [("_law_one", 8)]) (us := [8]) rfl nd (di_seq (de_var 4)) (blkOk_by (N := ["_law_state", "_law_names_here", "_law_many", "_law_room", "_law_found", "_law_turn", "_law_row_here", "_law_taken", "_law_one"]) (sc := defScope s__law_rows) (by decide +kernel)) (by decide) (fun _ _ _ _ _ => (dg_name (i := 8) nd rfl (by first | exact Or.inl rfl | exact Or.inr rfl))) (fun _ _ _ _ _ => dts_nil) (fun _ _ _ _ _ => (de_ix (de_var 8) de_int))) (da_cons de_str da_nil) (by rfl) (by rfl) (by rfl) (by rfl) (by rfl)) de_int)))) (dss_one (ds_expr (de_bm PySem.F.plainAttrs_list PySem.F.slot_list_append (by rfl) mt_append ok_append (de_var 4) (da_cons (de_var 6) da_nil) (by rfl) (by rfl) (by rfl) (by rfl) (by rfl)))) dss_nil)))))
  (dss_one (ds_ret (de_tuple B (by rfl) (da_cons (de_var 4) da_nil))))))))

theorem v__law_rows : ∀ ds w kx k, sp__law_rows ds w kx k → gTr (sem0 9 g__law_rows) ds w kx k := by
  rintro ds w kx k ⟨ss, m, c, n, rfl, ⟨⟨hs0, hs1, hm, hss⟩, hn, hc⟩, hk⟩
  have e : rho 9 [D.st, D.lst (ss.map D.str), D.int (m : Int)] = [some .st, some (.lst (ss.map D.str)), some (.int m), none, none, none, none, none, none] := rfl
  simp! only [g__law_rows, e, giRange1, sp__law_take]
  refine ⟨by decide, by decide, ne_nil hss hs0 ?_⟩
  simp! only [id_eq]
  refine ⟨mulx_ok (a := 10) (b := 1) (Nat.lt_of_le_of_lt (show (m : Int).natAbs ≤ 8 by omega) (by decide)) (by decide) (by decide), ⟨by omega, by omega⟩, ?_⟩
  have em : ((m : Int) * 1).toNat = m := by omega
  rw [em]
  refine ⟨fun rem ρ w' => ∃ (rs : List Row) (room : Int) (x5 x6 x7 x8 : Option D) (c' : Nat), ρ = [some .st, some (.lst (ss.map D.str)), some (.int m), some (.int room), some (.rf w.M.length), x5, x6, x7, x8] ∧ w' = ⟨w.M ++ [.lst (rs.map rowD)], some c'⟩ ∧
    rs.length + rem.length ≤ m ∧ ((∀ r ∈ rs, RowS r ∧ nameOf r ∈ ss) ∧ RowsW rs (60 - room) ∧ lefts rs ≤ 3) ∧ (0 ≤ room ∧ room ≤ 60) ∧ n + 21 * rem.length ≤ c', ⟨[], 60, none, none, none, none, c, rfl, by rw [hn]; rfl, ?_, ⟨(by intro r hr; cases hr), rowsW_nil (by decide), by decide⟩, by decide, ?_⟩, ?_, ?_⟩
  · rw [range_len]
    simp
  · rw [range_len]
    exact hc
  · rintro ρ w' ⟨rs, room, x5, x6, x7, x8, c', rfl, rfl, h1, ⟨h2, h3, hlf⟩, h4, h5⟩
    rw [List.length_nil] at h1 h5
    refine ⟨trivial, ?_⟩
    simp! only [id_eq]
    exact ⟨⟨_, rfl⟩, low_rows rs, hk rs c' ⟨h1, fun r hr => (h2 r hr).1, fun r hr => (h2 r hr).2, rowsW_mono h3 (by omega), hlf⟩ h5⟩
  · rintro z xs ρ w' ⟨rs, room, x5, x6, x7, x8, c', rfl, rfl, h1, ⟨h2, h3, hlf⟩, ⟨h4, h4'⟩, h5⟩
    rw [List.length_cons] at h1 h5
    refine ⟨trivial, ?_⟩
    simp! only [id_eq]
    have hlen : ((ss.map D.str).length : Int) = ss.length := by rw [List.length_map]
    refine take_use (n + 21 * xs.length + 20) rfl (by omega) ⟨by omega, log_int (by omega) (by omega)⟩ fun r1 c1 g0 g1 hc1 => ?_
    refine ix_all (fun d => ∃ s : Str, d = .str s ∧ s ∈ ss) g0 g1 (fun x hx => ?_) ?_
    · obtain ⟨s, hs, rfl⟩ := List.mem_map.mp hx
      exact ⟨s, rfl, hs⟩
    rintro d ⟨s, rfl, hsm⟩
    refine row_use (n + 21 * xs.length) rfl (by omega) ⟨h4, h4'⟩ fun r t c2 g2 gn g3 g4 g5 hc2 => ?_
    simp! only [row0]
    have more : (kindS r ≠ "left" ∨ lefts rs < 3) → ∃ (rs' : List Row) (room' : Int) (y5 y6 y7 y8 : Option D) (c' : Nat), ([some .st, some (.lst (ss.map D.str)), some (.int m), some (.int (room - t)), some (.rf w.M.length), some z, some (rowD r), some (.int t), x8] : Rho) = [some .st, some (.lst (ss.map D.str)), some (.int m), some (.int room'), some (.rf w.M.length), y5, y6, y7, y8] ∧ (⟨w.M ++ [.lst ((rs ++ [r]).map rowD)], some c2⟩ : Wd) = ⟨w.M ++ [.lst (rs'.map rowD)], some c'⟩ ∧
      rs'.length + xs.length ≤ m ∧ ((∀ r ∈ rs', RowS r ∧ nameOf r ∈ ss) ∧ RowsW rs' (60 - room') ∧ lefts rs' ≤ 3) ∧ (0 ≤ room' ∧ room' ≤ 60) ∧ n + 21 * xs.length ≤ c' := by
      intro hkl
      refine ⟨rs ++ [r], room - t, _, _, _, _, c2, rfl, rfl, by rw [List.length_append]; simp; omega, ⟨fun q hq => ?_, ?_, ?_⟩, ⟨by omega, by omega⟩, hc2⟩
      · rcases List.mem_append.mp hq with hq | hq
        · exact h2 q hq
        · rw [List.mem_singleton.mp hq]
          exact ⟨g2, by rw [gn]; exact hsm⟩
      · have := rowsW_add (fun q hq => (h2 q hq).1.ok) g2.ok h3 g4 g3
        rw [show 60 - (room - t) = 60 - room + t by omega]
        exact this
      · rw [lefts_snoc]
        split
        · rcases hkl with z | z
          · exact absurd ‹_› z
          · omega
        · omega
    have less : ∃ (rs' : List Row) (room' : Int) (y5 y6 y7 y8 : Option D) (c' : Nat), ([some .st, some (.lst (ss.map D.str)), some (.int m), some (.int (room - t)), some (.rf w.M.length), some z, some (rowD r), some (.int t), x8] : Rho) = [some .st, some (.lst (ss.map D.str)), some (.int m), some (.int room'), some (.rf w.M.length), y5, y6, y7, y8] ∧ (⟨w.M ++ [.lst (rs.map rowD)], some c2⟩ : Wd) = ⟨w.M ++ [.lst (rs'.map rowD)], some c'⟩ ∧
      rs'.length + xs.length ≤ m ∧ ((∀ r ∈ rs', RowS r ∧ nameOf r ∈ ss) ∧ RowsW rs' (60 - room') ∧ lefts rs' ≤ 3) ∧ (0 ≤ room' ∧ room' ≤ 60) ∧ n + 21 * xs.length ≤ c' :=
      ⟨rs, room - t, _, _, _, _, c2, rfl, rfl, by omega, ⟨h2, rowsW_mono h3 (by omega), hlf⟩, ⟨by omega, by omega⟩, hc2⟩
    rw [List.map_append] at more
    have hl : (rs.map rowD).length ≤ 100000 := by rw [List.length_map]; omega
    refine ite2 (fun hkd => ⟨lt_sl hl, more (.inl (by simpa using hkd))⟩) (fun _ => ?_)
    refine lc_map rowK new_at hl (fun x hx k' hk' => ?_) ?_
    · obtain ⟨q, _, rfl⟩ := List.mem_map.mp hx
      rw [rowK_row] at hk'
      simp! only [row0]
      exact hk'
    · rw [rowK_rows]
      refine ⟨rfl, rs.map kindS, rfl, ?_⟩
      simp! only [id_eq]
      exact ite2 (fun hc => ⟨lt_sl hl, more (.inr (by have := of_decide_eq_true hc; show (rs.map kindS).count ("left" : Str) < 3; omega))⟩) (fun _ => less)
theorem ok__law_rows {P : Program} {w : World} {K : PySem.W.Frag} {mg : Str → Option Value} {base : Heap} (T : DefAt K mg "_law_rows" s__law_rows ["_law_state", "_law_names_here", "_law_many"]) (B : Blt mg) (F__law_row : FnAt P w K mg base CX0 3 "_law_row" 3 sp__law_row) (F__law_take : FnAt P w K mg base CX0 1 "_law_take" 2 sp__law_take) : FnAt P w K mg base CX0 4 "_law_rows" 3 sp__law_rows := (w__law_rows T B F__law_row F__law_take).trunc.imp v__law_rows


end LW

namespace LW
open PySem PySem.Spec PyProof.Rows L2 RZ DL
local macro_rules | `(tactic| simp! only [$xs,*] $[$loc]?) => `(tactic| simp only [$xs,*, sem0,List.map_cons,List.map_nil,List.length_cons,List.length_nil,gSeq,gNext,gRet,gRetN,gIfS,gSet,gPar,gAsg,gDrop,gVar,gC,gBin,gUn,gB,gTru,gAnd,gOr,gNot,gAndV,gOrV,gNotV,gIf,gChain,gaNil,gaCons,DL.gTup,DL.gLst,gCB,gCall0,gAug,addD_i,addD_s,addD_l,addD_t,subD_i,mulD_i,mulD_l,fdivD_i,modD_i,powD_i,ltD_i,ltD_s,leD_i,gtD_i,geD_i,isD_n,isnotD_n,isNonD_non,isNonD_bl,isNonD_int,isNonD_str,isNonD_lst,isNonD_tup,negD_i,iaddD_i,truD_non,truD_bl,truD_int,truD_str,truD_lst,truD_tup,someK_some,ixD_l,ixD_t,fAbs_i,fInt_i,fInt_b,fMin2_i,fLen_l,fLen_t,fLen_s,fList_l,fList_t,fTuple_l,fTuple_t,optBK_some,fIsi_non,fIsi_bl,fIsi_int,fIsi_str,fIsi_lst,fIsi_tup,List.getElem?_cons_zero,List.getElem?_cons_succ,List.set_cons_zero,List.set_cons_succ,DL.ggName,ggNil0,ggCons1,ggTup2,ggTup3,gFor,giSeq,gLc,gYes,wipeR,true_and,and_true,at_0,at_1,at_2,kit_int_int,kit_bool_int,kit_str_int,kit_non_int,kit_list_int,kit_tuple_int,kit_int_bool,kit_bool_bool,kit_str_bool,kit_non_bool,kit_list_bool,kit_tuple_bool,kit_int_str,kit_bool_str,kit_str_str,kit_non_str,kit_list_str,kit_tuple_str,kit_int_list,kit_bool_list,kit_str_list,kit_non_list,kit_list_list,kit_tuple_list,kit_int_tuple,kit_bool_tuple,kit_str_tuple,kit_non_tuple,kit_list_tuple,kit_tuple_tuple,eqD_i,neD_i,eqD_s,neD_s,eqD_f,neD_f,Nat.zero_add,Nat.reduceAdd,nc0,nc1,nc2,nc3,nc4,nc5,nc6,nc7,nc8,nc9,eq_self,decide_true,decide_false,Int.reduceEq,Int.reduceLT,Int.reduceLE,Int.reduceNeg,Bool.not_true,Bool.not_false,Bool.false_eq_true,if_true,if_false,↓reduceIte,false_and,and_false,List.all_cons,List.all_nil,List.any_cons,List.any_nil,id_eq,Bool.and_true,Bool.true_and,Bool.or_false,Bool.false_or,Bool.and_false,Bool.false_and,gCut,eqD_b,neD_b,giZip,reduceCtorEq,Bool.true_eq_false,Bool.false_eq_true,gRevL,gSl,goNone,goSome,slD_l,ne_eq,not_false_eq_true,not_true_eq_false,gBM,isTy_l,isTy_s,new_at,new_set,isTy_new,cellK_new,append_new,popAt_new,gFrz_eq,frzK_new,fLen_new,fTuple_new,ixD_new,slA_l,slA_t,slA_new,addTD_t,addCD_l,mulCD_l,isbD_b,isnotbD_b,mSplitC_s,gLstC,gTr,ggSub,lstK_l,lstK_r,addLD_eq] $[$loc]?)



theorem sum_lt {a : Nat} : ∀ {n : Nat} {xs : List Qp}, xs.length = n → FrB a xs → Lt2 ((a + 1) * n + 1) (sumQ xs)
  | 0, xs, hl, _ => by
    have : xs = [] := List.length_eq_zero_iff.mp hl
    subst this
    rw [sumQ_nil]
    exact ⟨by show 0 < 2 ^ _; exact Nat.pow_pos (by decide), by
      show 1 < 2 ^ ((a + 1) * 0 + 1)
      rw [Nat.mul_zero]
      decide⟩
  | n + 1, xs, hl, h => by
    obtain ⟨ys, x, rfl⟩ : ∃ ys x, xs = ys ++ [x] := by
      have : xs ≠ [] := fun z => by rw [z] at hl; cases hl
      exact ⟨xs.dropLast, xs.getLast this, (List.dropLast_concat_getLast this).symm⟩
    have hy : FrB a ys := fun z hz => h z (List.mem_append_left _ hz)
    obtain ⟨fx, lx⟩ := h x (by simp)
    have hl' : ys.length = n := by simpa using hl
    have ih := sum_lt hl' hy
    have fy := fr_sum fun z hz => (hy z hz).1
    rw [← sumQ_snoc (fun z hz => (hy z hz).1) fx]
    have e : (a + 1) * (n + 1) + 1 = ((a + 1) * n + 1 + a) + 1 := by rw [Nat.mul_succ]; omega
    have b1 := wide_lt ih.1 lx.2
    have b2 := wide_lt lx.1 ih.2
    rw [Nat.add_comm a] at b2
    have b3 := wide_lt ih.2 lx.2
    refine norm_lt (Int.mul_ne_zero (by have := fy.pos; omega) (by have := fx.pos; omega)) ?_ ?_
    · rw [e]
      exact add_lt b1 b2
    · exact nat_mono b3 (by omega)
theorem lst_cases {d : D} {w : Wd} {f : List D → Prop} (h : lstK d w f) : (∃ xs, d = .lst xs ∧ f xs) ∨ ∃ i xs, d = .rf i ∧ w.M[i]? = some (.lst xs) ∧ f xs := by
  cases d with
  | lst xs => exact .inl ⟨xs, rfl, h⟩
  | rf i =>
    refine .inr ⟨i, ?_⟩
    have h : cellK i w f := h
    unfold cellK at h
    split at h
    · rename_i xs e
      exact ⟨xs, rfl, e, h⟩
    · exact h.elim
  | _ => exact h.elim
def StepOk (xs : List Qp) : Prop := ∀ ys z zs, xs = ys ++ z :: zs → (∀ x ∈ ys, Fr x) ∧ Fr z ∧ ∃ c d, Lt2 c (sumQ ys) ∧ Lt2 d z ∧ c + d + 1 ≤ 8980
theorem step_frb {xs : List Qp} {a : Nat} (hF : FrB a xs) (hz : (a + 1) * (xs.length + 1) ≤ 8980) : StepOk xs := by
  rintro ys z zs rfl
  have hy : FrB a ys := fun q hq => hF q (List.mem_append_left _ hq)
  obtain ⟨fz, lz⟩ := hF z (by simp)
  refine ⟨fun q hq => (hy q hq).1, fz, _, a, sum_lt rfl hy, lz, ?_⟩
  have h1 : (a + 1) * (ys.length + 1 + 1) ≤ (a + 1) * ((ys ++ z :: zs).length + 1) := Nat.mul_le_mul_left _ (by simp)
  rw [Nat.mul_succ, Nat.mul_succ] at h1
  omega
theorem step_two {x y : Qp} {a b : Nat} (hx : Fr x) (hy : Fr y) (lx : Lt2 a x) (ly : Lt2 b y) (h : a + b ≤ 8900) : StepOk [x, y] := by
  intro ys z zs e
  cases ys with
  | nil =>
    injection e with e1 e2
    subst e1
    exact ⟨(fun _ h => nomatch h), hx, 1, a, by rw [sumQ_nil]; exact ⟨by decide, by decide⟩, lx, by omega⟩
  | cons w ys =>
    injection e with e1 e2
    subst e1
    cases ys with
    | nil =>
      injection e2 with e2 e3
      subst e2
      exact ⟨fun q hq => by rw [List.mem_singleton.mp hq]; exact hx, hy, a, b, by rw [sumQ_one hx]; exact lx, ly, by omega⟩
    | cons v ys =>
      injection e2 with e2 e3
      have := congrArg List.length e3
      simp at this
def sp_sum_of : GF := fun ds w _ k => ∃ (d : D) (xs : List Qp), ds = [d] ∧ ((lstK d w fun ys => ys = xs.map fD) ∧ StepOk xs) ∧ k (fD (sumQ xs)) w
abbrev s_sum_of : Stmt := topS 3
theorem sc_sum_of : FnScope ["parts", "found", "top", "below"] ["parts"] (defScope s_sum_of) := ⟨rfl, rfl, rfl, by decide +kernel, rfl, by decide +kernel, by decide +kernel⟩
def g_sum_of : GS := (gSeq (gSet 1 (gTup (gaCons (gC (.int 0)) (gaCons (gC (.int 1)) gaNil))))
  (gSeq (gFor (giSeq (gVar 0)) (ggTup 2 (ggCons (ggName 2) (ggCons (ggName 3) ggNil))) (gSet 1 (gCall0 2 sp_fraction_of (gaCons (gBin addD (gBin mulD (gBin ixD (gVar 1) (gC (.int 0))) (gVar 3)) (gBin mulD (gVar 2) (gBin ixD (gVar 1) (gC (.int 1))))) (gaCons (gBin mulD (gBin ixD (gVar 1) (gC (.int 1))) (gVar 3)) gaNil)))))
  (gRet (gVar 1))))
theorem w_sum_of {P : Program} {w : World} {K : PySem.W.Frag} {mg : Str → Option Value} {base : Heap} (T : DefAt K mg "sum_of" s_sum_of ["parts"]) (B : Blt mg) (F_fraction_of : FnAt P w K mg base CX0 2 "fraction_of" 2 sp_fraction_of) : FnAt P w K mg base CX0 3 "sum_of" 1 (sem0 4 g_sum_of) := by
  have nd := sc_sum_of.nd
  exact T.fn0 sc_sum_of (fun f cdv A outer s H E hr => (dss_cons (ds_set (i := 1) nd rfl (by first | exact Or.inl rfl | exact Or.inr rfl) (de_tup (da_cons de_int (da_cons de_int da_nil))))
  (dss_cons (ds_for PassesOwn.never rfl (di_seq (de_var 0)) (dg_tup rfl (dgs_cons (dg_name (i := 2) nd rfl (by first | exact Or.inl rfl | exact Or.inr rfl)) (dgs_cons (dg_name (i := 3) nd rfl (by first | exact Or.inl rfl | exact Or.inr rfl)) dgs_nil))) (dss_one (ds_set (i := 1) nd rfl (by first | exact Or.inl rfl | exact Or.inr rfl) (de_call0 F_fraction_of hr (by rfl) (da_cons (de_add (de_mul (de_ix (de_var 1) de_int) (de_var 3)) (de_mul (de_var 2) (de_ix (de_var 1) de_int))) (da_cons (de_mul (de_ix (de_var 1) de_int) (de_var 3)) da_nil))))))
  (dss_one (ds_ret (de_var 1))))))

theorem v_sum_of : ∀ ds w kx k, sp_sum_of ds w kx k → sem0 4 g_sum_of ds w kx k := by
  rintro ds w kx k ⟨d, xs, rfl, ⟨hd, hS⟩, hk⟩
  have key : ∀ (d : D) (Ok : Wd → Prop) (gb : GS), Ok w → ∃ P : List D → Rho → Wd → Prop, P (xs.map fD) [some d, some (fD (0, 1)), none, none] w ∧
      (∀ ρ w', P [] ρ w' → Ok w' ∧ w' = w ∧ ∃ a b, ρ = [some d, some (fD (sumQ xs)), a, b]) ∧
      (∀ x rem ρ w', P (x :: rem) ρ w' → Ok w' ∧ w' = w ∧ ∃ ys z zs a0 b0, x = fD z ∧ xs = ys ++ z :: zs ∧ ρ = [some d, some (fD (sumQ ys)), a0, b0] ∧ ∀ a1 b1, P rem [some d, some (fD (sumQ (ys ++ [z]))), a1, b1] w) := by
    intro d Ok _ ok
    refine ⟨fun rem ρ w' => w' = w ∧ ∃ ys zs a b, xs = ys ++ zs ∧ rem = zs.map fD ∧ ρ = [some d, some (fD (sumQ ys)), a, b], ⟨rfl, [], xs, none, none, rfl, rfl, by rw [sumQ_nil]⟩, ?_, ?_⟩
    · rintro ρ w' ⟨rfl, ys, zs, a, b, e1, e2, rfl⟩
      have : zs = [] := by simpa using e2.symm
      subst this
      rw [List.append_nil] at e1
      subst e1
      exact ⟨ok, rfl, a, b, rfl⟩
    · rintro x rem ρ w' ⟨rfl, ys, zs, a0, b0, e1, e2, rfl⟩
      cases zs with
      | nil => cases e2
      | cons z zs =>
        rw [List.map_cons] at e2
        injection e2 with e2 e3
        exact ⟨ok, rfl, ys, z, zs, a0, b0, e2, e1, rfl, fun a1 b1 => ⟨rfl, ys ++ [z], zs, a1, b1, by rw [e1]; simp, e3, rfl⟩⟩
  have step : ∀ ys z zs, xs = ys ++ z :: zs → CMulX (sumQ ys).1 z.2 ∧ CMulX z.1 (sumQ ys).2 ∧ CMulX (sumQ ys).2 z.2 ∧ (sumQ ys).2 * z.2 ≠ 0 ∧ Big ((sumQ ys).2 * z.2) ∧ norm ((sumQ ys).1 * z.2 + z.1 * (sumQ ys).2) ((sumQ ys).2 * z.2) = sumQ (ys ++ [z]) := by
    intro ys z zs ez
    obtain ⟨hy, fz, c, d, ly, lz, hle⟩ := hS ys z zs ez
    subst ez
    have fy := fr_sum hy
    exact ⟨mulx_ok ly.1 lz.2 (by omega), mulx_ok lz.1 ly.2 (by omega), mulx_ok ly.2 lz.2 (by omega), Int.mul_ne_zero (by have := fy.pos; omega) (by have := fz.pos; omega), nat_mono (wide_lt ly.2 lz.2) (by omega), sumQ_snoc hy fz⟩
  have e : rho 4 [d] = [some d, none, none, none] := rfl
  rcases lst_cases hd with ⟨ys0, rfl, rfl⟩ | ⟨i, ys0, rfl, em, rfl⟩
  · simp! only [g_sum_of, e, sp_fraction_of]
    obtain ⟨P, h1, h2, h3⟩ := key (.lst (xs.map fD)) (fun _ => True) gNext trivial
    refine ⟨by decide, P, h1, fun ρ w' h => ?_, fun x rem ρ w' h => ?_⟩
    · obtain ⟨ok, rfl, a0, b0, rfl⟩ := h2 _ _ h
      refine ⟨trivial, ?_⟩
      simp! only [id_eq]
      exact hk
    · obtain ⟨ok, rfl, ys, z, zs, a0, b0, rfl, e1, rfl, hP⟩ := h3 _ _ _ _ h
      obtain ⟨m1, m2, m3, n0, bg, es⟩ := step ys z zs e1
      refine ⟨trivial, ?_⟩
      simp! only [ixD_f0, ixD_f1, ggTup_f, fIsi_f, fLen_f, eqD_ff, neD_ff]
      refine ⟨m1, m2, m3, _, _, rfl, ⟨n0, bg⟩, ?_⟩
      rw [es]
      exact hP _ _
  · simp! only [g_sum_of, e, sp_fraction_of, em]
    obtain ⟨P, h1, h2, h3⟩ := key (.rf i) (fun w' => w'.M[i]? = some (.lst (xs.map fD))) gNext em
    refine ⟨by decide, P, h1, fun ρ w' h => ?_, fun x rem ρ w' h => ?_⟩
    · obtain ⟨ok, rfl, a0, b0, rfl⟩ := h2 _ _ h
      refine ⟨ok, ?_⟩
      simp! only [id_eq]
      exact hk
    · obtain ⟨ok, rfl, ys, z, zs, a0, b0, rfl, e1, rfl, hP⟩ := h3 _ _ _ _ h
      obtain ⟨m1, m2, m3, n0, bg, es⟩ := step ys z zs e1
      refine ⟨ok, ?_⟩
      simp! only [ixD_f0, ixD_f1, ggTup_f, fIsi_f, fLen_f, eqD_ff, neD_ff]
      refine ⟨m1, m2, m3, _, _, rfl, ⟨n0, bg⟩, ?_⟩
      rw [es]
      exact hP _ _
theorem ok_sum_of {P : Program} {w : World} {K : PySem.W.Frag} {mg : Str → Option Value} {base : Heap} (T : DefAt K mg "sum_of" s_sum_of ["parts"]) (B : Blt mg) (F_fraction_of : FnAt P w K mg base CX0 2 "fraction_of" 2 sp_fraction_of) : FnAt P w K mg base CX0 3 "sum_of" 1 sp_sum_of := (w_sum_of T B F_fraction_of).imp v_sum_of


def sp_taken_from : GF := fun ds w _ k => ∃ x y : Qp, ds = [fD x, fD y] ∧ (Fr x ∧ Fr y ∧ Lt2 4400 x ∧ Lt2 4400 y) ∧ k (fD (subQ y x)) w
abbrev s_taken_from : Stmt := topS 4
theorem sc_taken_from : FnScope ["one", "other"] ["one", "other"] (defScope s_taken_from) := ⟨rfl, rfl, rfl, by decide +kernel, rfl, by decide +kernel, by decide +kernel⟩
def g_taken_from : GS := (gRet (gCall0 2 sp_fraction_of (gaCons (gBin subD (gBin mulD (gBin ixD (gVar 1) (gC (.int 0))) (gBin ixD (gVar 0) (gC (.int 1)))) (gBin mulD (gBin ixD (gVar 0) (gC (.int 0))) (gBin ixD (gVar 1) (gC (.int 1))))) (gaCons (gBin mulD (gBin ixD (gVar 0) (gC (.int 1))) (gBin ixD (gVar 1) (gC (.int 1)))) gaNil))))
theorem w_taken_from {P : Program} {w : World} {K : PySem.W.Frag} {mg : Str → Option Value} {base : Heap} (T : DefAt K mg "taken_from" s_taken_from ["one", "other"]) (B : Blt mg) (F_fraction_of : FnAt P w K mg base CX0 2 "fraction_of" 2 sp_fraction_of) : FnAt P w K mg base CX0 3 "taken_from" 2 (sem0 2 g_taken_from) := by
  have nd := sc_taken_from.nd
  exact T.fn0 sc_taken_from (fun f cdv A outer s H E hr => (dss_one (ds_ret (de_call0 F_fraction_of hr (by rfl) (da_cons (de_sub (de_mul (de_ix (de_var 1) de_int) (de_ix (de_var 0) de_int)) (de_mul (de_ix (de_var 0) de_int) (de_ix (de_var 1) de_int))) (da_cons (de_mul (de_ix (de_var 0) de_int) (de_ix (de_var 1) de_int)) da_nil))))))

theorem v_taken_from : ∀ ds w kx k, sp_taken_from ds w kx k → sem0 2 g_taken_from ds w kx k := by
  rintro ds w kx k ⟨x, y, rfl, ⟨hx, hy, lx, ly⟩, hk⟩
  have e : rho 2 [fD x, fD y] = [some (fD x), some (fD y)] := rfl
  simp! only [g_taken_from, e, sp_fraction_of, ixD_f0, ixD_f1, ggTup_f, fIsi_f, fLen_f, eqD_ff, neD_ff]
  refine ⟨mulx_ok ly.1 lx.2 (by decide), mulx_ok lx.1 ly.2 (by decide), mulx_ok lx.2 ly.2 (by decide), _, _, rfl, ⟨Int.mul_ne_zero (by have := hx.pos; omega) (by have := hy.pos; omega), nat_mono (wide_lt lx.2 ly.2) (by decide)⟩, hk⟩
theorem ok_taken_from {P : Program} {w : World} {K : PySem.W.Frag} {mg : Str → Option Value} {base : Heap} (T : DefAt K mg "taken_from" s_taken_from ["one", "other"]) (B : Blt mg) (F_fraction_of : FnAt P w K mg base CX0 2 "fraction_of" 2 sp_fraction_of) : FnAt P w K mg base CX0 3 "taken_from" 2 sp_taken_from := (w_taken_from T B F_fraction_of).imp v_taken_from


def sp_product_of : GF := fun ds w _ k => ∃ x y : Qp, ds = [fD x, fD y] ∧ (x.2 ≠ 0 ∧ y.2 ≠ 0 ∧ Lt2 4400 x ∧ Lt2 4400 y) ∧ k (fD (mulQ x y)) w
abbrev s_product_of : Stmt := topS 5
theorem sc_product_of : FnScope ["one", "other"] ["one", "other"] (defScope s_product_of) := ⟨rfl, rfl, rfl, by decide +kernel, rfl, by decide +kernel, by decide +kernel⟩
def g_product_of : GS := (gRet (gCall0 2 sp_fraction_of (gaCons (gBin mulD (gBin ixD (gVar 0) (gC (.int 0))) (gBin ixD (gVar 1) (gC (.int 0)))) (gaCons (gBin mulD (gBin ixD (gVar 0) (gC (.int 1))) (gBin ixD (gVar 1) (gC (.int 1)))) gaNil))))
theorem w_product_of {P : Program} {w : World} {K : PySem.W.Frag} {mg : Str → Option Value} {base : Heap} (T : DefAt K mg "product_of" s_product_of ["one", "other"]) (B : Blt mg) (F_fraction_of : FnAt P w K mg base CX0 2 "fraction_of" 2 sp_fraction_of) : FnAt P w K mg base CX0 3 "product_of" 2 (sem0 2 g_product_of) := by
  have nd := sc_product_of.nd
  exact T.fn0 sc_product_of (fun f cdv A outer s H E hr => (dss_one (ds_ret (de_call0 F_fraction_of hr (by rfl) (da_cons (de_mul (de_ix (de_var 0) de_int) (de_ix (de_var 1) de_int)) (da_cons (de_mul (de_ix (de_var 0) de_int) (de_ix (de_var 1) de_int)) da_nil))))))

theorem v_product_of : ∀ ds w kx k, sp_product_of ds w kx k → sem0 2 g_product_of ds w kx k := by
  rintro ds w kx k ⟨x, y, rfl, ⟨hx, hy, lx, ly⟩, hk⟩
  have e : rho 2 [fD x, fD y] = [some (fD x), some (fD y)] := rfl
  simp! only [g_product_of, e, sp_fraction_of, ixD_f0, ixD_f1, ggTup_f, fIsi_f, fLen_f, eqD_ff, neD_ff]
  exact ⟨mulx_ok lx.1 ly.1 (by decide), mulx_ok lx.2 ly.2 (by decide), _, _, rfl, ⟨Int.mul_ne_zero hx hy, nat_mono (wide_lt lx.2 ly.2) (by decide)⟩, hk⟩
theorem ok_product_of {P : Program} {w : World} {K : PySem.W.Frag} {mg : Str → Option Value} {base : Heap} (T : DefAt K mg "product_of" s_product_of ["one", "other"]) (B : Blt mg) (F_fraction_of : FnAt P w K mg base CX0 2 "fraction_of" 2 sp_fraction_of) : FnAt P w K mg base CX0 3 "product_of" 2 sp_product_of := (w_product_of T B F_fraction_of).imp v_product_of


def lessQ (x y : Qp) : Bool := decide (x.1 * y.2 < y.1 * x.2)
def sp_is_less : GF := fun ds w _ k => ∃ x y : Qp, ds = [fD x, fD y] ∧ (Lt2 4000 x ∧ Lt2 4000 y) ∧ k (.bl (lessQ x y)) w
abbrev s_is_less : Stmt := topS 6
theorem sc_is_less : FnScope ["one", "other"] ["one", "other"] (defScope s_is_less) := ⟨rfl, rfl, rfl, by decide +kernel, rfl, by decide +kernel, by decide +kernel⟩
def g_is_less : GS := (gRet (gBin ltD (gBin mulD (gBin ixD (gVar 0) (gC (.int 0))) (gBin ixD (gVar 1) (gC (.int 1)))) (gBin mulD (gBin ixD (gVar 1) (gC (.int 0))) (gBin ixD (gVar 0) (gC (.int 1))))))
theorem w_is_less {P : Program} {w : World} {K : PySem.W.Frag} {mg : Str → Option Value} {base : Heap} (T : DefAt K mg "is_less" s_is_less ["one", "other"]) (B : Blt mg) : FnAt P w K mg base CX0 1 "is_less" 2 (sem0 2 g_is_less) := by
  have nd := sc_is_less.nd
  exact T.fn0 sc_is_less (fun f cdv A outer s H E hr => (dss_one (ds_ret (de_lt (de_mul (de_ix (de_var 0) de_int) (de_ix (de_var 1) de_int)) (de_mul (de_ix (de_var 1) de_int) (de_ix (de_var 0) de_int))))))

theorem v_is_less : ∀ ds w kx k, sp_is_less ds w kx k → sem0 2 g_is_less ds w kx k := by
  rintro ds w kx k ⟨x, y, rfl, ⟨lx, ly⟩, hk⟩
  have e : rho 2 [fD x, fD y] = [some (fD x), some (fD y)] := rfl
  simp! only [g_is_less, e, ixD_f0, ixD_f1, ggTup_f, fIsi_f, fLen_f, eqD_ff, neD_ff]
  exact ⟨mulx_ok lx.1 ly.2 (by decide), mulx_ok ly.1 lx.2 (by decide), hk⟩
theorem ok_is_less {P : Program} {w : World} {K : PySem.W.Frag} {mg : Str → Option Value} {base : Heap} (T : DefAt K mg "is_less" s_is_less ["one", "other"]) (B : Blt mg) : FnAt P w K mg base CX0 1 "is_less" 2 sp_is_less := (w_is_less T B ).imp v_is_less


def sp_rows_by : GF := fun ds w _ k => ∃ (rs : List Row) (s : Str), ds = [.tup (rs.map rowD), .str s] ∧ rs.length ≤ 1000 ∧ k (.lst ((rs.filter fun r => decide (kindS r = s)).map rowD)) w
abbrev s_rows_by : Stmt := topS 20
theorem sc_rows_by : FnScope ["rows", "kind", "row"] ["rows", "kind"] (defScope s_rows_by) := ⟨rfl, rfl, rfl, by decide +kernel, rfl, by decide +kernel, by decide +kernel⟩
def g_rows_by : GS := (gRet (gLc (giSeq (gVar 0)) (ggName 2) (gB (gBin eqD (gBin ixD (gVar 2) (gC (.int 0))) (gVar 1))) (gVar 2) [2]))
theorem w_rows_by {P : Program} {w : World} {K : PySem.W.Frag} {mg : Str → Option Value} {base : Heap} (T : DefAt K mg "rows_by" s_rows_by ["rows", "kind"]) (B : Blt mg) : FnAt P w K mg base CX0 1 "rows_by" 2 (sem0 3 g_rows_by) := by
  have nd := sc_rows_by.nd
  exact T.fn0 sc_rows_by (fun f cdv A outer s H E hr => (dss_one (ds_ret (de_lc (own := [("row", 2)]) (us := [2]) rfl nd (di_seq (de_var 0)) (blkOk_by (N := ["rows", "kind", "row"]) (sc := defScope s_rows_by) (by decide +kernel)) (by decide) (fun _ _ _ _ _ => (dg_name (i := 2) nd rfl (by first | exact Or.inl rfl | exact Or.inr rfl))) (fun _ _ _ _ _ => (dts_one (dt_eq hr (de_ix (de_var 2) de_int) (de_var 1)))) (fun _ _ _ _ _ => (de_var 2))))))

theorem v_rows_by : ∀ ds w kx k, sp_rows_by ds w kx k → sem0 3 g_rows_by ds w kx k := by
  rintro ds w kx k ⟨rs, s, rfl, hl, hk⟩
  have e : rho 3 [D.tup (rs.map rowD), D.str s] = [some (.tup (rs.map rowD)), some (.str s), none] := rfl
  simp! only [g_rows_by, e]
  refine lc_tyf rowD rowD (fun r => decide (kindS r = s)) rs trivial (by omega) (fun a _ A B h1 h2 => ?_) hk
  simp! only [row0]
  exact ite2 (fun h => h1 h) (fun h => h2 (by simpa using h))
theorem ok_rows_by {P : Program} {w : World} {K : PySem.W.Frag} {mg : Str → Option Value} {base : Heap} (T : DefAt K mg "rows_by" s_rows_by ["rows", "kind"]) (B : Blt mg) : FnAt P w K mg base CX0 1 "rows_by" 2 sp_rows_by := (w_rows_by T B ).imp v_rows_by

theorem great_cons (r : Rate) (rs : List Rate) (g : Qp) : great (r :: rs) g = great rs (if g.1 * r.2.2 < r.2.1 * g.2 then r.2 else g) := rfl
def sp_greatest_part : GF := fun ds w _ k => ∃ rs : List Rate, ds = [.tup (rs.map rateD)] ∧ Rates rs ∧ k (fD (great rs (0, 1))) w
abbrev s_greatest_part : Stmt := topS 22
theorem sc_greatest_part : FnScope ["rates", "found", "upto", "part"] ["rates"] (defScope s_greatest_part) := ⟨rfl, rfl, rfl, by decide +kernel, rfl, by decide +kernel, by decide +kernel⟩
def g_greatest_part : GS := (gSeq (gSet 1 (gTup (gaCons (gC (.int 0)) (gaCons (gC (.int 1)) gaNil))))
  (gSeq (gFor (giSeq (gVar 0)) (ggTup 2 (ggCons (ggName 2) (ggCons (ggName 3) ggNil))) (gIfS (gTru (gCall0 2 sp_is_less (gaCons (gVar 1) (gaCons (gVar 3) gaNil)))) (gSet 1 (gVar 3)) gNext))
  (gRet (gVar 1))))
theorem w_greatest_part {P : Program} {w : World} {K : PySem.W.Frag} {mg : Str → Option Value} {base : Heap} (T : DefAt K mg "greatest_part" s_greatest_part ["rates"]) (B : Blt mg) (F_is_less : FnAt P w K mg base CX0 1 "is_less" 2 sp_is_less) : FnAt P w K mg base CX0 2 "greatest_part" 1 (sem0 4 g_greatest_part) := by
  have nd := sc_greatest_part.nd
  exact T.fn0 sc_greatest_part (fun f cdv A outer s H E hr => (dss_cons (ds_set (i := 1) nd rfl (by first | exact Or.inl rfl | exact Or.inr rfl) (de_tup (da_cons de_int (da_cons de_int da_nil))))
  (dss_cons (ds_for PassesOwn.never rfl (di_seq (de_var 0)) (dg_tup rfl (dgs_cons (dg_name (i := 2) nd rfl (by first | exact Or.inl rfl | exact Or.inr rfl)) (dgs_cons (dg_name (i := 3) nd rfl (by first | exact Or.inl rfl | exact Or.inr rfl)) dgs_nil))) (dss_one (ds_if (dt_truth (de_call0 F_is_less hr (by rfl) (da_cons (de_var 1) (da_cons (de_var 3) da_nil)))) (dss_one (ds_set (i := 1) nd rfl (by first | exact Or.inl rfl | exact Or.inr rfl) (de_var 3))) dss_nil)))
  (dss_one (ds_ret (de_var 1))))))

theorem lt4000 {p : Qp} (h : Lt2 12 p) : Lt2 4000 p := h.mono (by decide)
theorem v_greatest_part : ∀ ds w kx k, sp_greatest_part ds w kx k → sem0 4 g_greatest_part ds w kx k := by
  rintro ds w kx k ⟨rs, rfl, hr, hk⟩
  have e : rho 4 [D.tup (rs.map rateD)] = [some (.tup (rs.map rateD)), none, none, none] := rfl
  simp! only [g_greatest_part, e, sp_is_less]
  refine ⟨by decide, fun rem ρ w' => ∃ (ts : List Rate) (g : Qp) (x y : Option D), w' = w ∧ rem = ts.map rateD ∧ ρ = [some (.tup (rs.map rateD)), some (fD g), x, y] ∧ (∀ r ∈ ts, Part r.2) ∧ Pt0 g ∧ great ts g = great rs (0, 1), ⟨rs, (0, 1), none, none, rfl, rfl, rfl, hr.2.1, pt00, rfl⟩, ?_, ?_⟩
  · rintro ρ w' ⟨ts, g, x, y, rfl, e2, rfl, h1, h2, h3⟩
    have : ts = [] := by simpa using e2.symm
    subst this
    refine ⟨trivial, ?_⟩
    simp! only [id_eq]
    rw [show great [] g = g from rfl] at h3
    rw [h3]
    exact hk
  · rintro z xs ρ w' ⟨ts, g, x, y, rfl, e2, rfl, h1, h2, h3⟩
    cases ts with
    | nil => cases e2
    | cons r ts =>
      rw [List.map_cons] at e2
      injection e2 with e2 e3
      subst e2
      subst e3
      refine ⟨trivial, ?_⟩
      have hp := h1 r List.mem_cons_self
      simp! only [rate_tup]
      refine ⟨g, r.2, rfl, ⟨lt4000 h2.lt, lt4000 hp.lt⟩, ?_⟩
      rw [great_cons] at h3
      refine ite2 (fun h => ?_) (fun h => ?_)
      · have h' : g.1 * r.2.2 < r.2.1 * g.2 := by simpa [lessQ] using h
        rw [if_pos h'] at h3
        exact ⟨ts, r.2, _, _, rfl, rfl, rfl, fun q hq => h1 q (List.mem_cons_of_mem _ hq), hp.pt0, h3⟩
      · have h' : ¬ g.1 * r.2.2 < r.2.1 * g.2 := by simpa [lessQ] using h
        rw [if_neg h'] at h3
        exact ⟨ts, g, _, _, rfl, rfl, rfl, fun q hq => h1 q (List.mem_cons_of_mem _ hq), h2, h3⟩
theorem ok_greatest_part {P : Program} {w : World} {K : PySem.W.Frag} {mg : Str → Option Value} {base : Heap} (T : DefAt K mg "greatest_part" s_greatest_part ["rates"]) (B : Blt mg) (F_is_less : FnAt P w K mg base CX0 1 "is_less" 2 sp_is_less) : FnAt P w K mg base CX0 2 "greatest_part" 1 sp_greatest_part := (w_greatest_part T B F_is_less).imp v_greatest_part

def muchQ (rs : List Row) : Bool := lessQ (1, 1) (sumQ (partsOf rs))
def sp_too_much : GF := fun ds w _ k => ∃ rs : List Row, ds = [.tup (rs.map rowD)] ∧ RowsOk rs 20 ∧ k (.bl (muchQ rs)) w
def rowP : Row → Qp
  | .of _ p => p
  | .steps _ qs => great qs (0, 1)
  | _ => (0, 1)
theorem ofs_flt : ∀ rs : List Row, (rs.filter fun r => decide (kindS r = "of")).map rowP = ofs rs
  | [] => rfl
  | r :: rs => by
    have ih := ofs_flt rs
    cases r with
    | of n p =>
      rw [List.filter_cons, if_pos (by show decide (("of" : Str) = "of") = true; decide +kernel), List.map_cons, ih]
      rfl
    | steps n p =>
      rw [List.filter_cons, if_neg (by show ¬ decide (("steps" : Str) = "of") = true; decide +kernel), ih]
      rfl
    | left n p =>
      rw [List.filter_cons, if_neg (by show ¬ decide (("left" : Str) = "of") = true; decide +kernel), ih]
      rfl
    | length n p =>
      rw [List.filter_cons, if_neg (by show ¬ decide (("length" : Str) = "of") = true; decide +kernel), ih]
      rfl
theorem sts_flt : ∀ rs : List Row, (rs.filter fun r => decide (kindS r = "steps")).map rowP = sts rs
  | [] => rfl
  | r :: rs => by
    have ih := sts_flt rs
    cases r with
    | of n p =>
      rw [List.filter_cons, if_neg (by show ¬ decide (("of" : Str) = "steps") = true; decide +kernel), ih]
      rfl
    | steps n p =>
      rw [List.filter_cons, if_pos (by show decide (("steps" : Str) = "steps") = true; decide +kernel), List.map_cons, ih]
      rfl
    | left n p =>
      rw [List.filter_cons, if_neg (by show ¬ decide (("left" : Str) = "steps") = true; decide +kernel), ih]
      rfl
    | length n p =>
      rw [List.filter_cons, if_neg (by show ¬ decide (("length" : Str) = "steps") = true; decide +kernel), ih]
      rfl
theorem kind_of {r : Row} (h : kindS r = "of") : ∃ n p, r = .of n p := by
  cases r with
  | of n p => exact ⟨n, p, rfl⟩
  | steps n p => exact absurd (show ("steps" : Str) = "of" from h) (by decide +kernel)
  | left n p => exact absurd (show ("left" : Str) = "of" from h) (by decide +kernel)
  | length n p => exact absurd (show ("length" : Str) = "of" from h) (by decide +kernel)
theorem kind_st {r : Row} (h : kindS r = "steps") : ∃ n p, r = .steps n p := by
  cases r with
  | of n p => exact absurd (show ("of" : Str) = "steps" from h) (by decide +kernel)
  | steps n p => exact ⟨n, p, rfl⟩
  | left n p => exact absurd (show ("left" : Str) = "steps" from h) (by decide +kernel)
  | length n p => exact absurd (show ("length" : Str) = "steps" from h) (by decide +kernel)
abbrev s_too_much : Stmt := topS 23
theorem sc_too_much : FnScope ["rows", "parts", "row"] ["rows"] (defScope s_too_much) := ⟨rfl, rfl, rfl, by decide +kernel, rfl, by decide +kernel, by decide +kernel⟩
def g_too_much : GS := (gSeq (gSet 1 (gBin addD (gLc (giSeq (gCall0 2 sp_rows_by (gaCons (gVar 0) (gaCons (gC (.str "of")) gaNil)))) (ggName 2) gYes (gBin ixD (gVar 2) (gC (.int 2))) [2]) (gLc (giSeq (gCall0 2 sp_rows_by (gaCons (gVar 0) (gaCons (gC (.str "steps")) gaNil)))) (ggName 2) gYes (gCall0 1 sp_greatest_part (gaCons (gBin ixD (gVar 2) (gC (.int 2))) gaNil)) [2])))
  (gRet (gCall0 2 sp_is_less (gaCons (gTup (gaCons (gC (.int 1)) (gaCons (gC (.int 1)) gaNil))) (gaCons (gCall0 1 sp_sum_of (gaCons (gVar 1) gaNil)) gaNil)))))
theorem w_too_much {P : Program} {w : World} {K : PySem.W.Frag} {mg : Str → Option Value} {base : Heap} (T : DefAt K mg "too_much" s_too_much ["rows"]) (B : Blt mg) (F_is_less : FnAt P w K mg base CX0 1 "is_less" 2 sp_is_less) (F_sum_of : FnAt P w K mg base CX0 3 "sum_of" 1 sp_sum_of) (F_greatest_part : FnAt P w K mg base CX0 2 "greatest_part" 1 sp_greatest_part) (F_rows_by : FnAt P w K mg base CX0 1 "rows_by" 2 sp_rows_by) : FnAt P w K mg base CX0 4 "too_much" 1 (sem0 3 g_too_much) := by
  have nd := sc_too_much.nd
  exact T.fn0 sc_too_much (fun f cdv A outer s H E hr => (dss_cons (ds_set (i := 1) nd rfl (by first | exact Or.inl rfl | exact Or.inr rfl) (de_add (de_lc (own := [("row", 2)]) (us := [2]) rfl nd (di_seq (de_call0 F_rows_by hr (by rfl) (da_cons (de_var 0) (da_cons de_str da_nil)))) (blkOk_by (N := ["rows", "parts", "row"]) (sc := defScope s_too_much) (by decide +kernel)) (by decide) (fun _ _ _ _ _ => (dg_name (i := 2) nd rfl (by first | exact Or.inl rfl | exact Or.inr rfl))) (fun _ _ _ _ _ => dts_nil) (fun _ _ _ _ _ => (de_ix (de_var 2) de_int))) (de_lc (own := [("row", 2)]) (us := [2]) rfl nd (di_seq (de_call0 F_rows_by hr (by rfl) (da_cons (de_var 0) (da_cons de_str da_nil)))) (blkOk_by (N := ["rows", "parts", "row"]) (sc := defScope s_too_much) (by decide +kernel)) (by decide) (fun _ _ _ _ _ => (dg_name (i := 2) nd rfl (by first | exact Or.inl rfl | exact Or.inr rfl))) (fun _ _ _ _ _ => dts_nil) (fun _ _ _ _ _ => (de_call0 F_greatest_part hr (by rfl) (da_cons (de_ix (de_var 2) de_int) da_nil))))))
  (dss_one (ds_ret (de_call0 F_is_less hr (by rfl) (da_cons (de_tup (da_cons de_int (da_cons de_int da_nil))) (da_cons (de_call0 F_sum_of hr (by rfl) (da_cons (de_var 1) da_nil)) da_nil)))))))

theorem flt_mem {rs : List Row} {s : Str} {r : Row} (h : r ∈ rs.filter fun r => decide (kindS r = s)) : r ∈ rs ∧ kindS r = s := by
  obtain ⟨h1, h2⟩ := List.mem_filter.mp h
  exact ⟨h1, of_decide_eq_true h2⟩
theorem flt_len (rs : List Row) (s : Str) : (rs.filter fun r => decide (kindS r = s)).length ≤ rs.length := List.length_filter_le _ _
theorem v_too_much : ∀ ds w kx k, sp_too_much ds w kx k → sem0 3 g_too_much ds w kx k := by
  rintro ds w kx k ⟨rs, rfl, ⟨hl, hr⟩, hk⟩
  have e : rho 3 [D.tup (rs.map rowD)] = [some (.tup (rs.map rowD)), none, none] := rfl
  simp! only [g_too_much, e, sp_rows_by, sp_greatest_part, sp_sum_of, sp_is_less]
  have l1 := flt_len rs "of"
  have l2 := flt_len rs "steps"
  refine ⟨rs, _, rfl, by omega, lc_ty rowD (fun r => fD (rowP r)) _ trivial (by omega) (fun a ha k' hk' => ?_) ?_⟩
  · obtain ⟨n, p, rfl⟩ := kind_of (flt_mem ha).2
    simp! only [row2_of]
    exact hk'
  refine ⟨rs, _, rfl, by omega, lc_ty rowD (fun r => fD (rowP r)) _ trivial (by omega) (fun a ha k' hk' => ?_) ?_⟩
  · obtain ⟨h1, h2⟩ := flt_mem ha
    obtain ⟨n, p, rfl⟩ := kind_st h2
    simp! only [row2_st]
    exact ⟨p, rfl, hr _ h1, hk'⟩
  have e1 : ((rs.filter fun r => decide (kindS r = "of")).map fun r => fD (rowP r)) = (ofs rs).map fD := by rw [← ofs_flt, List.map_map]; rfl
  have e2 : ((rs.filter fun r => decide (kindS r = "steps")).map fun r => fD (rowP r)) = (sts rs).map fD := by rw [← sts_flt, List.map_map]; rfl
  rw [e1, e2, addD_l, ← List.map_append]
  have hp := partsOf_ok hr
  have hpl := partsOf_len rs
  have hpl' : (ofs rs ++ sts rs).length ≤ 40 := by
    have : (partsOf rs).length ≤ 40 := by omega
    exact this
  refine ⟨by rw [List.length_map, List.length_map, ← List.length_append]; exact le_sl (by omega), ?_⟩
  refine ⟨by decide, _, partsOf rs, rfl, ⟨rfl, step_frb hp (Nat.le_trans (Nat.mul_le_mul_left _ (Nat.succ_le_succ (Nat.le_trans hpl (Nat.mul_le_mul_left 2 hl)))) (by decide))⟩, ?_⟩
  have hs := sum_lt rfl hp
  refine ⟨(1, 1), sumQ (partsOf rs), rfl, ⟨⟨by show 1 < 2 ^ 4000; exact Nat.lt_of_lt_of_le (by decide : 1 < 2 ^ 1) (Nat.pow_le_pow_right (by decide) (by decide)), by show 1 < 2 ^ 4000; exact Nat.lt_of_lt_of_le (by decide : 1 < 2 ^ 1) (Nat.pow_le_pow_right (by decide) (by decide))⟩, hs.mono ?_⟩, hk⟩
  have : (12 + 1) * (partsOf rs).length ≤ 13 * (2 * rs.length) := Nat.mul_le_mul_left _ hpl
  omega
theorem ok_too_much {P : Program} {w : World} {K : PySem.W.Frag} {mg : Str → Option Value} {base : Heap} (T : DefAt K mg "too_much" s_too_much ["rows"]) (B : Blt mg) (F_is_less : FnAt P w K mg base CX0 1 "is_less" 2 sp_is_less) (F_sum_of : FnAt P w K mg base CX0 3 "sum_of" 1 sp_sum_of) (F_greatest_part : FnAt P w K mg base CX0 2 "greatest_part" 1 sp_greatest_part) (F_rows_by : FnAt P w K mg base CX0 1 "rows_by" 2 sp_rows_by) : FnAt P w K mg base CX0 4 "too_much" 1 sp_too_much := (w_too_much T B F_is_less F_sum_of F_greatest_part F_rows_by).imp v_too_much


end LW

namespace LW
open PySem PySem.Spec PyProof.Rows L2 RZ DL
local macro_rules | `(tactic| simp! only [$xs,*] $[$loc]?) => `(tactic| simp only [$xs,*, sem0,List.map_cons,List.map_nil,List.length_cons,List.length_nil,gSeq,gNext,gRet,gRetN,gIfS,gSet,gPar,gAsg,gDrop,gVar,gC,gBin,gUn,gB,gTru,gAnd,gOr,gNot,gAndV,gOrV,gNotV,gIf,gChain,gaNil,gaCons,DL.gTup,DL.gLst,gCB,gCall0,gAug,addD_i,addD_s,addD_l,addD_t,subD_i,mulD_i,mulD_l,fdivD_i,modD_i,powD_i,ltD_i,ltD_s,leD_i,gtD_i,geD_i,isD_n,isnotD_n,isNonD_non,isNonD_bl,isNonD_int,isNonD_str,isNonD_lst,isNonD_tup,negD_i,iaddD_i,truD_non,truD_bl,truD_int,truD_str,truD_lst,truD_tup,someK_some,ixD_l,ixD_t,fAbs_i,fInt_i,fInt_b,fMin2_i,fLen_l,fLen_t,fLen_s,fList_l,fList_t,fTuple_l,fTuple_t,optBK_some,fIsi_non,fIsi_bl,fIsi_int,fIsi_str,fIsi_lst,fIsi_tup,List.getElem?_cons_zero,List.getElem?_cons_succ,List.set_cons_zero,List.set_cons_succ,DL.ggName,ggNil0,ggCons1,ggTup2,ggTup3,gFor,giSeq,gLc,gYes,wipeR,true_and,and_true,at_0,at_1,at_2,kit_int_int,kit_bool_int,kit_str_int,kit_non_int,kit_list_int,kit_tuple_int,kit_int_bool,kit_bool_bool,kit_str_bool,kit_non_bool,kit_list_bool,kit_tuple_bool,kit_int_str,kit_bool_str,kit_str_str,kit_non_str,kit_list_str,kit_tuple_str,kit_int_list,kit_bool_list,kit_str_list,kit_non_list,kit_list_list,kit_tuple_list,kit_int_tuple,kit_bool_tuple,kit_str_tuple,kit_non_tuple,kit_list_tuple,kit_tuple_tuple,eqD_i,neD_i,eqD_s,neD_s,eqD_f,neD_f,Nat.zero_add,Nat.reduceAdd,nc0,nc1,nc2,nc3,nc4,nc5,nc6,nc7,nc8,nc9,eq_self,decide_true,decide_false,Int.reduceEq,Int.reduceLT,Int.reduceLE,Int.reduceNeg,Bool.not_true,Bool.not_false,Bool.false_eq_true,if_true,if_false,↓reduceIte,false_and,and_false,List.all_cons,List.all_nil,List.any_cons,List.any_nil,id_eq,Bool.and_true,Bool.true_and,Bool.or_false,Bool.false_or,Bool.and_false,Bool.false_and,gCut,eqD_b,neD_b,giZip,reduceCtorEq,Bool.true_eq_false,Bool.false_eq_true,gRevL,gSl,goNone,goSome,slD_l,ne_eq,not_false_eq_true,not_true_eq_false,gBM,isTy_l,isTy_s,new_at,new_set,isTy_new,cellK_new,append_new,popAt_new,gFrz_eq,frzK_new,fLen_new,fTuple_new,ixD_new,slA_l,slA_t,slA_new,addTD_t,addCD_l,mulCD_l,isbD_b,isnotbD_b,mSplitC_s,gLstC,gTr,ggSub,lstK_l,lstK_r,addLD_eq] $[$loc]?)



def uptosOf (rs : List Row) : List Int := (rs.filterMap stP).flatMap fun qs => qs.filterMap (·.1)
def inSt (a b : Int) (u : Int) : Bool := decide (a < u ∧ u < b)
def cuts (a b : Int) (ms : List Int) : List (Int × Int) := ((a :: ms).zip (ms ++ [b])).map fun p => (p.1, p.2 - p.1)
def ipD (p : Int × Int) : D := .tup [.int p.1, .int p.2]
structure KeysN (kvs : List (Key × D)) (ks : List Int) : Prop where
  eq : kvs.map (·.1) = ks.map Sum.inl
  nd : ks.Nodup
theorem keysN_put {kvs : List (Key × D)} {ks : List Int} {u : Int} {d : D} (h : KeysN kvs ks) : KeysN (putD kvs (Sum.inl u) d) (if u ∈ ks then ks else ks ++ [u]) := by
  have any : (kvs.any fun kv => decide (kv.1 = (Sum.inl u : Key))) = decide (u ∈ ks) := by
    rw [Bool.eq_iff_iff, List.any_eq_true, decide_eq_true_eq]
    constructor
    · rintro ⟨x, hx, e⟩
      have : (Sum.inl u : Key) ∈ ks.map Sum.inl := by
        rw [← h.eq, ← of_decide_eq_true e]
        exact List.mem_map.mpr ⟨x, hx, rfl⟩
      obtain ⟨v, hv, e2⟩ := List.mem_map.mp this
      rw [← Sum.inl.inj e2]
      exact hv
    · intro hu
      have : (Sum.inl u : Key) ∈ kvs.map (·.1) := by
        rw [h.eq]
        exact List.mem_map.mpr ⟨u, hu, rfl⟩
      obtain ⟨x, hx, e2⟩ := List.mem_map.mp this
      exact ⟨x, hx, decide_eq_true e2⟩
  unfold putD
  rw [any]
  by_cases hu : u ∈ ks
  · rw [decide_eq_true hu, if_pos rfl, if_pos hu]
    refine ⟨?_, h.nd⟩
    rw [List.map_map, ← h.eq]
    refine List.map_congr_left fun x _ => ?_
    show (if x.1 = Sum.inl u then (x.1, d) else x).1 = x.1
    split <;> rfl
  · rw [decide_eq_false hu, if_neg (by decide), if_neg hu]
    refine ⟨by rw [List.map_append, List.map_append, h.eq]; rfl, ?_⟩
    rw [List.nodup_append]
    refine ⟨h.nd, by simp, fun a ha b hb z => ?_⟩
    have hb : b = u := by simpa using hb
    exact hu (by rw [← hb, ← z]; exact ha)
theorem keysN_merge : ∀ {us : List Int} {kvs : List (Key × D)} {ks : List Int}, KeysN kvs ks → ∃ ks', KeysN (mergeD kvs (us.map fun u => ((Sum.inl u : Key), D.bl true))) ks' ∧ (∀ v, v ∈ ks' ↔ v ∈ ks ∨ v ∈ us) ∧ ks'.length ≤ ks.length + us.length
  | [], kvs, ks, h => ⟨ks, h, fun v => ⟨.inl, fun z => z.elim id fun z => nomatch z⟩, by rw [List.length_nil]; exact Nat.le_refl _⟩
  | u :: us, kvs, ks, h => by
    obtain ⟨ks', h1, h2, h3⟩ := keysN_merge (us := us) (keysN_put (u := u) (d := .bl true) h)
    refine ⟨ks', h1, fun v => ?_, ?_⟩
    · rw [h2 v, List.mem_cons]
      by_cases hu : u ∈ ks
      · rw [if_pos hu]
        constructor
        · rintro (z | z)
          · exact .inl z
          · exact .inr (.inr z)
        · rintro (z | z | z)
          · exact .inl z
          · exact .inl (z ▸ hu)
          · exact .inr z
      · rw [if_neg hu, List.mem_append, List.mem_singleton]
        constructor
        · rintro ((z | z) | z)
          · exact .inl z
          · exact .inr (.inl z)
          · exact .inr (.inr z)
        · rintro (z | z | z)
          · exact .inl (.inl z)
          · exact .inl (.inr z)
          · exact .inr z
    · rw [List.length_cons]
      by_cases hu : u ∈ ks
      · rw [if_pos hu] at h3
        omega
      · rw [if_neg hu, List.length_append, List.length_singleton] at h3
        omega
def upIn (a b : Int) (r : Rate) : Bool := match r.1 with
  | none => false
  | some u => inSt a b u
def upsIn (a b : Int) (qs : List Rate) : List Int := (qs.filter (upIn a b)).filterMap (·.1)
theorem upsIn_mem {a b u : Int} {qs : List Rate} : u ∈ upsIn a b qs ↔ (∃ p, (some u, p) ∈ qs) ∧ a < u ∧ u < b := by
  unfold upsIn
  rw [List.mem_filterMap]
  constructor
  · rintro ⟨⟨v, p⟩, h1, h2⟩
    obtain ⟨h3, h4⟩ := List.mem_filter.mp h1
    have h2 : v = some u := h2
    subst h2
    have h4 : inSt a b u = true := h4
    exact ⟨⟨p, h3⟩, of_decide_eq_true h4⟩
  · rintro ⟨⟨p, h1⟩, h2⟩
    exact ⟨(some u, p), List.mem_filter.mpr ⟨h1, decide_eq_true h2⟩, rfl⟩
theorem rates_len {qs : List Rate} (h : Rates qs) : (qs.filterMap (·.1)).length ≤ 7 := by
  obtain ⟨h1, _, q, hq⟩ := h
  have : ∀ {qs : List Rate}, (none, q) ∈ qs → (qs.filterMap (·.1)).length + 1 ≤ qs.length := by
    intro qs
    induction qs with
    | nil => intro h; cases h
    | cons r qs ih =>
      intro h
      rcases List.mem_cons.mp h with h | h
      · subst h
        have := List.length_filterMap_le (fun r : Rate => r.1) qs
        rw [List.filterMap_cons_none rfl, List.length_cons]
        omega
      · have := ih h
        rw [List.length_cons]
        obtain ⟨v, p⟩ := r
        cases v with
        | none =>
          rw [List.filterMap_cons_none rfl]
          omega
        | some v =>
          rw [show List.filterMap (fun x : Rate => x.1) ((some v, p) :: qs) = v :: List.filterMap (fun x : Rate => x.1) qs from rfl, List.length_cons]
          omega
  have := this hq
  omega
theorem upsIn_len {a b : Int} {qs : List Rate} (h : Rates qs) : (upsIn a b qs).length ≤ 7 := by
  refine Nat.le_trans ?_ (rates_len h)
  unfold upsIn
  exact (List.Sublist.filterMap _ List.filter_sublist).length_le
theorem uptos_mem {u : Int} {rs : List Row} : u ∈ uptosOf rs ↔ ∃ n qs p, Row.steps n qs ∈ rs ∧ (some u, p) ∈ qs := by
  unfold uptosOf
  rw [List.mem_flatMap]
  constructor
  · rintro ⟨qs, h1, h2⟩
    obtain ⟨r, h3, h4⟩ := List.mem_filterMap.mp h1
    obtain ⟨⟨v, p⟩, h5, h6⟩ := List.mem_filterMap.mp h2
    have h6 : v = some u := h6
    subst h6
    cases r with
    | steps n ps =>
      cases h4
      exact ⟨n, _, p, h3, h5⟩
    | _ => cases h4
  · rintro ⟨n, qs, p, h1, h2⟩
    exact ⟨qs, List.mem_filterMap.mpr ⟨_, h1, rfl⟩, List.mem_filterMap.mpr ⟨_, h2, rfl⟩⟩
theorem cut_one {α : Type} {x : α} {xs : List α} : DL.cutD (x :: xs) (some 1) none = xs := by
  unfold DL.cutD HT.sIx
  simp
theorem rfK_r {i : Nat} {f : Nat → Prop} : rfK (.rf i) f = f i := rfl
theorem zip_ints : ∀ xs ys : List Int, zipD (xs.map D.int) (ys.map D.int) = (xs.zip ys).map ipD
  | [], _ => by simp [zipD]
  | x :: xs, [] => by simp [zipD]
  | x :: xs, y :: ys => by
    have := zip_ints xs ys
    unfold zipD at this ⊢
    rw [List.map_cons, List.map_cons, List.zipWith_cons_cons, this]
    rfl
theorem dkK_new {M : List Cell} {kvs : List (Key × D)} {n : Option Nat} {f : List (Key × D) → Prop} : dkK M.length ⟨M ++ [.dk kvs], n⟩ f = f kvs := by
  unfold dkK
  simp only [new_at]
theorem ups_data {a b : Int} : ∀ qs : List Rate, ((qs.filter (upIn a b)).map fun r => D.tup [optD r.1, .bl true]) = (((upsIn a b qs).map fun u => ((Sum.inl u : Key), D.bl true)).map fun p => D.tup [kD p.1, p.2])
  | [] => rfl
  | (none, p) :: qs => by
    have := ups_data (a := a) (b := b) qs
    unfold upsIn at this ⊢
    rw [List.filter_cons, if_neg (by show ¬ (false = true); decide)]
    exact this
  | (some u, p) :: qs => by
    have := ups_data (a := a) (b := b) qs
    unfold upsIn at this ⊢
    by_cases h : inSt a b u = true
    · rw [List.filter_cons, if_pos (show upIn a b (some u, p) = true from h), List.map_cons, this]
      rfl
    · rw [List.filter_cons, if_neg (show ¬ upIn a b (some u, p) = true from h)]
      exact this
theorem keysN_len {kvs : List (Key × D)} {ks : List Int} (h : KeysN kvs ks) : kvs.length = ks.length := by
  have := congrArg List.length h.eq
  rw [List.length_map, List.length_map] at this
  exact this
theorem le_nd_lt : ∀ {xs : List Int}, xs.Pairwise (· ≤ ·) → xs.Nodup → xs.Pairwise (· < ·)
  | [], _, _ => .nil
  | x :: xs, h, n => by
    rw [List.pairwise_cons] at h ⊢
    rw [List.nodup_cons] at n
    refine ⟨fun y hy => ?_, le_nd_lt h.2 n.2⟩
    have := h.1 y hy
    have : x ≠ y := fun z => n.1 (z ▸ hy)
    omega
theorem cuts_zip (a b : Int) (ms : List Int) : (zipD (([a] ++ ms).map D.int) ((ms ++ [b]).map D.int)) = ((a :: ms).zip (ms ++ [b])).map ipD := zip_ints _ _
def sp_unit_stretches : GF := fun ds w _ k => ∃ (rs : List Row) (a m : Int), ds = [.tup (rs.map rowD), .int a, .int m] ∧ RowsOk rs 8 ∧ ∀ ms R, ms.Pairwise (· < ·) → (∀ u, u ∈ ms ↔ u ∈ uptosOf rs ∧ a < u ∧ u < a + m) → ms.length ≤ 56 →
  k (.rf (w.M ++ R).length) ⟨w.M ++ R ++ [.lst ((cuts a (a + m) ms).map ipD)], w.n⟩
abbrev s_unit_stretches : Stmt := topS 28
theorem sc_unit_stretches : FnScope ["rows", "first", "many", "uptos", "row", "begins", "ends", "begin", "end", "upto", "part"] ["rows", "first", "many"] (defScope s_unit_stretches) := ⟨rfl, rfl, rfl, by decide +kernel, rfl, by decide +kernel, by decide +kernel⟩
def g_unit_stretches : GS := (gSeq (gSet 3 gDNew)
  (gSeq (gFor (giSeq (gCall0 2 sp_rows_by (gaCons (gVar 0) (gaCons (gC (.str "steps")) gaNil)))) (ggName 4) (gDrop (gDUpd (gVar 3) (gLc (giSeq (gBin ixD (gVar 4) (gC (.int 2)))) (ggTup 2 (ggCons (ggName 9) (ggCons (ggName 10) ggNil))) (gAnd (gB (gBin isnotD (gVar 9) (gC .non))) (gB (gChain ltD ltD (gVar 1) (gVar 9) (gBin addD (gVar 1) (gVar 2))))) (gTup (gaCons (gVar 9) (gaCons (gC (.bl true)) gaNil))) [9, 10]))))
  (gSeq (gSet 5 (gBin addD (DL.gLst (gaCons (gVar 1) gaNil)) (gCB fSortDI (gaCons (gVar 3) gaNil))))
  (gSeq (gSet 6 (gBin addD (gSl slA (gVar 5) (goSome (gC (.int 1))) goNone) (DL.gLst (gaCons (gBin addD (gVar 1) (gVar 2)) gaNil))))
  (gRet (gLcC (giZip (gaCons (gVar 5) (gaCons (gVar 6) gaNil))) (ggTup 2 (ggCons (ggName 7) (ggCons (ggName 8) ggNil))) gYes (gTup (gaCons (gVar 7) (gaCons (gBin subD (gVar 8) (gVar 7)) gaNil))) [7, 8]))))))
theorem w_unit_stretches {P : Program} {w : World} {K : PySem.W.Frag} {mg : Str → Option Value} {base : Heap} (T : DefAt K mg "unit_stretches" s_unit_stretches ["rows", "first", "many"]) (B : Blt mg) (F_rows_by : FnAt P w K mg base CX0 1 "rows_by" 2 sp_rows_by) : FnAt P w K mg base CX0 2 "unit_stretches" 3 (sem0 11 g_unit_stretches) := by
  have nd := sc_unit_stretches.nd
  exact T.fn0 sc_unit_stretches (fun f cdv A outer s H E hr => (dss_cons (ds_set (i := 3) nd rfl (by first | exact Or.inl rfl | exact Or.inr rfl) de_dnew)
  (dss_cons (ds_for PassesOwn.never rfl (di_seq (de_call0 F_rows_by hr (by rfl) (da_cons (de_var 0) (da_cons de_str da_nil)))) (dg_name (i := 4) nd rfl (by first | exact Or.inl rfl | exact Or.inr rfl)) (dss_one (ds_expr (de_dupd rfl (de_var 3) (de_lc (own := [("upto", 9), ("part", 10)]) (us := [9, 10]) rfl nd (di_seq (de_ix (de_var 4) de_int)) (blkOk_by (N := ["rows", "first", "many", "uptos", "row", "begins", "ends", "begin", "end", "upto", "part"]) (sc := defScope s_unit_stretches) (by decide +kernel)) (by decide) (fun _ _ _ _ _ => (dg_tup rfl (dgs_cons (dg_name (i := 9) nd rfl (by first | exact Or.inl rfl | exact Or.inr rfl)) (dgs_cons (dg_name (i := 10) nd rfl (by first | exact Or.inl rfl | exact Or.inr rfl)) dgs_nil)))) (fun _ _ _ _ _ => (dts_one (dt_w (dw_and (dt_isnot (de_var 9) de_non) (dw_and1 (dt_chain op_ltD ok_ltD op_ltD ok_ltD (de_var 1) (de_var 9) (de_add (de_var 1) (de_var 2)))))))) (fun _ _ _ _ _ => (de_tup (da_cons (de_var 9) (da_cons de_bl da_nil)))))))))
  (dss_cons (ds_set (i := 5) nd rfl (by first | exact Or.inl rfl | exact Or.inr rfl) (de_add (de_lst (da_cons (de_var 1) da_nil)) (de_sortDI B rfl (by rfl) (da_cons (de_var 3) da_nil))))
  (dss_cons (ds_set (i := 6) nd rfl (by first | exact Or.inl rfl | exact Or.inr rfl) (de_add (de_slA (de_var 5) (do_some de_int) do_none) (de_lst (da_cons (de_add (de_var 1) (de_var 2)) da_nil))))
  (dss_one (ds_ret (de_lcC (own := [("begin", 7), ("end", 8)]) (us := [7, 8]) rfl nd (di_zip B (by rfl) (da_cons (de_var 5) (da_cons (de_var 6) da_nil))) (blkOk_by (N := ["rows", "first", "many", "uptos", "row", "begins", "ends", "begin", "end", "upto", "part"]) (sc := defScope s_unit_stretches) (by decide +kernel)) (by decide) (fun _ _ _ _ _ => (dg_tup rfl (dgs_cons (dg_name (i := 7) nd rfl (by first | exact Or.inl rfl | exact Or.inr rfl)) (dgs_cons (dg_name (i := 8) nd rfl (by first | exact Or.inl rfl | exact Or.inr rfl)) dgs_nil)))) (fun _ _ _ _ _ => dts_nil) (fun _ _ _ _ _ => (de_tup (da_cons (de_var 7) (da_cons (de_sub (de_var 8) (de_var 7)) da_nil))))))))))))

theorem v_unit_stretches : ∀ ds w kx k, sp_unit_stretches ds w kx k → sem0 11 g_unit_stretches ds w kx k := by
  rintro ds w kx k ⟨rs, a, m, rfl, ⟨hl, hr⟩, hk⟩
  have e : rho 11 [D.tup (rs.map rowD), D.int a, D.int m] = [some (.tup (rs.map rowD)), some (.int a), some (.int m), none, none, none, none, none, none, none, none] := rfl
  simp! only [g_unit_stretches, e, gDNew, sp_rows_by]
  obtain ⟨ss, hss⟩ : ∃ ss, ss = rs.filter fun r => decide (kindS r = "steps") := ⟨_, rfl⟩
  have hsl : ss.length ≤ 8 := by
    have := List.length_filter_le (fun r => decide (kindS r = "steps")) rs
    rw [hss]
    omega
  refine ⟨rs, "steps", rfl, by omega, ?_⟩
  rw [← hss]
  refine ⟨fun rem ρ w' => ∃ (dn ts : List Row) (kvs : List (Key × D)) (ks : List Int) (x4 : Option D), ss = dn ++ ts ∧ rem = ts.map rowD ∧ ρ = [some (.tup (rs.map rowD)), some (.int a), some (.int m), some (.rf w.M.length), x4, none, none, none, none, none, none] ∧ w' = ⟨w.M ++ [.dk kvs], w.n⟩ ∧
    KeysN kvs ks ∧ (∀ u, u ∈ ks ↔ u ∈ uptosOf dn ∧ a < u ∧ u < a + m) ∧ ks.length ≤ 7 * dn.length, ⟨[], ss, [], [], none, rfl, rfl, rfl, rfl, ⟨rfl, List.nodup_nil⟩, fun u => ⟨(fun h => nomatch h), fun h => nomatch h.1⟩, Nat.le_refl _⟩, ?_, ?_⟩
  · rintro ρ w' ⟨dn, ts, kvs, ks, x4, h1, h2, rfl, rfl, hK, hm, hkl⟩
    have : ts = [] := by simpa using h2.symm
    subst this
    rw [List.append_nil] at h1
    subst h1
    refine ⟨trivial, ?_⟩
    simp! only [fSortDI, dkK_new]
    have hks : ks.length ≤ 56 := by omega
    refine ⟨by decide, ks, hK.eq, by omega, fun ys hp hs => ?_⟩
    have hyl : ys.length ≤ 56 := by rw [hp.length_eq]; exact hks
    have hlt := le_nd_lt hs (hp.nodup_iff.mpr hK.nd)
    refine ⟨le_sl (by rw [List.length_map]; omega), by decide, ?_⟩
    rw [show [D.int a] ++ ys.map D.int = D.int a :: ys.map D.int from rfl, cut_one]
    refine ⟨le_sl (by rw [List.length_map]; omega), ?_⟩
    rw [show D.int a :: ys.map D.int = ([a] ++ ys).map D.int from rfl, show ys.map D.int ++ [D.int (a + m)] = (ys ++ [a + m]).map D.int by rw [List.map_append]; rfl]
    simp! only [gLcC]
    rw [cuts_zip]
    refine lc_ty ipD (fun p => ipD (p.1, p.2 - p.1)) ((a :: ys).zip (ys ++ [a + m])) trivial (by rw [List.length_zip]; simp; omega) (fun p _ k' hk' => ?_) ?_
    · simp! only [ipD]
      exact ⟨by decide, hk'⟩
    · refine ⟨_, rfl, ?_⟩
      have hmem : ∀ u, u ∈ uptosOf ss ↔ u ∈ uptosOf rs := fun u => by
        rw [uptos_mem, uptos_mem]
        constructor
        · rintro ⟨n, qs, p, h1, h2⟩
          rw [hss] at h1
          exact ⟨n, qs, p, (List.mem_filter.mp h1).1, h2⟩
        · rintro ⟨n, qs, p, h1, h2⟩
          refine ⟨n, qs, p, ?_, h2⟩
          rw [hss]
          exact List.mem_filter.mpr ⟨h1, decide_eq_true rfl⟩
      have := hk ys [.dk kvs] hlt (fun u => by rw [hp.mem_iff, hm u, hmem u]) hyl
      unfold cuts at this
      rw [List.map_map] at this
      exact this
  · rintro z xs ρ w' ⟨dn, ts, kvs, ks, x4, h1, h2, rfl, rfl, hK, hm, hkl⟩
    cases ts with
    | nil => cases h2
    | cons r ts =>
      rw [List.map_cons] at h2
      injection h2 with h2 h2'
      subst h2
      subst h2'
      have hmem : r ∈ rs.filter fun r => decide (kindS r = "steps") := by
        rw [← hss, h1]
        simp
      obtain ⟨hr1, hr2⟩ := List.mem_filter.mp hmem
      obtain ⟨n, qs, rfl⟩ := kind_st (of_decide_eq_true hr2)
      have hq : Rates qs := hr _ hr1
      refine ⟨trivial, ?_⟩
      simp! only [gDUpd, rfK_r, dkK_new, row2_st]
      refine lc_tyf rateD (fun r => D.tup [optD r.1, .bl true]) (upIn a (a + m)) qs trivial (by have := hq.1; omega) (fun r hr' A B h3 h4 => ?_) ?_
      · obtain ⟨up, p⟩ := r
        cases up with
        | none =>
          simp! only [rate_tup, optD]
          exact h4 rfl
        | some up =>
          simp! only [rate_tup, optD]
          by_cases g1 : a < up
          · rw [decide_eq_true g1]
            show (if decide (up < a + m) = true then _ else _)
            exact ite2 (fun g => ⟨by decide, h3 (decide_eq_true ⟨g1, of_decide_eq_true g⟩)⟩) (fun g => h4 (decide_eq_false fun z => g (decide_eq_true z.2)))
          · rw [decide_eq_false g1]
            exact h4 (decide_eq_false fun z => g1 z.1)
      · rw [dkK_new, ups_data]
        obtain ⟨ks', g1, g2, g3⟩ := keysN_merge (us := upsIn a (a + m) qs) hK
        have hul := upsIn_len (a := a) (b := a + m) hq
        have hdn : dn.length ≤ 7 := by
          have : ss.length = dn.length + (ts.length + 1) := by rw [h1]; simp
          omega
        refine ⟨_, rfl, le_sl (by rw [List.length_map, keysN_len hK]; omega), dn ++ [.steps n qs], ts, _, ks', _, by rw [h1]; simp, rfl, rfl, by rw [new_set], g1, fun u => ?_, by rw [List.length_append, List.length_singleton]; omega⟩
        rw [g2 u, hm u, upsIn_mem, uptos_mem, uptos_mem]
        constructor
        · rintro (⟨⟨n', qs', p, h3, h4⟩, h5⟩ | ⟨⟨p, h3⟩, h4⟩)
          · exact ⟨⟨n', qs', p, List.mem_append_left _ h3, h4⟩, h5⟩
          · exact ⟨⟨n, qs, p, List.mem_append_right _ (List.mem_singleton.mpr rfl), h3⟩, h4⟩
        · rintro ⟨⟨n', qs', p, h3, h4⟩, h5⟩
          rcases List.mem_append.mp h3 with h3 | h3
          · exact .inl ⟨⟨n', qs', p, h3, h4⟩, h5⟩
          · have := List.mem_singleton.mp h3
            cases this
            exact .inr ⟨⟨p, h4⟩, h5⟩
theorem ok_unit_stretches {P : Program} {w : World} {K : PySem.W.Frag} {mg : Str → Option Value} {base : Heap} (T : DefAt K mg "unit_stretches" s_unit_stretches ["rows", "first", "many"]) (B : Blt mg) (F_rows_by : FnAt P w K mg base CX0 1 "rows_by" 2 sp_rows_by) : FnAt P w K mg base CX0 2 "unit_stretches" 3 sp_unit_stretches := (w_unit_stretches T B F_rows_by).imp v_unit_stretches


end LW

namespace LW
open PySem PySem.Spec PyProof.Rows L2 RZ DL
local macro_rules | `(tactic| simp! only [$xs,*] $[$loc]?) => `(tactic| simp only [$xs,*, sem0,List.map_cons,List.map_nil,List.length_cons,List.length_nil,gSeq,gNext,gRet,gRetN,gIfS,gSet,gPar,gAsg,gDrop,gVar,gC,gBin,gUn,gB,gTru,gAnd,gOr,gNot,gAndV,gOrV,gNotV,gIf,gChain,gaNil,gaCons,DL.gTup,DL.gLst,gCB,gCall0,gAug,addD_i,addD_s,addD_l,addD_t,subD_i,mulD_i,mulD_l,fdivD_i,modD_i,powD_i,ltD_i,ltD_s,leD_i,gtD_i,geD_i,isD_n,isnotD_n,isNonD_non,isNonD_bl,isNonD_int,isNonD_str,isNonD_lst,isNonD_tup,negD_i,iaddD_i,truD_non,truD_bl,truD_int,truD_str,truD_lst,truD_tup,someK_some,ixD_l,ixD_t,fAbs_i,fInt_i,fInt_b,fMin2_i,fLen_l,fLen_t,fLen_s,fList_l,fList_t,fTuple_l,fTuple_t,optBK_some,fIsi_non,fIsi_bl,fIsi_int,fIsi_str,fIsi_lst,fIsi_tup,List.getElem?_cons_zero,List.getElem?_cons_succ,List.set_cons_zero,List.set_cons_succ,DL.ggName,ggNil0,ggCons1,ggTup2,ggTup3,gFor,giSeq,gLc,gYes,wipeR,true_and,and_true,at_0,at_1,at_2,kit_int_int,kit_bool_int,kit_str_int,kit_non_int,kit_list_int,kit_tuple_int,kit_int_bool,kit_bool_bool,kit_str_bool,kit_non_bool,kit_list_bool,kit_tuple_bool,kit_int_str,kit_bool_str,kit_str_str,kit_non_str,kit_list_str,kit_tuple_str,kit_int_list,kit_bool_list,kit_str_list,kit_non_list,kit_list_list,kit_tuple_list,kit_int_tuple,kit_bool_tuple,kit_str_tuple,kit_non_tuple,kit_list_tuple,kit_tuple_tuple,eqD_i,neD_i,eqD_s,neD_s,eqD_f,neD_f,Nat.zero_add,Nat.reduceAdd,nc0,nc1,nc2,nc3,nc4,nc5,nc6,nc7,nc8,nc9,eq_self,decide_true,decide_false,Int.reduceEq,Int.reduceLT,Int.reduceLE,Int.reduceNeg,Bool.not_true,Bool.not_false,Bool.false_eq_true,if_true,if_false,↓reduceIte,false_and,and_false,List.all_cons,List.all_nil,List.any_cons,List.any_nil,id_eq,Bool.and_true,Bool.true_and,Bool.or_false,Bool.false_or,Bool.and_false,Bool.false_and,gCut,eqD_b,neD_b,giZip,reduceCtorEq,Bool.true_eq_false,Bool.false_eq_true,gRevL,gSl,goNone,goSome,slD_l,ne_eq,not_false_eq_true,not_true_eq_false,gBM,isTy_l,isTy_s,new_at,new_set,isTy_new,cellK_new,append_new,popAt_new,gFrz_eq,frzK_new,fLen_new,fTuple_new,ixD_new,slA_l,slA_t,slA_new,addTD_t,addCD_l,mulCD_l,isbD_b,isnotbD_b,mSplitC_s,gLstC,gTr,ggSub,lstK_l,lstK_r,addLD_eq] $[$loc]?)



abbrev Told := List (Str × Qp)
def pairD (x : Str × Qp) : D := .tup [.str x.1, fD x.2]
def partAt : List Rate → Int → Qp
  | [], _ => (0, 1)
  | r :: rs, u => match r.1 with
    | none => r.2
    | some up => if u < up then r.2 else partAt rs u
def PI (C : Addr) (M : List Cell) (r : Qp) : Cell := .ins C [("told", .rf (M.length + 1)), ("rest", fD r)]
def PT (T : Told) : Cell := .lst (T.map pairD)
section
variable {w : Wd} {k : KD} {M : List Cell} {n : Option Nat} {a b c : Cell} {xs : List D} {C : Addr} {fs : List (Str × D)} {d x y z : D} {j : Int}
theorem at20 : (M ++ [a, b])[M.length]? = some a := by simp
theorem at21 : (M ++ [a, b])[M.length + 1]? = some b := by
  rw [List.getElem?_append_right (by omega), show M.length + 1 - M.length = 1 by omega]
  rfl
theorem set20 : (M ++ [a, b]).set M.length c = M ++ [c, b] := by
  rw [List.set_append_right (h := Nat.le_refl _), Nat.sub_self]
  rfl
theorem set21 : (M ++ [a, b]).set (M.length + 1) c = M ++ [a, c] := by
  rw [List.set_append_right (h := by omega), show M.length + 1 - M.length = 1 by omega]
  rfl
theorem insK20 {f : List (Str × D) → Prop} : insK C M.length ⟨M ++ [.ins C fs, b], n⟩ f = f fs := by
  unfold insK
  simp only [at20, true_and]
theorem cellK21 {f : List D → Prop} : cellK (M.length + 1) ⟨M ++ [a, .lst xs], n⟩ f = f xs := by
  unfold cellK
  simp only [at21]
theorem isTy21 {T : String} : isTy T (.rf (M.length + 1)) ⟨M ++ [a, .lst xs], n⟩ = (T = "list") := by
  unfold isTy
  simp only [at21]
theorem append21 : mAppend (.rf (M.length + 1)) [d] ⟨M ++ [a, .lst xs], n⟩ k = (xs.length < sizeLine ∧ k .non ⟨M ++ [a, .lst (xs ++ [d])], n⟩) := by
  unfold mAppend
  simp only [cellK21, set21]
theorem extend21 {ys : List D} : mExtend (.rf (M.length + 1)) [.lst ys] ⟨M ++ [a, .lst xs], n⟩ k = (xs.length + ys.length ≤ sizeLine ∧ k .non ⟨M ++ [a, .lst (xs ++ ys)], n⟩) := by
  unfold mExtend
  simp only [cellK21, set21]
theorem look_told : List.lookup ("told" : Str) [(("told" : Str), x), ("rest", y)] = some x := by
  rw [List.lookup_cons, show (("told" : Str) == "told") = true by decide +kernel]
theorem look_told1 : List.lookup ("told" : Str) [(("told" : Str), x)] = some x := by
  rw [List.lookup_cons, show (("told" : Str) == "told") = true by decide +kernel]
theorem look_rest : List.lookup ("rest" : Str) [(("told" : Str), x), ("rest", y)] = some y := by
  rw [List.lookup_cons, show (("rest" : Str) == "told") = false by decide +kernel, List.lookup_cons, show (("rest" : Str) == "rest") = true by decide +kernel]
theorem look_give : List.lookup ("give" : Str) [(("told" : Str), x), ("rest", y)] = none := by
  rw [List.lookup_cons, show (("give" : Str) == "told") = false by decide +kernel, List.lookup_cons, show (("give" : Str) == "rest") = false by decide +kernel]
  rfl
theorem look_by : List.lookup ("by_lengths" : Str) [(("told" : Str), x), ("rest", y)] = none := by
  rw [List.lookup_cons, show (("by_lengths" : Str) == "told") = false by decide +kernel, List.lookup_cons, show (("by_lengths" : Str) == "rest") = false by decide +kernel]
  rfl
theorem look_pairs : List.lookup ("pairs" : Str) [(("told" : Str), x), ("rest", y)] = none := by
  rw [List.lookup_cons, show (("pairs" : Str) == "told") = false by decide +kernel, List.lookup_cons, show (("pairs" : Str) == "rest") = false by decide +kernel]
  rfl
theorem put_rest : putFD "rest" z [(("told" : Str), x), ("rest", y)] = [(("told" : Str), x), ("rest", z)] := by
  unfold putFD
  rw [if_neg (show ¬ (("told" : Str) = "rest") by decide +kernel)]
  unfold putFD
  rw [if_pos rfl]
theorem put_rest1 : putFD "rest" z [(("told" : Str), x)] = [(("told" : Str), x), ("rest", z)] := by
  unfold putFD
  rw [if_neg (show ¬ (("told" : Str) = "rest") by decide +kernel)]
  rfl
theorem put_told0 : putFD "told" z [] = [(("told" : Str), z)] := rfl
theorem row2_left {s : Str} {p : Qp} : ixD (rowD (.left s p)) (.int 2) w k = k (fD p) w := rfl
theorem row2_len {s : Str} {m : Int} : ixD (rowD (.length s m)) (.int 2) w k = k (.int m) w := rfl
theorem row1_of {s : Str} {p : Qp} : ixD (rowD (.of s p)) (.int 1) w k = k (.str s) w := rfl
theorem row1_st {s : Str} {p : List Rate} : ixD (rowD (.steps s p)) (.int 1) w k = k (.str s) w := rfl
theorem pair_tup {q : Str × Qp} {t : GGs} {ρ : Rho} {kr : Rho → Wd → Prop} : DL.ggTup 2 t (pairD q) ρ w kr = t [.str q.1, fD q.2] ρ w kr := by
  show (2 = 2 ∧ t [.str q.1, fD q.2] ρ w kr) = _
  simp
theorem left_tup {s : Str} {p : Qp} {t : GGs} {ρ : Rho} {kr : Rho → Wd → Prop} : DL.ggTup 3 t (rowD (.left s p)) ρ w kr = t [.str "left", .str s, fD p] ρ w kr := by
  show (3 = 3 ∧ t [.str "left", .str s, fD p] ρ w kr) = _
  simp
theorem len_tup {s : Str} {p : Int} {t : GGs} {ρ : Rho} {kr : Rho → Wd → Prop} : DL.ggTup 3 t (rowD (.length s p)) ρ w kr = t [.str "length", .str s, .int p] ρ w kr := by
  show (3 = 3 ∧ t [.str "length", .str s, .int p] ρ w kr) = _
  simp
end
def sp_part_at : GF := fun ds w _ k => ∃ (rs : List Rate) (u : Int), ds = [.tup (rs.map rateD), .int u] ∧ Rates rs ∧ k (fD (partAt rs u)) w
abbrev s_part_at : Stmt := topS 24
theorem sc_part_at : FnScope ["rates", "unit", "upto", "part"] ["rates", "unit"] (defScope s_part_at) := ⟨rfl, rfl, rfl, by decide +kernel, rfl, by decide +kernel, by decide +kernel⟩
def g_part_at : GS := (gSeq (gFor (giSeq (gVar 0)) (ggTup 2 (ggCons (ggName 2) (ggCons (ggName 3) ggNil))) (gIfS (gOr (gB (gBin isD (gVar 2) (gC .non))) (gB (gBin ltD (gVar 1) (gVar 2)))) (gRet (gVar 3)) gNext))
  (gRet (gC .non)))
theorem w_part_at {P : Program} {w : World} {K : PySem.W.Frag} {mg : Str → Option Value} {base : Heap} (T : DefAt K mg "part_at" s_part_at ["rates", "unit"]) (B : Blt mg) : FnAt P w K mg base CX0 1 "part_at" 2 (sem0 4 g_part_at) := by
  have nd := sc_part_at.nd
  exact T.fn0 sc_part_at (fun f cdv A outer s H E hr => (dss_cons (ds_for PassesOwn.never rfl (di_seq (de_var 0)) (dg_tup rfl (dgs_cons (dg_name (i := 2) nd rfl (by first | exact Or.inl rfl | exact Or.inr rfl)) (dgs_cons (dg_name (i := 3) nd rfl (by first | exact Or.inl rfl | exact Or.inr rfl)) dgs_nil))) (dss_one (ds_if (dt_w (dw_or (dt_is (de_var 2) de_non) (dw_or1 (dt_lt (de_var 1) (de_var 2))))) (dss_one (ds_ret (de_var 3))) dss_nil)))
  (dss_one (ds_ret de_non))))

theorem v_part_at : ∀ ds w kx k, sp_part_at ds w kx k → sem0 4 g_part_at ds w kx k := by
  rintro ds w kx k ⟨rs, u, rfl, hr, hk⟩
  have e : rho 4 [D.tup (rs.map rateD), D.int u] = [some (.tup (rs.map rateD)), some (.int u), none, none] := rfl
  simp! only [g_part_at, e]
  refine ⟨fun rem ρ w' => ∃ (ts : List Rate) (x y : Option D), w' = w ∧ rem = ts.map rateD ∧ ρ = [some (.tup (rs.map rateD)), some (.int u), x, y] ∧ (∃ q, (none, q) ∈ ts) ∧ partAt ts u = partAt rs u, ⟨rs, none, none, rfl, rfl, rfl, hr.2.2, rfl⟩, ?_, ?_⟩
  · rintro ρ w' ⟨ts, x, y, rfl, h3, rfl, ⟨q, hq⟩, h5⟩
    have : ts = [] := by simpa using h3.symm
    subst this
    cases hq
  · rintro z xs ρ w' ⟨ts, x, y, rfl, h3, rfl, ⟨q, hq⟩, h5⟩
    cases ts with
    | nil => cases h3
    | cons r ts =>
      rw [List.map_cons] at h3
      injection h3 with h3 h3'
      subst h3
      subst h3'
      refine ⟨trivial, ?_⟩
      obtain ⟨up, p⟩ := r
      cases up with
      | none =>
        simp! only [rate_tup, optD, ixD_f0, ixD_f1, ggTup_f, fIsi_f, fLen_f, eqD_ff, neD_ff]
        have : p = partAt rs u := h5
        rw [this]
        exact hk
      | some up =>
        simp! only [rate_tup, optD, ixD_f0, ixD_f1, ggTup_f, fIsi_f, fLen_f, eqD_ff, neD_ff]
        have h5 : (if u < up then p else partAt ts u) = partAt rs u := h5
        refine ite2 (fun h => ?_) (fun h => ?_)
        · rw [if_pos (by simpa using h)] at h5
          rw [h5]
          exact hk
        · rw [if_neg (by simpa using h)] at h5
          refine ⟨ts, _, _, rfl, rfl, ⟨q, ?_⟩, h5⟩
          rcases List.mem_cons.mp hq with hq | hq
          · cases hq
          · exact hq
theorem ok_part_at {P : Program} {w : World} {K : PySem.W.Frag} {mg : Str → Option Value} {base : Heap} (T : DefAt K mg "part_at" s_part_at ["rates", "unit"]) (B : Blt mg) : FnAt P w K mg base CX0 1 "part_at" 2 sp_part_at := (w_part_at T B ).imp v_part_at

theorem mul_norm {r : Qp} {t b : Int} (hr : Fr r) (hb : b ≠ 0) : mulQ r (norm t b) = norm (r.1 * t) (r.2 * b) := by
  have h1 := (fr_norm (t := t) hb).pos
  have h2 := hr.pos
  have e := norm_eq (t := t) hb
  refine norm_cross (Int.mul_ne_zero (by omega) (by omega)) (Int.mul_ne_zero (by omega) hb) ?_
  calc r.1 * (norm t b).1 * (r.2 * b) = r.1 * r.2 * ((norm t b).1 * b) := by ac_rfl
    _ = r.1 * r.2 * (t * (norm t b).2) := by rw [e]
    _ = r.1 * t * (r.2 * (norm t b).2) := by ac_rfl
theorem sub_norm {a b c d : Int} (hb : b ≠ 0) (hd : d ≠ 0) : subQ (norm a b) (norm c d) = norm (a * d - c * b) (d * b) := by
  have h1 := (fr_norm (t := a) hb).pos
  have h2 := (fr_norm (t := c) hd).pos
  have e1 := norm_eq (t := a) hb
  have e2 := norm_eq (t := c) hd
  refine norm_cross (Int.mul_ne_zero (by omega) (by omega)) (Int.mul_ne_zero hd hb) ?_
  rw [Int.sub_mul, Int.sub_mul]
  have x1 : (norm a b).1 * (norm c d).2 * (d * b) = a * d * ((norm c d).2 * (norm a b).2) := by
    calc (norm a b).1 * (norm c d).2 * (d * b) = (norm a b).1 * b * ((norm c d).2 * d) := by ac_rfl
      _ = a * (norm a b).2 * ((norm c d).2 * d) := by rw [e1]
      _ = a * d * ((norm c d).2 * (norm a b).2) := by ac_rfl
  have x2 : (norm c d).1 * (norm a b).2 * (d * b) = c * b * ((norm c d).2 * (norm a b).2) := by
    calc (norm c d).1 * (norm a b).2 * (d * b) = (norm c d).1 * d * ((norm a b).2 * b) := by ac_rfl
      _ = c * (norm c d).2 * ((norm a b).2 * b) := by rw [e2]
      _ = c * b * ((norm c d).2 * (norm a b).2) := by ac_rfl
  rw [x1, x2]
theorem sub_scale {a c b : Int} (hb : b ≠ 0) : subQ (norm a b) (norm c b) = norm (a - c) b := by
  rw [sub_norm hb hb]
  refine norm_cross (Int.mul_ne_zero hb hb) hb ?_
  rw [← Int.sub_mul]
  ac_rfl
theorem norm_scale {a b m : Int} (hb : b ≠ 0) (hm : m ≠ 0) : norm (a * m) (b * m) = norm a b := norm_cross (Int.mul_ne_zero hb hm) hb (by ac_rfl)
theorem left_step {r p : Qp} (hr : Fr r) (hp : Fr p) : subQ r (mulQ r p) = norm (r.1 * (p.2 - p.1)) (r.2 * p.2) := by
  have h1 := hr.pos
  have h2 := hp.pos
  have b : r.2 * p.2 ≠ 0 := Int.mul_ne_zero (by omega) (by omega)
  have e : r = norm (r.1 * p.2) (r.2 * p.2) := by
    rw [norm_scale (by omega) (by omega)]
    exact (norm_self hr).symm
  have e2 : subQ r (mulQ r p) = subQ (norm (r.1 * p.2) (r.2 * p.2)) (norm (r.1 * p.1) (r.2 * p.2)) := by
    rw [← e]
    rfl
  rw [e2, sub_scale b, Int.mul_sub]
def sp_Parting_give (C : Addr) : GF := fun ds w _ k => ∃ (M : List Cell) (nn : Option Nat) (T : Told) (r : Qp) (s : Str) (p : Qp), ds = [.rf M.length, .str s, fD p] ∧ w = ⟨M ++ [PI C M r, PT T], nn⟩ ∧ (Fr p ∧ Fr r ∧ Lt2 4400 p ∧ Lt2 4400 r ∧ T.length ≤ 1000) ∧ k .non ⟨M ++ [PI C M (subQ r p), PT (T ++ [(s, p)])], nn⟩
abbrev s_Parting_give : Stmt := inClass (topS 25) 1
theorem sc_Parting_give : FnScope ["self", "name", "part"] ["self", "name", "part"] (defScope s_Parting_give) := ⟨rfl, rfl, rfl, by decide +kernel, rfl, by decide +kernel, by decide +kernel⟩
def g_Parting_give (C_Parting : Addr) : GS := (gSeq (gDrop (gBM "list" mAppend (gFld C_Parting (gVar 0) "told") (gaCons (gTup (gaCons (gVar 1) (gaCons (gVar 2) gaNil))) gaNil)))
  (gSetF C_Parting (gVar 0) (gCall0 2 sp_taken_from (gaCons (gVar 2) (gaCons (gFld C_Parting (gVar 0) "rest") gaNil))) "rest"))
theorem w_Parting_give {P : Program} {w : World} {K : PySem.W.Frag} {mg : Str → Option Value} {base : Heap} {C_Parting : Addr} (CL_Parting : ClsAt K mg "Parting" C_Parting ["told", "rest"]) (F_taken_from : FnAt P w K mg base CX0 3 "taken_from" 2 sp_taken_from) (T : MethAt K C_Parting "give" "Parting.give" s_Parting_give ["self", "name", "part"]) (B : Blt mg) : MtAt P w K mg base CX0 4 C_Parting "give" 3 (sem0 3 (g_Parting_give C_Parting)) := by
  have nd := sc_Parting_give.nd
  exact T.fn0 sc_Parting_give (fun f cdv A outer s H E hr => (dss_cons (ds_expr (de_bm PySem.F.plainAttrs_list PySem.F.slot_list_append (by rfl) mt_append ok_append (de_fld CL_Parting (by decide +kernel) (de_var 0)) (da_cons (de_tup (da_cons (de_var 1) (da_cons (de_var 2) da_nil))) da_nil) (by rfl) (by rfl) (by rfl) (by rfl) (by rfl)))
  (dss_one (ds_setF CL_Parting (by decide +kernel) (de_var 0) (de_call0 F_taken_from hr (by rfl) (da_cons (de_var 2) (da_cons (de_fld CL_Parting (by decide +kernel) (de_var 0)) da_nil))) (by rfl)))))

theorem v_Parting_give (C : Addr) : ∀ ds w kx k, sp_Parting_give C ds w kx k → sem0 3 (g_Parting_give C) ds w kx k := by
  rintro ds w kx k ⟨M, nn, T, r, s, p, rfl, rfl, ⟨hp, hr, lp, lr, hT⟩, hk⟩
  have e : rho 3 [D.rf M.length, D.str s, fD p] = [some (.rf M.length), some (.str s), some (fD p)] := rfl
  simp! only [g_Parting_give, e, gFld, gSetF, rfK_r, PI, PT, insK20, look_told, look_rest, isTy21, sp_taken_from]
  simp! only [append21, insK20, look_rest]
  refine ⟨by decide, lt_sl (by rw [List.length_map]; exact Nat.le_trans hT (by decide)), p, r, rfl, ⟨hp, hr, lp, lr⟩, ?_⟩
  simp! only [insK20, put_rest, set20]
  refine ⟨by decide, ?_⟩
  rw [PI, PT, List.map_append] at hk
  exact hk
theorem ok_Parting_give {P : Program} {w : World} {K : PySem.W.Frag} {mg : Str → Option Value} {base : Heap} {C_Parting : Addr} (CL_Parting : ClsAt K mg "Parting" C_Parting ["told", "rest"]) (F_taken_from : FnAt P w K mg base CX0 3 "taken_from" 2 sp_taken_from) (T : MethAt K C_Parting "give" "Parting.give" s_Parting_give ["self", "name", "part"]) (B : Blt mg) : MtAt P w K mg base CX0 4 C_Parting "give" 3 (sp_Parting_give C_Parting) := (w_Parting_give CL_Parting F_taken_from T B).imp (v_Parting_give C_Parting)


end LW

namespace LW
open PySem PySem.Spec PyProof.Rows L2 RZ DL
local macro_rules | `(tactic| simp! only [$xs,*] $[$loc]?) => `(tactic| simp only [$xs,*, sem0,List.map_cons,List.map_nil,List.length_cons,List.length_nil,gSeq,gNext,gRet,gRetN,gIfS,gSet,gPar,gAsg,gDrop,gVar,gC,gBin,gUn,gB,gTru,gAnd,gOr,gNot,gAndV,gOrV,gNotV,gIf,gChain,gaNil,gaCons,DL.gTup,DL.gLst,gCB,gCall0,gAug,addD_i,addD_s,addD_l,addD_t,subD_i,mulD_i,mulD_l,fdivD_i,modD_i,powD_i,ltD_i,ltD_s,leD_i,gtD_i,geD_i,isD_n,isnotD_n,isNonD_non,isNonD_bl,isNonD_int,isNonD_str,isNonD_lst,isNonD_tup,negD_i,iaddD_i,truD_non,truD_bl,truD_int,truD_str,truD_lst,truD_tup,someK_some,ixD_l,ixD_t,fAbs_i,fInt_i,fInt_b,fMin2_i,fLen_l,fLen_t,fLen_s,fList_l,fList_t,fTuple_l,fTuple_t,optBK_some,fIsi_non,fIsi_bl,fIsi_int,fIsi_str,fIsi_lst,fIsi_tup,List.getElem?_cons_zero,List.getElem?_cons_succ,List.set_cons_zero,List.set_cons_succ,DL.ggName,ggNil0,ggCons1,ggTup2,ggTup3,gFor,giSeq,gLc,gYes,wipeR,true_and,and_true,at_0,at_1,at_2,kit_int_int,kit_bool_int,kit_str_int,kit_non_int,kit_list_int,kit_tuple_int,kit_int_bool,kit_bool_bool,kit_str_bool,kit_non_bool,kit_list_bool,kit_tuple_bool,kit_int_str,kit_bool_str,kit_str_str,kit_non_str,kit_list_str,kit_tuple_str,kit_int_list,kit_bool_list,kit_str_list,kit_non_list,kit_list_list,kit_tuple_list,kit_int_tuple,kit_bool_tuple,kit_str_tuple,kit_non_tuple,kit_list_tuple,kit_tuple_tuple,eqD_i,neD_i,eqD_s,neD_s,eqD_f,neD_f,Nat.zero_add,Nat.reduceAdd,nc0,nc1,nc2,nc3,nc4,nc5,nc6,nc7,nc8,nc9,eq_self,decide_true,decide_false,Int.reduceEq,Int.reduceLT,Int.reduceLE,Int.reduceNeg,Bool.not_true,Bool.not_false,Bool.false_eq_true,if_true,if_false,↓reduceIte,false_and,and_false,List.all_cons,List.all_nil,List.any_cons,List.any_nil,id_eq,Bool.and_true,Bool.true_and,Bool.or_false,Bool.false_or,Bool.and_false,Bool.false_and,gCut,eqD_b,neD_b,giZip,reduceCtorEq,Bool.true_eq_false,Bool.false_eq_true,gRevL,gSl,goNone,goSome,slD_l,ne_eq,not_false_eq_true,not_true_eq_false,gBM,isTy_l,isTy_s,new_at,new_set,isTy_new,cellK_new,append_new,popAt_new,gFrz_eq,frzK_new,fLen_new,fTuple_new,ixD_new,slA_l,slA_t,slA_new,addTD_t,addCD_l,mulCD_l,isbD_b,isnotbD_b,mSplitC_s,gLstC,gTr,ggSub,lstK_l,lstK_r,addLD_eq] $[$loc]?)



def lenR : Row → Int
  | .length _ m => m
  | _ => 0
def nameR : Row → Str
  | .of n _ => n
  | .steps n _ => n
  | .left n _ => n
  | .length n _ => n
def totR (rs : List Row) : Int := (rs.map lenR).sum
def lensE (r : Qp) (e : Int) (rs : List Row) : Told := rs.map fun x => (nameR x, norm (r.1 * lenR x) (r.2 * e))
def restLen (r : Qp) : List Row → Qp
  | [] => r
  | _ :: _ => (0, 1)
def IsLen (x : Row) : Prop := ∃ s l, x = .length s l ∧ 0 < l ∧ l ≤ 1000
theorem tot_bd : ∀ {rs : List Row}, (∀ x ∈ rs, IsLen x) → (rs.length : Int) ≤ totR rs ∧ totR rs ≤ 1000 * rs.length
  | [], _ => by simp [totR]
  | x :: rs, h => by
    obtain ⟨s, l, rfl, h1, h2⟩ := h x List.mem_cons_self
    obtain ⟨h3, h4⟩ := tot_bd fun y hy => h y (List.mem_cons_of_mem _ hy)
    have e : totR (Row.length s l :: rs) = l + totR rs := by simp [totR, lenR]
    rw [e, List.length_cons]
    omega
theorem tot_app (xs ys : List Row) : totR (xs ++ ys) = totR xs + totR ys := by simp [totR]
def sp_Parting_by_lengths (C : Addr) : GF := fun ds w _ k => ∃ (M : List Cell) (nn : Option Nat) (T : Told) (r : Qp) (rs : List Row), ds = [.rf M.length, .lst (rs.map rowD)] ∧ w = ⟨M ++ [PI C M r, PT T], nn⟩ ∧ (Fr r ∧ Lt2 330 r ∧ T.length + rs.length ≤ 900 ∧ rs.length ≤ 8 ∧ ∀ x ∈ rs, IsLen x) ∧ k .non ⟨M ++ [PI C M (restLen r rs), PT (T ++ lensE r (totR rs) rs)], nn⟩
abbrev s_Parting_by_lengths : Stmt := inClass (topS 25) 2
theorem sc_Parting_by_lengths : FnScope ["self", "rows", "every", "rest", "kind", "name", "length", "row"] ["self", "rows"] (defScope s_Parting_by_lengths) := ⟨rfl, rfl, rfl, by decide +kernel, rfl, by decide +kernel, by decide +kernel⟩
def g_Parting_by_lengths (C_Parting : Addr) : GS := (gSeq (gSet 2 (gCB fSum (gaCons (gLc (giSeq (gVar 1)) (ggName 7) gYes (gBin ixD (gVar 7) (gC (.int 2))) [7]) gaNil)))
  (gSeq (gSet 3 (gFld C_Parting (gVar 0) "rest"))
  (gFor (giSeq (gVar 1)) (ggTup 3 (ggCons (ggName 4) (ggCons (ggName 5) (ggCons (ggName 6) ggNil)))) (gDrop (gMeth C_Parting 3 (sp_Parting_give C_Parting) "give" (gVar 0) (gaCons (gVar 5) (gaCons (gCall0 2 sp_product_of (gaCons (gVar 3) (gaCons (gCall0 2 sp_fraction_of (gaCons (gVar 6) (gaCons (gVar 2) gaNil))) gaNil))) gaNil)))))))
theorem w_Parting_by_lengths {P : Program} {w : World} {K : PySem.W.Frag} {mg : Str → Option Value} {base : Heap} {C_Parting : Addr} (CL_Parting : ClsAt K mg "Parting" C_Parting ["told", "rest"]) (F_Parting_give : MtAt P w K mg base CX0 4 C_Parting "give" 3 (sp_Parting_give C_Parting)) (F_product_of : FnAt P w K mg base CX0 3 "product_of" 2 sp_product_of) (F_fraction_of : FnAt P w K mg base CX0 2 "fraction_of" 2 sp_fraction_of) (T : MethAt K C_Parting "by_lengths" "Parting.by_lengths" s_Parting_by_lengths ["self", "rows"]) (B : Blt mg) : MtAt P w K mg base CX0 5 C_Parting "by_lengths" 2 (sem0 8 (g_Parting_by_lengths C_Parting)) := by
  have nd := sc_Parting_by_lengths.nd
  exact T.fn0 sc_Parting_by_lengths (fun f cdv A outer s H E hr => (dss_cons (ds_set (i := 2) nd rfl (by first | exact Or.inl rfl | exact Or.inr rfl) (de_sum B rfl (by rfl) (da_cons (de_lc (own := [("row", 7)]) (us := [7]) rfl nd (di_seq (de_var 1)) (blkOk_by (N := ["self", "rows", "every", "rest", "kind", "name", "length", "row"]) (sc := defScope s_Parting_by_lengths) (by decide +kernel)) (by decide) (fun _ _ _ _ _ => (dg_name (i := 7) nd rfl (by first | exact Or.inl rfl | exact Or.inr rfl))) (fun _ _ _ _ _ => dts_nil) (fun _ _ _ _ _ => (de_ix (de_var 7) de_int))) da_nil)))
  (dss_cons (ds_set (i := 3) nd rfl (by first | exact Or.inl rfl | exact Or.inr rfl) (de_fld CL_Parting (by decide +kernel) (de_var 0)))
  (dss_one (ds_for PassesOwn.never rfl (di_seq (de_var 1)) (dg_tup rfl (dgs_cons (dg_name (i := 4) nd rfl (by first | exact Or.inl rfl | exact Or.inr rfl)) (dgs_cons (dg_name (i := 5) nd rfl (by first | exact Or.inl rfl | exact Or.inr rfl)) (dgs_cons (dg_name (i := 6) nd rfl (by first | exact Or.inl rfl | exact Or.inr rfl)) dgs_nil)))) (dss_one (ds_expr (de_meth CL_Parting F_Parting_give hr (de_var 0) (da_cons (de_var 5) (da_cons (de_call0 F_product_of hr (by rfl) (da_cons (de_var 3) (da_cons (de_call0 F_fraction_of hr (by rfl) (da_cons (de_var 6) (da_cons (de_var 2) da_nil))) da_nil))) da_nil)) (by decide) (by rfl) (by rfl) (by rfl)))))))))

theorem v_Parting_by_lengths (C : Addr) : ∀ ds w kx k, sp_Parting_by_lengths C ds w kx k → sem0 8 (g_Parting_by_lengths C) ds w kx k := by
  rintro ds w kx k ⟨M, nn, T, r, rs, rfl, rfl, ⟨hr, lr, hT, hl, hx⟩, hk⟩
  have e : rho 8 [D.rf M.length, D.lst (rs.map rowD)] = [some (.rf M.length), some (.lst (rs.map rowD)), none, none, none, none, none, none] := rfl
  simp! only [g_Parting_by_lengths, e, gFld, gMeth, rfK_r, sp_product_of, sp_fraction_of]
  refine lc_ty rowD (fun x => .int (lenR x)) rs trivial (by omega) (fun a ha k' hk' => ?_) ?_
  · obtain ⟨s, l, rfl, _, _⟩ := hx a ha
    simp! only [row2_len]
    exact hk'
  have em : (rs.map fun x => D.int (lenR x)) = (rs.map lenR).map D.int := by rw [List.map_map]; rfl
  rw [em, fSum_m]
  simp! only [rfK_r, PI, insK20, look_rest]
  obtain ⟨b1, b2⟩ := tot_bd hx
  have h2p := hr.pos
  show ∃ P : List D → Rho → Wd → Prop, P (rs.map rowD) [some (.rf M.length), some (.lst (rs.map rowD)), some (.int (totR rs)), some (fD r), none, none, none, none] ⟨M ++ [PI C M r, PT T], nn⟩ ∧ _
  refine ⟨fun rem ρ w' => ∃ (dn ts : List Row) (q : Qp) (x4 x5 x6 : Option D), rs = dn ++ ts ∧ rem = ts.map rowD ∧ ρ = [some (.rf M.length), some (.lst (rs.map rowD)), some (.int (totR rs)), some (fD r), x4, x5, x6, none] ∧
    w' = ⟨M ++ [PI C M q, PT (T ++ lensE r (totR rs) dn)], nn⟩ ∧ (rs = [] → q = r) ∧ (rs ≠ [] → q = norm (r.1 * (totR rs - totR dn)) (r.2 * totR rs)), ⟨[], rs, r, none, none, none, rfl, rfl, rfl, by rw [show lensE r (totR rs) [] = [] from rfl, List.append_nil], fun _ => rfl, fun h => ?_⟩, ?_, ?_⟩
  · have hl2 : 0 < rs.length := List.length_pos_iff.mpr h
    rw [show totR [] = 0 from rfl, Int.sub_zero, norm_scale (by omega) (by omega), norm_self hr]
  · rintro ρ w' ⟨dn, ts, q, x4, x5, x6, h1, h2, rfl, rfl, h3, h4⟩
    have : ts = [] := by simpa using h2.symm
    subst this
    rw [List.append_nil] at h1
    subst h1
    refine ⟨trivial, ?_⟩
    have eq : q = restLen r rs := by
      cases rs with
      | nil => exact h3 rfl
      | cons a as =>
        rw [h4 (by simp), Int.sub_self, Int.mul_zero]
        have hl2 : 0 < (a :: as).length := by simp
        show norm 0 (r.2 * totR (a :: as)) = ((0, 1) : Qp)
        exact norm_of (Int.mul_ne_zero (by omega) (by omega)) ⟨by decide, by decide⟩ (by show (0 : Int) * _ = 0 * 1; omega)
    rw [eq]
    exact hk
  · rintro z xs ρ w' ⟨dn, ts, q, x4, x5, x6, h1, h2, rfl, rfl, h3, h4⟩
    cases ts with
    | nil => cases h2
    | cons a ts =>
      rw [List.map_cons] at h2
      injection h2 with h2 h2'
      subst h2
      subst h2'
      have hne : rs ≠ [] := by rw [h1]; simp
      have hl2 : 0 < rs.length := List.length_pos_iff.mpr hne
      have hq := h4 hne
      obtain ⟨s, l, rfl, hl1, hl3⟩ := hx a (by rw [h1]; simp)
      have hxd : ∀ x ∈ dn, IsLen x := fun x hx' => hx x (by rw [h1]; exact List.mem_append_left _ hx')
      have hxt : ∀ x ∈ ts, IsLen x := fun x hx' => hx x (by rw [h1]; simp [hx'])
      obtain ⟨c1, c2⟩ := tot_bd hxd
      obtain ⟨c3, c4⟩ := tot_bd hxt
      have etot : totR rs = totR dn + (l + totR ts) := by
        rw [h1, tot_app]
        simp [totR, lenR]
      have e0 : totR rs ≠ 0 := by omega
      have b0 : r.2 * totR rs ≠ 0 := Int.mul_ne_zero (by omega) e0
      have ltot : (totR rs).natAbs < 2 ^ 13 := Nat.lt_of_le_of_lt (show (totR rs).natAbs ≤ 8000 by omega) (by decide)
      have lb : (r.2 * totR rs).natAbs < 2 ^ 343 := wide_lt lr.2 ltot
      have lp : Lt2 343 (norm (r.1 * l) (r.2 * totR rs)) := norm_lt (a := 343) b0 (wide_lt (b := 13) lr.1 (Nat.lt_of_le_of_lt (show l.natAbs ≤ 8000 by omega) (by decide))) lb
      have lq : Lt2 343 q := by
        rw [hq]
        exact norm_lt (a := 343) b0 (wide_lt (b := 13) lr.1 (Nat.lt_of_le_of_lt (show (totR rs - totR dn).natAbs ≤ 8000 by omega) (by decide))) lb
      refine ⟨trivial, ?_⟩
      simp! only [len_tup, gMeth, gFld, sp_product_of, sp_fraction_of, rfK_r, PI, insK20, look_give]
      refine ⟨l, totR rs, rfl, ⟨e0, nat_mono ltot (by decide)⟩, r, norm l (totR rs), rfl, ⟨by omega, by have := (fr_norm (t := l) e0).pos; omega, lr.mono (by decide), (norm_lt (a := 13) e0 (Nat.lt_of_le_of_lt (show l.natAbs ≤ 8000 by omega) (by decide)) ltot).mono (by decide)⟩, ?_⟩
      rw [mul_norm hr e0]
      refine ⟨M, nn, T ++ lensE r (totR rs) dn, q, s, _, rfl, rfl, ⟨fr_norm b0, by rw [hq]; exact fr_norm b0, lp.mono (by decide), lq.mono (by decide), ?_⟩, ?_⟩
      · rw [List.length_append, lensE, List.length_map]
        have : dn.length ≤ rs.length := by rw [h1]; simp
        omega
      · refine ⟨dn ++ [.length s l], ts, subQ q (norm (r.1 * l) (r.2 * totR rs)), _, _, _, by rw [h1]; simp, rfl, rfl, ?_, fun z => absurd z hne, fun _ => ?_⟩
        · show (⟨M ++ [PI C M _, PT _], nn⟩ : Wd) = ⟨M ++ [PI C M _, PT _], nn⟩
          rw [List.append_assoc, show lensE r (totR rs) (dn ++ [Row.length s l]) = lensE r (totR rs) dn ++ [(s, norm (r.1 * l) (r.2 * totR rs))] by simp [lensE, nameR, lenR]]
        · rw [hq, sub_scale b0, ← Int.mul_sub, tot_app]
          congr 2
          simp [totR, lenR]
          omega
theorem ok_Parting_by_lengths {P : Program} {w : World} {K : PySem.W.Frag} {mg : Str → Option Value} {base : Heap} {C_Parting : Addr} (CL_Parting : ClsAt K mg "Parting" C_Parting ["told", "rest"]) (F_Parting_give : MtAt P w K mg base CX0 4 C_Parting "give" 3 (sp_Parting_give C_Parting)) (F_product_of : FnAt P w K mg base CX0 3 "product_of" 2 sp_product_of) (F_fraction_of : FnAt P w K mg base CX0 2 "fraction_of" 2 sp_fraction_of) (T : MethAt K C_Parting "by_lengths" "Parting.by_lengths" s_Parting_by_lengths ["self", "rows"]) (B : Blt mg) : MtAt P w K mg base CX0 5 C_Parting "by_lengths" 2 (sp_Parting_by_lengths C_Parting) := (w_Parting_by_lengths CL_Parting F_Parting_give F_product_of F_fraction_of T B).imp (v_Parting_by_lengths C_Parting)


end LW

namespace LW
open PySem PySem.Spec PyProof.Rows L2 RZ DL
local macro_rules | `(tactic| simp! only [$xs,*] $[$loc]?) => `(tactic| simp only [$xs,*, sem0,List.map_cons,List.map_nil,List.length_cons,List.length_nil,gSeq,gNext,gRet,gRetN,gIfS,gSet,gPar,gAsg,gDrop,gVar,gC,gBin,gUn,gB,gTru,gAnd,gOr,gNot,gAndV,gOrV,gNotV,gIf,gChain,gaNil,gaCons,DL.gTup,DL.gLst,gCB,gCall0,gAug,addD_i,addD_s,addD_l,addD_t,subD_i,mulD_i,mulD_l,fdivD_i,modD_i,powD_i,ltD_i,ltD_s,leD_i,gtD_i,geD_i,isD_n,isnotD_n,isNonD_non,isNonD_bl,isNonD_int,isNonD_str,isNonD_lst,isNonD_tup,negD_i,iaddD_i,truD_non,truD_bl,truD_int,truD_str,truD_lst,truD_tup,someK_some,ixD_l,ixD_t,fAbs_i,fInt_i,fInt_b,fMin2_i,fLen_l,fLen_t,fLen_s,fList_l,fList_t,fTuple_l,fTuple_t,optBK_some,fIsi_non,fIsi_bl,fIsi_int,fIsi_str,fIsi_lst,fIsi_tup,List.getElem?_cons_zero,List.getElem?_cons_succ,List.set_cons_zero,List.set_cons_succ,DL.ggName,ggNil0,ggCons1,ggTup2,ggTup3,gFor,giSeq,gLc,gYes,wipeR,true_and,and_true,at_0,at_1,at_2,kit_int_int,kit_bool_int,kit_str_int,kit_non_int,kit_list_int,kit_tuple_int,kit_int_bool,kit_bool_bool,kit_str_bool,kit_non_bool,kit_list_bool,kit_tuple_bool,kit_int_str,kit_bool_str,kit_str_str,kit_non_str,kit_list_str,kit_tuple_str,kit_int_list,kit_bool_list,kit_str_list,kit_non_list,kit_list_list,kit_tuple_list,kit_int_tuple,kit_bool_tuple,kit_str_tuple,kit_non_tuple,kit_list_tuple,kit_tuple_tuple,eqD_i,neD_i,eqD_s,neD_s,eqD_f,neD_f,Nat.zero_add,Nat.reduceAdd,nc0,nc1,nc2,nc3,nc4,nc5,nc6,nc7,nc8,nc9,eq_self,decide_true,decide_false,Int.reduceEq,Int.reduceLT,Int.reduceLE,Int.reduceNeg,Bool.not_true,Bool.not_false,Bool.false_eq_true,if_true,if_false,↓reduceIte,false_and,and_false,List.all_cons,List.all_nil,List.any_cons,List.any_nil,id_eq,Bool.and_true,Bool.true_and,Bool.or_false,Bool.false_or,Bool.and_false,Bool.false_and,gCut,eqD_b,neD_b,giZip,reduceCtorEq,Bool.true_eq_false,Bool.false_eq_true,gRevL,gSl,goNone,goSome,slD_l,ne_eq,not_false_eq_true,not_true_eq_false,gBM,isTy_l,isTy_s,new_at,new_set,isTy_new,cellK_new,append_new,popAt_new,gFrz_eq,frzK_new,fLen_new,fTuple_new,ixD_new,slA_l,slA_t,slA_new,addTD_t,addCD_l,mulCD_l,isbD_b,isnotbD_b,mSplitC_s,gLstC,gTr,ggSub,lstK_l,lstK_r,addLD_eq] $[$loc]?)



def leftsP : List Row → Qp → Told × Qp
  | [], r => ([], r)
  | .left n p :: rs, r => ((n, mulQ r p) :: (leftsP rs (subQ r (mulQ r p))).1, (leftsP rs (subQ r (mulQ r p))).2)
  | _ :: rs, r => leftsP rs r
def ofN : Row → Option (Str × Qp)
  | .of n p => some (n, p)
  | _ => none
def stN (u : Int) : Row → Option (Str × Qp)
  | .steps n qs => some (n, partAt qs u)
  | _ => none
def told0 (rs : List Row) (u : Int) : Told := rs.filterMap ofN ++ rs.filterMap (stN u)
def rest0 (rs : List Row) (u : Int) : Qp := subQ (1, 1) (sumQ ((told0 rs u).map Prod.snd))
def lenRows (rs : List Row) : List Row := rs.filter fun r => decide (kindS r = "length")
def tellP (rs : List Row) (u : Int) : Told := told0 rs u ++ (leftsP rs (rest0 rs u)).1 ++ lensE (leftsP rs (rest0 rs u)).2 (totR (lenRows rs)) (lenRows rs)
def restP (rs : List Row) (u : Int) : Qp := restLen (leftsP rs (rest0 rs u)).2 (lenRows rs)
theorem partAt_ok {u : Int} : ∀ {rs : List Rate}, (∀ r ∈ rs, Part r.2) → Pt0 (partAt rs u)
  | [], _ => pt00
  | r :: rs, h => by
    obtain ⟨up, p⟩ := r
    have hp := (h _ List.mem_cons_self).pt0
    cases up with
    | none => exact hp
    | some up =>
      show Pt0 (if u < up then p else partAt rs u)
      split
      · exact hp
      · exact partAt_ok fun x hx => h x (List.mem_cons_of_mem _ hx)
theorem told0_ok {rs : List Row} {u : Int} (h : ∀ r ∈ rs, RowOk r) : FrB 12 ((told0 rs u).map Prod.snd) := fun p hp => by
  obtain ⟨x, hx, rfl⟩ := List.mem_map.mp hp
  rcases List.mem_append.mp hx with hx | hx
  · obtain ⟨r, hr, e⟩ := List.mem_filterMap.mp hx
    have := h r hr
    cases r with
    | of n q =>
      cases e
      exact ⟨this.fr, this.lt⟩
    | _ => cases e
  · obtain ⟨r, hr, e⟩ := List.mem_filterMap.mp hx
    have := h r hr
    cases r with
    | steps n q =>
      cases e
      have := partAt_ok (u := u) this.2.1
      exact ⟨this.fr, this.lt⟩
    | _ => cases e
theorem told0_len (rs : List Row) (u : Int) : (told0 rs u).length ≤ 2 * rs.length := by
  unfold told0
  rw [List.length_append]
  have h1 := List.length_filterMap_le ofN rs
  have h2 := List.length_filterMap_le (stN u) rs
  omega
theorem rest0_ok {rs : List Row} {u : Int} (h : ∀ r ∈ rs, RowOk r) (hl : rs.length ≤ 8) : Fr (rest0 rs u) ∧ Lt2 211 (rest0 rs u) := by
  have hF := told0_ok (u := u) h
  have hl2 := told0_len rs u
  have fs := fr_sum fun q hq => (hF q hq).1
  have ls := sum_lt rfl hF
  have ln : (12 + 1) * ((told0 rs u).map Prod.snd).length + 1 ≤ 209 := by
    rw [List.length_map]
    have : 13 * (told0 rs u).length ≤ 13 * 16 := Nat.mul_le_mul_left _ (by omega)
    omega
  have l2 := ls.mono ln
  have n0 : (sumQ ((told0 rs u).map Prod.snd)).2 * (1 : Int) ≠ 0 := by have := fs.pos; omega
  have l1 : Lt2 1 ((1, 1) : Qp) := ⟨by decide, by decide⟩
  have b1 : ((1 : Int) * (sumQ ((told0 rs u).map Prod.snd)).2).natAbs < 2 ^ 210 := by
    have := wide_lt l1.1 l2.2
    exact nat_mono this (by decide)
  have b2 := wide_lt l2.1 l1.2
  refine ⟨fr_norm n0, norm_lt n0 (sub_lt b1 b2) (nat_mono (wide_lt l2.2 l1.2) (by decide))⟩
theorem left_ok {r p : Qp} {a : Nat} (hr : Fr r) (hp : Part p) (lr : Lt2 a r) : Fr (subQ r (mulQ r p)) ∧ Lt2 (a + 13) (subQ r (mulQ r p)) ∧ Fr (mulQ r p) ∧ Lt2 (a + 13) (mulQ r p) := by
  have b : r.2 * p.2 ≠ 0 := Int.mul_ne_zero (by have := hr.pos; omega) (by have := hp.fr.pos; omega)
  have lb : (r.2 * p.2).natAbs < 2 ^ (a + 13) := nat_mono (wide_lt lr.2 hp.lt.2) (by omega)
  have ld : (p.2 - p.1).natAbs < 2 ^ 13 := sub_lt hp.lt.2 hp.lt.1
  rw [left_step hr hp.fr]
  exact ⟨fr_norm b, norm_lt b (wide_lt lr.1 ld) lb, fr_norm b, norm_lt b (nat_mono (wide_lt lr.1 hp.lt.1) (by omega)) lb⟩
theorem lefts_ok {m : Nat} : ∀ {rs : List Row} {r : Qp} {a : Nat}, (∀ x ∈ rs, RowOk x) → Fr r → Lt2 a r → rs.length ≤ m → Fr (leftsP rs r).2 ∧ Lt2 (a + 13 * m) (leftsP rs r).2 ∧ ∀ x ∈ (leftsP rs r).1, Fr x.2 ∧ Lt2 (a + 13 * m) x.2 := by
  induction m with
  | zero =>
    intro rs r a h hr lr hl
    have : rs = [] := List.length_eq_zero_iff.mp (by omega)
    subst this
    exact ⟨hr, lr, fun _ h => nomatch h⟩
  | succ m ih =>
    intro rs r a h hr lr hl
    cases rs with
    | nil => exact ⟨hr, lr.mono (by omega), fun _ h => nomatch h⟩
    | cons x rs =>
      have hx := h x List.mem_cons_self
      have ht : ∀ y ∈ rs, RowOk y := fun y hy => h y (List.mem_cons_of_mem _ hy)
      have hl' : rs.length ≤ m := by rw [List.length_cons] at hl; omega
      have other : Fr (leftsP rs r).2 ∧ Lt2 (a + 13 * (m + 1)) (leftsP rs r).2 ∧ ∀ x ∈ (leftsP rs r).1, Fr x.2 ∧ Lt2 (a + 13 * (m + 1)) x.2 := by
        obtain ⟨h1, h2, h3⟩ := ih ht hr lr hl'
        exact ⟨h1, h2.mono (by omega), fun x hx => ⟨(h3 x hx).1, (h3 x hx).2.mono (by omega)⟩⟩
      cases x with
      | left n p =>
        obtain ⟨f1, l1, f2, l2⟩ := left_ok hr hx lr
        obtain ⟨h1, h2, h3⟩ := ih (r := subQ r (mulQ r p)) (a := a + 13) ht f1 l1 hl'
        refine ⟨h1, h2.mono (by omega), fun y hy => ?_⟩
        rcases List.mem_cons.mp hy with rfl | hy
        · exact ⟨f2, l2.mono (by omega)⟩
        · exact ⟨(h3 y hy).1, (h3 y hy).2.mono (by omega)⟩
      | _ => exact other
theorem lefts_flt : ∀ (rs : List Row) (r : Qp), leftsP (rs.filter fun r => decide (kindS r = "left")) r = leftsP rs r
  | [], r => rfl
  | .left n p :: rs, r => by
    rw [List.filter_cons, if_pos (by show decide (("left" : Str) = "left") = true; decide +kernel)]
    show ((n, mulQ r p) :: _, _) = ((n, mulQ r p) :: _, _)
    rw [lefts_flt rs]
  | .of n p :: rs, r => by
    rw [List.filter_cons, if_neg (by show ¬ decide (("of" : Str) = "left") = true; decide +kernel)]
    exact lefts_flt rs r
  | .steps n p :: rs, r => by
    rw [List.filter_cons, if_neg (by show ¬ decide (("steps" : Str) = "left") = true; decide +kernel)]
    exact lefts_flt rs r
  | .length n p :: rs, r => by
    rw [List.filter_cons, if_neg (by show ¬ decide (("length" : Str) = "left") = true; decide +kernel)]
    exact lefts_flt rs r
theorem kind_left {r : Row} (h : kindS r = "left") : ∃ n p, r = .left n p := by
  cases r with
  | of n p => exact absurd (show ("of" : Str) = "left" from h) (by decide +kernel)
  | steps n p => exact absurd (show ("steps" : Str) = "left" from h) (by decide +kernel)
  | left n p => exact ⟨n, p, rfl⟩
  | length n p => exact absurd (show ("length" : Str) = "left" from h) (by decide +kernel)
theorem kind_len {r : Row} (h : kindS r = "length") : ∃ n p, r = .length n p := by
  cases r with
  | of n p => exact absurd (show ("of" : Str) = "length" from h) (by decide +kernel)
  | steps n p => exact absurd (show ("steps" : Str) = "length" from h) (by decide +kernel)
  | left n p => exact absurd (show ("left" : Str) = "length" from h) (by decide +kernel)
  | length n p => exact ⟨n, p, rfl⟩
def tellR (u : Int) : Row → Str × Qp
  | .of n p => (n, p)
  | .steps n qs => (n, partAt qs u)
  | .left n p => (n, p)
  | .length n _ => (n, (0, 1))
theorem of_flt {u : Int} : ∀ rs : List Row, (rs.filter fun r => decide (kindS r = "of")).map (tellR u) = rs.filterMap ofN
  | [] => rfl
  | .of n p :: rs => by
    rw [List.filter_cons, if_pos (by show decide (("of" : Str) = "of") = true; decide +kernel), List.map_cons, of_flt rs]
    rfl
  | .steps n p :: rs => by
    rw [List.filter_cons, if_neg (by show ¬ decide (("steps" : Str) = "of") = true; decide +kernel), of_flt rs]
    rfl
  | .left n p :: rs => by
    rw [List.filter_cons, if_neg (by show ¬ decide (("left" : Str) = "of") = true; decide +kernel), of_flt rs]
    rfl
  | .length n p :: rs => by
    rw [List.filter_cons, if_neg (by show ¬ decide (("length" : Str) = "of") = true; decide +kernel), of_flt rs]
    rfl
theorem st_flt {u : Int} : ∀ rs : List Row, (rs.filter fun r => decide (kindS r = "steps")).map (tellR u) = rs.filterMap (stN u)
  | [] => rfl
  | .steps n p :: rs => by
    rw [List.filter_cons, if_pos (by show decide (("steps" : Str) = "steps") = true; decide +kernel), List.map_cons, st_flt rs]
    rfl
  | .of n p :: rs => by
    rw [List.filter_cons, if_neg (by show ¬ decide (("of" : Str) = "steps") = true; decide +kernel), st_flt rs]
    rfl
  | .left n p :: rs => by
    rw [List.filter_cons, if_neg (by show ¬ decide (("left" : Str) = "steps") = true; decide +kernel), st_flt rs]
    rfl
  | .length n p :: rs => by
    rw [List.filter_cons, if_neg (by show ¬ decide (("length" : Str) = "steps") = true; decide +kernel), st_flt rs]
    rfl
theorem tell_len {u : Int} : ∀ (rs : List Row) (r : Qp), (rs.filterMap ofN).length + (rs.filterMap (stN u)).length + (leftsP rs r).1.length + (lenRows rs).length ≤ rs.length
  | [], r => Nat.le_refl _
  | .of n p :: rs, r => by
    have ih := tell_len (u := u) rs r
    have e : lenRows (.of n p :: rs) = lenRows rs := by
      unfold lenRows
      rw [List.filter_cons, if_neg (by show ¬ decide (("of" : Str) = "length") = true; decide +kernel)]
    have e2 : leftsP (.of n p :: rs) r = leftsP rs r := rfl
    have e3 : (Row.of n p :: rs).filterMap ofN = (n, p) :: rs.filterMap ofN := rfl
    have e4 : (Row.of n p :: rs).filterMap (stN u) = rs.filterMap (stN u) := rfl
    rw [e, e2, e3, e4, List.length_cons, List.length_cons]
    omega
  | .steps n p :: rs, r => by
    have ih := tell_len (u := u) rs r
    have e : lenRows (.steps n p :: rs) = lenRows rs := by
      unfold lenRows
      rw [List.filter_cons, if_neg (by show ¬ decide (("steps" : Str) = "length") = true; decide +kernel)]
    have e2 : leftsP (.steps n p :: rs) r = leftsP rs r := rfl
    have e3 : (Row.steps n p :: rs).filterMap ofN = rs.filterMap ofN := rfl
    have e4 : (Row.steps n p :: rs).filterMap (stN u) = (n, partAt p u) :: rs.filterMap (stN u) := rfl
    rw [e, e2, e3, e4, List.length_cons, List.length_cons]
    omega
  | .left n p :: rs, r => by
    have ih := tell_len (u := u) rs (subQ r (mulQ r p))
    have e : lenRows (.left n p :: rs) = lenRows rs := by
      unfold lenRows
      rw [List.filter_cons, if_neg (by show ¬ decide (("left" : Str) = "length") = true; decide +kernel)]
    have e2 : (leftsP (.left n p :: rs) r).1 = (n, mulQ r p) :: (leftsP rs (subQ r (mulQ r p))).1 := rfl
    have e3 : (Row.left n p :: rs).filterMap ofN = rs.filterMap ofN := rfl
    have e4 : (Row.left n p :: rs).filterMap (stN u) = rs.filterMap (stN u) := rfl
    rw [e, e2, e3, e4, List.length_cons, List.length_cons]
    omega
  | .length n p :: rs, r => by
    have ih := tell_len (u := u) rs r
    have e : lenRows (.length n p :: rs) = .length n p :: lenRows rs := by
      unfold lenRows
      rw [List.filter_cons, if_pos (by show decide (("length" : Str) = "length") = true; decide +kernel)]
    have e2 : leftsP (.length n p :: rs) r = leftsP rs r := rfl
    have e3 : (Row.length n p :: rs).filterMap ofN = rs.filterMap ofN := rfl
    have e4 : (Row.length n p :: rs).filterMap (stN u) = rs.filterMap (stN u) := rfl
    rw [e, e2, e3, e4, List.length_cons, List.length_cons]
    omega
def sp_Parting___init__ (C : Addr) : GF := fun ds w _ k => ∃ (M : List Cell) (nn : Option Nat) (rs : List Row) (u : Int), ds = [.rf M.length, .tup (rs.map rowD), .int u] ∧ w = ⟨M ++ [.ins C []], nn⟩ ∧ RowsOk rs 8 ∧ k .non ⟨M ++ [PI C M (restP rs u), PT (tellP rs u)], nn⟩
abbrev s_Parting___init__ : Stmt := inClass (topS 25) 0
theorem sc_Parting___init__ : FnScope ["self", "rows", "unit", "kind", "name", "part", "row"] ["self", "rows", "unit"] (defScope s_Parting___init__) := ⟨rfl, rfl, rfl, by decide +kernel, rfl, by decide +kernel, by decide +kernel⟩
def g_Parting___init__ (C_Parting : Addr) : GS := (gSeq (gSetF C_Parting (gVar 0) (gLcC (giSeq (gCall0 2 sp_rows_by (gaCons (gVar 1) (gaCons (gC (.str "of")) gaNil)))) (ggName 6) gYes (gTup (gaCons (gBin ixD (gVar 6) (gC (.int 1))) (gaCons (gBin ixD (gVar 6) (gC (.int 2))) gaNil))) [6]) "told")
  (gSeq (gDrop (gBM "list" mExtend (gFld C_Parting (gVar 0) "told") (gaCons (gLc (giSeq (gCall0 2 sp_rows_by (gaCons (gVar 1) (gaCons (gC (.str "steps")) gaNil)))) (ggName 6) gYes (gTup (gaCons (gBin ixD (gVar 6) (gC (.int 1))) (gaCons (gCall0 2 sp_part_at (gaCons (gBin ixD (gVar 6) (gC (.int 2))) (gaCons (gVar 2) gaNil))) gaNil))) [6]) gaNil)))
  (gSeq (gSetF C_Parting (gVar 0) (gCall0 2 sp_taken_from (gaCons (gCall0 1 sp_sum_of (gaCons (gLc (giSeq (gFld C_Parting (gVar 0) "told")) (ggTup 2 (ggCons (ggName 4) (ggCons (ggName 5) ggNil))) gYes (gVar 5) [4, 5]) gaNil)) (gaCons (gTup (gaCons (gC (.int 1)) (gaCons (gC (.int 1)) gaNil))) gaNil))) "rest")
  (gSeq (gFor (giSeq (gCall0 2 sp_rows_by (gaCons (gVar 1) (gaCons (gC (.str "left")) gaNil)))) (ggTup 3 (ggCons (ggName 3) (ggCons (ggName 4) (ggCons (ggName 5) ggNil)))) (gDrop (gMeth C_Parting 3 (sp_Parting_give C_Parting) "give" (gVar 0) (gaCons (gVar 4) (gaCons (gCall0 2 sp_product_of (gaCons (gFld C_Parting (gVar 0) "rest") (gaCons (gVar 5) gaNil))) gaNil)))))
  (gDrop (gMeth C_Parting 2 (sp_Parting_by_lengths C_Parting) "by_lengths" (gVar 0) (gaCons (gCall0 2 sp_rows_by (gaCons (gVar 1) (gaCons (gC (.str "length")) gaNil))) gaNil)))))))
theorem w_Parting___init__ {P : Program} {w : World} {K : PySem.W.Frag} {mg : Str → Option Value} {base : Heap} {C_Parting : Addr} (CL_Parting : ClsAt K mg "Parting" C_Parting ["told", "rest"]) (F_taken_from : FnAt P w K mg base CX0 3 "taken_from" 2 sp_taken_from) (F_rows_by : FnAt P w K mg base CX0 1 "rows_by" 2 sp_rows_by) (F_Parting_by_lengths : MtAt P w K mg base CX0 5 C_Parting "by_lengths" 2 (sp_Parting_by_lengths C_Parting)) (F_sum_of : FnAt P w K mg base CX0 3 "sum_of" 1 sp_sum_of) (F_Parting_give : MtAt P w K mg base CX0 4 C_Parting "give" 3 (sp_Parting_give C_Parting)) (F_product_of : FnAt P w K mg base CX0 3 "product_of" 2 sp_product_of) (F_part_at : FnAt P w K mg base CX0 1 "part_at" 2 sp_part_at) (T : InitAt K C_Parting "Parting.__init__" s_Parting___init__ ["self", "rows", "unit"]) (B : Blt mg) : InAt P w K mg base CX0 6 C_Parting 3 (sem0 7 (g_Parting___init__ C_Parting)) := by
  have nd := sc_Parting___init__.nd
  exact T.fn0 sc_Parting___init__ (fun f cdv A outer s H E hr => (dss_cons (ds_setF CL_Parting (by decide +kernel) (de_var 0) (de_lcC (own := [("row", 6)]) (us := [6]) rfl nd (di_seq (de_call0 F_rows_by hr (by rfl) (da_cons (de_var 1) (da_cons de_str da_nil)))) (blkOk_by (N := ["self", "rows", "unit", "kind", "name", "part", "row"]) (sc := defScope s_Parting___init__) (by decide +kernel)) (by decide) (fun _ _ _ _ _ => (dg_name (i := 6) nd rfl (by first | exact Or.inl rfl | exact Or.inr rfl))) (fun _ _ _ _ _ => dts_nil) (fun _ _ _ _ _ => (de_tup (da_cons (de_ix (de_var 6) de_int) (da_cons (de_ix (de_var 6) de_int) da_nil))))) (by rfl))
  (dss_cons (ds_expr (de_bm PySem.F.plainAttrs_list PySem.F.slot_list_extend (by rfl) mt_extend ok_extend (de_fld CL_Parting (by decide +kernel) (de_var 0)) (da_cons (de_lc (own := [("row", 6)]) (us := [6]) rfl nd (di_seq (de_call0 F_rows_by hr (by rfl) (da_cons (de_var 1) (da_cons de_str da_nil)))) (blkOk_by (N := ["self", "rows", "unit", "kind", "name", "part", "row"]) (sc := defScope s_Parting___init__) (by decide +kernel)) (by decide) (fun _ _ _ _ _ => (dg_name (i := 6) nd rfl (by first | exact Or.inl rfl | exact Or.inr rfl))) (fun _ _ _ _ _ => dts_nil) (fun _ _ _ _ _ => (de_tup (da_cons (de_ix (de_var 6) de_int) (da_cons (de_call0 F_part_at hr (by rfl) (da_cons (de_ix (de_var 6) de_int) (da_cons (de_var 2) da_nil))) da_nil))))) da_nil) (by rfl) (by rfl) (by rfl) (by rfl) (by rfl)))
  (dss_cons (ds_setF CL_Parting (by decide +kernel) (de_var 0) (de_call0 F_taken_from hr (by rfl) (da_cons (de_call0 F_sum_of hr (by rfl) (da_cons (de_lc (own := [("name", 4), ("part", 5)]) (us := [4, 5]) rfl nd (di_seq (de_fld CL_Parting (by decide +kernel) (de_var 0))) (blkOk_by (N := ["self", "rows", "unit", "kind", "name", "part", "row"]) (sc := defScope s_Parting___init__) (by decide +kernel)) (by decide) (fun _ _ _ _ _ => (dg_tup rfl (dgs_cons (dg_name (i := 4) nd rfl (by first | exact Or.inl rfl | exact Or.inr rfl)) (dgs_cons (dg_name (i := 5) nd rfl (by first | exact Or.inl rfl | exact Or.inr rfl)) dgs_nil)))) (fun _ _ _ _ _ => dts_nil) (fun _ _ _ _ _ => (de_var 5))) da_nil)) (da_cons (de_tup (da_cons de_int (da_cons de_int da_nil))) da_nil))) (by rfl))
  (dss_cons (ds_for PassesOwn.never rfl (di_seq (de_call0 F_rows_by hr (by rfl) (da_cons (de_var 1) (da_cons de_str da_nil)))) (dg_tup rfl (dgs_cons (dg_name (i := 3) nd rfl (by first | exact Or.inl rfl | exact Or.inr rfl)) (dgs_cons (dg_name (i := 4) nd rfl (by first | exact Or.inl rfl | exact Or.inr rfl)) (dgs_cons (dg_name (i := 5) nd rfl (by first | exact Or.inl rfl | exact Or.inr rfl)) dgs_nil)))) (dss_one (ds_expr (de_meth CL_Parting F_Parting_give hr (de_var 0) (da_cons (de_var 4) (da_cons (de_call0 F_product_of hr (by rfl) (da_cons (de_fld CL_Parting (by decide +kernel) (de_var 0)) (da_cons (de_var 5) da_nil))) da_nil)) (by decide) (by rfl) (by rfl) (by rfl)))))
  (dss_one (ds_expr (de_meth CL_Parting F_Parting_by_lengths hr (de_var 0) (da_cons (de_call0 F_rows_by hr (by rfl) (da_cons (de_var 1) (da_cons de_str da_nil))) da_nil) (by decide) (by rfl) (by rfl) (by rfl)))))))))

theorem v_Parting___init__ (C : Addr) : ∀ ds w kx k, sp_Parting___init__ C ds w kx k → sem0 7 (g_Parting___init__ C) ds w kx k := by
  rintro ds w kx k ⟨M, nn, rs, u, rfl, rfl, ⟨hl, hr⟩, hk⟩
  have e : rho 7 [D.rf M.length, D.tup (rs.map rowD), D.int u] = [some (.rf M.length), some (.tup (rs.map rowD)), some (.int u), none, none, none, none] := rfl
  simp! only [g_Parting___init__, e, gFld, gMeth, gSetF, gLcC, rfK_r, sp_rows_by, sp_part_at]
  have l1 := flt_len rs "of"
  have l2 := flt_len rs "steps"
  have l3 := flt_len rs "left"
  refine ⟨rs, _, rfl, by omega, lc_ty rowD (fun r => pairD (tellR u r)) _ trivial (by omega) (fun a ha k' hk' => ?_) ?_⟩
  · obtain ⟨n, p, rfl⟩ := kind_of (flt_mem ha).2
    simp! only [row1_of, row2_of]
    exact ⟨by decide, hk'⟩
  have e1 : ((rs.filter fun r => decide (kindS r = "of")).map fun r => pairD (tellR u r)) = (rs.filterMap ofN).map pairD := by rw [← of_flt (u := u), List.map_map]; rfl
  rw [e1]
  refine ⟨_, rfl, ?_⟩
  have eM : ∀ c : Cell, M ++ [Cell.ins C []] ++ [c] = M ++ [.ins C [], c] := fun c => by rw [List.append_assoc]; rfl
  have eL : (M ++ [Cell.ins C []]).length = M.length + 1 := by rw [List.length_append]; rfl
  rw [eM, eL]
  simp! only [rfK_r, insK20, set20, put_told0, look_told1, isTy21]
  refine ⟨by decide, rs, _, rfl, by omega, lc_ty rowD (fun r => pairD (tellR u r)) _ trivial (by omega) (fun a ha k' hk' => ?_) ?_⟩
  · obtain ⟨h1, h2⟩ := flt_mem ha
    obtain ⟨n, p, rfl⟩ := kind_st h2
    simp! only [row1_st, row2_st, sp_part_at]
    exact ⟨p, u, rfl, hr _ h1, by decide, hk'⟩
  have e2 : ((rs.filter fun r => decide (kindS r = "steps")).map fun r => pairD (tellR u r)) = (rs.filterMap (stN u)).map pairD := by rw [← st_flt (u := u), List.map_map]; rfl
  rw [e2]
  simp! only [extend21, insK20, look_told1, at21]
  rw [← List.map_append, show rs.filterMap ofN ++ rs.filterMap (stN u) = told0 rs u from rfl]
  have ht := told0_len rs u
  have hF := told0_ok (u := u) hr
  refine ⟨by rw [List.length_map, List.length_map]; exact le_sl (by have := List.length_filterMap_le ofN rs; have := List.length_filterMap_le (stN u) rs; omega), lc_ty pairD (fun x => fD x.2) (told0 rs u) at21 (by omega) (fun a _ k' hk' => ?_) ?_⟩
  · simp! only [pair_tup]
    exact hk'
  have e3 : ((told0 rs u).map fun x => fD x.2) = ((told0 rs u).map Prod.snd).map fD := by rw [List.map_map]; rfl
  rw [e3]
  have fs := fr_sum fun q hq => (hF q hq).1
  have ls := sum_lt rfl hF
  have ln : (12 + 1) * ((told0 rs u).map Prod.snd).length + 1 ≤ 4400 := by
    rw [List.length_map]
    have : 13 * (told0 rs u).length ≤ 13 * 16 := Nat.mul_le_mul_left _ (by omega)
    omega
  refine ⟨_, _, rfl, ⟨rfl, step_frb hF ?_⟩, by decide, sumQ ((told0 rs u).map Prod.snd), (1, 1), rfl, ⟨fs, ⟨by decide, by decide⟩, ls.mono ln, Lt2.mono (a := 1) ⟨by decide, by decide⟩ (by decide)⟩, ?_⟩
  · rw [List.length_map]
    have : 13 * ((told0 rs u).length + 1) ≤ 13 * 17 := Nat.mul_le_mul_left _ (by omega)
    omega
  obtain ⟨f0, lt0⟩ := rest0_ok (u := u) hr hl
  simp! only [insK20, put_rest1, set20]
  rw [show subQ (1, 1) (sumQ ((told0 rs u).map Prod.snd)) = rest0 rs u from rfl]
  have lrows : ∀ x ∈ rs.filter fun r => decide (kindS r = "left"), RowOk x ∧ ∃ n p, x = .left n p := fun x hx => by
    obtain ⟨h1, h2⟩ := flt_mem hx
    exact ⟨hr x h1, kind_left h2⟩
  refine ⟨by decide, rs, _, rfl, by omega, fun rem ρ w' => ∃ (ts : List Row) (q : Qp) (T : Told) (x3 x4 x5 : Option D), rem = ts.map rowD ∧ ρ = [some (.rf M.length), some (.tup (rs.map rowD)), some (.int u), x3, x4, x5, none] ∧ w' = ⟨M ++ [PI C M q, PT T], nn⟩ ∧
    (Fr q ∧ Lt2 (211 + 13 * (8 - ts.length)) q ∧ ts.length ≤ 8 ∧ T.length + ts.length ≤ 30) ∧ (∀ x ∈ ts, RowOk x ∧ ∃ n p, x = .left n p) ∧ T ++ (leftsP ts q).1 = told0 rs u ++ (leftsP rs (rest0 rs u)).1 ∧ (leftsP ts q).2 = (leftsP rs (rest0 rs u)).2,
    ⟨_, rest0 rs u, told0 rs u, none, none, none, rfl, rfl, rfl, ⟨f0, lt0.mono (by omega), by omega, by omega⟩, lrows, by rw [lefts_flt], by rw [lefts_flt]⟩, ?_, ?_⟩
  · rintro ρ w' ⟨ts, q, T, x3, x4, x5, h1, rfl, rfl, ⟨hq, lq, _, hT⟩, _, h2, h3⟩
    have : ts = [] := by simpa using h1.symm
    subst this
    refine ⟨trivial, ?_⟩
    simp! only [gMeth, rfK_r, PI, insK20, look_by, sp_rows_by]
    have h2 : T ++ [] = told0 rs u ++ (leftsP rs (rest0 rs u)).1 := h2
    have h3 : q = (leftsP rs (rest0 rs u)).2 := h3
    rw [List.append_nil] at h2
    have ll := flt_len rs "length"
    refine ⟨rs, _, rfl, by omega, M, nn, T, q, lenRows rs, rfl, rfl, ⟨hq, lq.mono (by simp), by show T.length + (rs.filter _).length ≤ 900; rw [List.length_nil] at hT; omega, by show (rs.filter _).length ≤ 8; omega, fun x hx => ?_⟩, ?_⟩
    · obtain ⟨g1, g2⟩ := flt_mem hx
      obtain ⟨s, l, rfl⟩ := kind_len g2
      exact ⟨s, l, rfl, (hr _ g1).1, (hr _ g1).2⟩
    · rw [h2, h3]
      exact hk
  · rintro z xs ρ w' ⟨ts, q, T, x3, x4, x5, h1, rfl, rfl, ⟨hq, lq, hl8, hT⟩, hts, h2, h3⟩
    cases ts with
    | nil => cases h1
    | cons a ts =>
      rw [List.map_cons] at h1
      injection h1 with h1 h1'
      subst h1
      subst h1'
      obtain ⟨hpo, s, p, rfl⟩ := hts a List.mem_cons_self
      have hp : Part p := hpo
      rw [List.length_cons] at hl8 hT lq
      obtain ⟨f1, g1, f2, g2⟩ := left_ok hq hp lq
      refine ⟨trivial, ?_⟩
      simp! only [left_tup, gMeth, gFld, sp_product_of, rfK_r, PI, insK20, look_give, look_rest]
      refine ⟨q, p, rfl, ⟨by have := hq.pos; omega, by have := hp.fr.pos; omega, lq.mono (by omega), hp.lt.mono (by decide)⟩, M, nn, T, q, s, mulQ q p, rfl, rfl, ⟨f2, hq, g2.mono (by omega), lq.mono (by omega), by omega⟩, ?_⟩
      refine ⟨ts, subQ q (mulQ q p), T ++ [(s, mulQ q p)], _, _, _, rfl, rfl, rfl, ⟨f1, g1.mono (by omega), by omega, by rw [List.length_append]; simp; omega⟩, fun x hx => hts x (List.mem_cons_of_mem _ hx), ?_, h3⟩
      rw [← h2, List.append_assoc]
      rfl
theorem ok_Parting___init__ {P : Program} {w : World} {K : PySem.W.Frag} {mg : Str → Option Value} {base : Heap} {C_Parting : Addr} (CL_Parting : ClsAt K mg "Parting" C_Parting ["told", "rest"]) (F_taken_from : FnAt P w K mg base CX0 3 "taken_from" 2 sp_taken_from) (F_rows_by : FnAt P w K mg base CX0 1 "rows_by" 2 sp_rows_by) (F_Parting_by_lengths : MtAt P w K mg base CX0 5 C_Parting "by_lengths" 2 (sp_Parting_by_lengths C_Parting)) (F_sum_of : FnAt P w K mg base CX0 3 "sum_of" 1 sp_sum_of) (F_Parting_give : MtAt P w K mg base CX0 4 C_Parting "give" 3 (sp_Parting_give C_Parting)) (F_product_of : FnAt P w K mg base CX0 3 "product_of" 2 sp_product_of) (F_part_at : FnAt P w K mg base CX0 1 "part_at" 2 sp_part_at) (T : InitAt K C_Parting "Parting.__init__" s_Parting___init__ ["self", "rows", "unit"]) (B : Blt mg) : InAt P w K mg base CX0 6 C_Parting 3 (sp_Parting___init__ C_Parting) := (w_Parting___init__ CL_Parting F_taken_from F_rows_by F_Parting_by_lengths F_sum_of F_Parting_give F_product_of F_part_at T B).imp (v_Parting___init__ C_Parting)


end LW

namespace LW
open PySem PySem.Spec PyProof.Rows L2 RZ DL
local macro_rules | `(tactic| simp! only [$xs,*] $[$loc]?) => `(tactic| simp only [$xs,*, sem0,List.map_cons,List.map_nil,List.length_cons,List.length_nil,gSeq,gNext,gRet,gRetN,gIfS,gSet,gPar,gAsg,gDrop,gVar,gC,gBin,gUn,gB,gTru,gAnd,gOr,gNot,gAndV,gOrV,gNotV,gIf,gChain,gaNil,gaCons,DL.gTup,DL.gLst,gCB,gCall0,gAug,addD_i,addD_s,addD_l,addD_t,subD_i,mulD_i,mulD_l,fdivD_i,modD_i,powD_i,ltD_i,ltD_s,leD_i,gtD_i,geD_i,isD_n,isnotD_n,isNonD_non,isNonD_bl,isNonD_int,isNonD_str,isNonD_lst,isNonD_tup,negD_i,iaddD_i,truD_non,truD_bl,truD_int,truD_str,truD_lst,truD_tup,someK_some,ixD_l,ixD_t,fAbs_i,fInt_i,fInt_b,fMin2_i,fLen_l,fLen_t,fLen_s,fList_l,fList_t,fTuple_l,fTuple_t,optBK_some,fIsi_non,fIsi_bl,fIsi_int,fIsi_str,fIsi_lst,fIsi_tup,List.getElem?_cons_zero,List.getElem?_cons_succ,List.set_cons_zero,List.set_cons_succ,DL.ggName,ggNil0,ggCons1,ggTup2,ggTup3,gFor,giSeq,gLc,gYes,wipeR,true_and,and_true,at_0,at_1,at_2,kit_int_int,kit_bool_int,kit_str_int,kit_non_int,kit_list_int,kit_tuple_int,kit_int_bool,kit_bool_bool,kit_str_bool,kit_non_bool,kit_list_bool,kit_tuple_bool,kit_int_str,kit_bool_str,kit_str_str,kit_non_str,kit_list_str,kit_tuple_str,kit_int_list,kit_bool_list,kit_str_list,kit_non_list,kit_list_list,kit_tuple_list,kit_int_tuple,kit_bool_tuple,kit_str_tuple,kit_non_tuple,kit_list_tuple,kit_tuple_tuple,eqD_i,neD_i,eqD_s,neD_s,eqD_f,neD_f,Nat.zero_add,Nat.reduceAdd,nc0,nc1,nc2,nc3,nc4,nc5,nc6,nc7,nc8,nc9,eq_self,decide_true,decide_false,Int.reduceEq,Int.reduceLT,Int.reduceLE,Int.reduceNeg,Bool.not_true,Bool.not_false,Bool.false_eq_true,if_true,if_false,↓reduceIte,false_and,and_false,List.all_cons,List.all_nil,List.any_cons,List.any_nil,id_eq,Bool.and_true,Bool.true_and,Bool.or_false,Bool.false_or,Bool.and_false,Bool.false_and,gCut,eqD_b,neD_b,giZip,reduceCtorEq,Bool.true_eq_false,Bool.false_eq_true,gRevL,gSl,goNone,goSome,slD_l,ne_eq,not_false_eq_true,not_true_eq_false,gBM,isTy_l,isTy_s,new_at,new_set,isTy_new,cellK_new,append_new,popAt_new,gFrz_eq,frzK_new,fLen_new,fTuple_new,ixD_new,slA_l,slA_t,slA_new,addTD_t,addCD_l,mulCD_l,isbD_b,isnotbD_b,mSplitC_s,gLstC,gTr,ggSub,lstK_l,lstK_r,addLD_eq] $[$loc]?)



def nameParts (s : Str) (T : Told) : List Qp := (T.filter fun x => decide (x.1 = s) && decide (0 < x.2.1)).map Prod.snd
structure IsKeys (T : Told) (ys : List Str) : Prop where
  srt : sortedS ys = true
  nd : ys.Nodup
  mem : ∀ s, s ∈ ys ↔ ∃ p, (s, p) ∈ T ∧ 0 < p.1
def pairsOf (ys : List Str) (T : Told) : Told := ys.map fun s => (s, sumQ (nameParts s T))
theorem np_app (s : Str) (T U : Told) : nameParts s (T ++ U) = nameParts s T ++ nameParts s U := by
  unfold nameParts
  rw [List.filter_append, List.map_append]
theorem np_same {s : Str} {p : Qp} (h : 0 < p.1) : nameParts s [(s, p)] = [p] := by
  unfold nameParts
  simp [h]
theorem np_off {s t : Str} {p : Qp} (h : ¬ (t = s ∧ 0 < p.1)) : nameParts s [(t, p)] = [] := by
  unfold nameParts
  rw [List.filter_cons, if_neg ?_]
  · rfl
  · rw [Bool.and_eq_true, decide_eq_true_eq, decide_eq_true_eq]
    exact h
theorem np_mem {s : Str} {T : Told} {p : Qp} (h : p ∈ nameParts s T) : (s, p) ∈ T ∧ 0 < p.1 := by
  obtain ⟨x, hx, rfl⟩ := List.mem_map.mp h
  obtain ⟨h1, h2⟩ := List.mem_filter.mp hx
  rw [Bool.and_eq_true, decide_eq_true_eq, decide_eq_true_eq] at h2
  obtain ⟨h2, h3⟩ := h2
  refine ⟨?_, h3⟩
  rw [← h2]
  exact h1
theorem np_len (s : Str) (T : Told) : (nameParts s T).length ≤ T.length := by
  unfold nameParts
  rw [List.length_map]
  exact List.length_filter_le _ _
theorem np_nil {s : Str} {T : Told} (h : ¬ ∃ p, (s, p) ∈ T ∧ 0 < p.1) : nameParts s T = [] := by
  cases e : nameParts s T with
  | nil => rfl
  | cons p r => exact absurd ⟨p, np_mem (by rw [e]; exact List.mem_cons_self)⟩ h
structure DInv (Dn : List (Str × Nat)) (Cs : List Cell) (dn : Told) : Prop where
  nd : (Dn.map Prod.fst).Nodup
  nj : (Dn.map Prod.snd).Nodup
  cell : ∀ x ∈ Dn, Cs[x.2]? = some (.lst ((nameParts x.1 dn).map fD))
  keys : ∀ s, s ∈ Dn.map Prod.fst ↔ ∃ p, (s, p) ∈ dn ∧ 0 < p.1
  len : Dn.length ≤ dn.length
theorem uniq_fst : ∀ {Dn : List (Str × Nat)}, (Dn.map Prod.fst).Nodup → ∀ {s : Str} {i j : Nat}, (s, i) ∈ Dn → (s, j) ∈ Dn → i = j
  | [], _, _, _, _, h, _ => nomatch h
  | x :: Dn, nd, s, i, j, h1, h2 => by
    rw [List.map_cons, List.nodup_cons] at nd
    rcases List.mem_cons.mp h1 with h1 | h1
    · rcases List.mem_cons.mp h2 with h2 | h2
      · rw [← h1] at h2
        cases h2
        rfl
      · exact absurd (List.mem_map.mpr ⟨_, h2, by rw [← h1]⟩) nd.1
    · rcases List.mem_cons.mp h2 with h2 | h2
      · exact absurd (List.mem_map.mpr ⟨_, h1, by rw [← h2]⟩) nd.1
      · exact uniq_fst nd.2 h1 h2
theorem uniq_snd : ∀ {Dn : List (Str × Nat)}, (Dn.map Prod.snd).Nodup → ∀ {s t : Str} {i : Nat}, (s, i) ∈ Dn → (t, i) ∈ Dn → s = t
  | [], _, _, _, _, h, _ => nomatch h
  | x :: Dn, nd, s, t, i, h1, h2 => by
    rw [List.map_cons, List.nodup_cons] at nd
    rcases List.mem_cons.mp h1 with h1 | h1
    · rcases List.mem_cons.mp h2 with h2 | h2
      · rw [← h1] at h2
        cases h2
        rfl
      · exact absurd (List.mem_map.mpr ⟨_, h2, by rw [← h1]⟩) nd.1
    · rcases List.mem_cons.mp h2 with h2 | h2
      · exact absurd (List.mem_map.mpr ⟨_, h1, by rw [← h2]⟩) nd.1
      · exact uniq_snd nd.2 h1 h2
theorem DInv.nil {Cs : List Cell} : DInv [] Cs [] := ⟨List.nodup_nil, List.nodup_nil, (by intro x hx; cases hx), (by intro s; simp), Nat.le_refl _⟩
theorem DInv.skip {Dn : List (Str × Nat)} {Cs : List Cell} {dn : Told} {s : Str} {p : Qp} (h : DInv Dn Cs dn) (hp : ¬ 0 < p.1) : DInv Dn Cs (dn ++ [(s, p)]) := by
  refine ⟨h.nd, h.nj, fun x hx => ?_, fun t => ?_, by rw [List.length_append]; have := h.len; omega⟩
  · rw [np_app, np_off fun z => hp z.2, List.append_nil]
    exact h.cell x hx
  · rw [h.keys t]
    refine ⟨fun ⟨q, h1, h2⟩ => ⟨q, List.mem_append_left _ h1, h2⟩, fun ⟨q, h1, h2⟩ => ?_⟩
    rcases List.mem_append.mp h1 with h1 | h1
    · exact ⟨q, h1, h2⟩
    · rw [List.mem_singleton] at h1
      cases h1
      exact absurd h2 hp
theorem DInv.keys' {Dn : List (Str × Nat)} {Cs : List Cell} {dn : Told} (h : DInv Dn Cs dn) {s : Str} {p : Qp} (hp : 0 < p.1) (Dn' : List (Str × Nat)) (e : ∀ t, t ∈ Dn'.map Prod.fst ↔ t ∈ Dn.map Prod.fst ∨ t = s) : ∀ t, t ∈ Dn'.map Prod.fst ↔ ∃ q, (t, q) ∈ dn ++ [(s, p)] ∧ 0 < q.1 := fun t => by
  rw [e t, h.keys t]
  constructor
  · rintro (⟨q, h1, h2⟩ | rfl)
    · exact ⟨q, List.mem_append_left _ h1, h2⟩
    · exact ⟨p, by simp, hp⟩
  · rintro ⟨q, h1, h2⟩
    rcases List.mem_append.mp h1 with h1 | h1
    · exact .inl ⟨q, h1, h2⟩
    · rw [List.mem_singleton] at h1
      cases h1
      exact .inr rfl
theorem DInv.old {Dn : List (Str × Nat)} {Cs : List Cell} {dn : Told} {s : Str} {p : Qp} {j : Nat} (h : DInv Dn Cs dn) (hp : 0 < p.1) (hj : (s, j) ∈ Dn) : DInv Dn ((Cs ++ [Cell.lst []]).set j (Cell.lst ((nameParts s dn).map fD ++ [fD p]))) (dn ++ [(s, p)]) := by
  have hjl : j < Cs.length := (List.getElem?_eq_some_iff.mp (h.cell _ hj)).1
  refine ⟨h.nd, h.nj, fun x hx => ?_, h.keys' hp Dn fun t => ⟨.inl, fun z => z.elim id fun z => by rw [z]; exact List.mem_map.mpr ⟨_, hj, rfl⟩⟩, by rw [List.length_append]; have := h.len; omega⟩
  obtain ⟨t, i⟩ := x
  have hil : i < Cs.length := (List.getElem?_eq_some_iff.mp (h.cell _ hx)).1
  by_cases hi : i = j
  · subst hi
    have ht : t = s := uniq_snd h.nj hx hj
    subst ht
    rw [List.getElem?_set_self (by rw [List.length_append]; omega), np_app, np_same hp, List.map_append]
    rfl
  · rw [List.getElem?_set_ne (Ne.symm hi), List.getElem?_append_left hil, h.cell _ hx, np_app]
    have hts : ¬ t = s := fun z => hi (uniq_fst h.nd (z ▸ hx) hj)
    rw [np_off fun z => hts z.1.symm, List.append_nil]
theorem DInv.new {Dn : List (Str × Nat)} {Cs : List Cell} {dn : Told} {s : Str} {p : Qp} (h : DInv Dn Cs dn) (hp : 0 < p.1) (hs : s ∉ Dn.map Prod.fst) : DInv (Dn ++ [(s, Cs.length)]) (Cs ++ [.lst [fD p]]) (dn ++ [(s, p)]) := by
  have lt : ∀ x ∈ Dn, x.2 < Cs.length := fun x hx => (List.getElem?_eq_some_iff.mp (h.cell _ hx)).1
  refine ⟨?_, ?_, fun x hx => ?_, h.keys' hp _ fun t => by rw [List.map_append, List.mem_append]; simp, by rw [List.length_append, List.length_append]; have := h.len; simp; omega⟩
  · rw [List.map_append, List.nodup_append]
    refine ⟨h.nd, by simp, fun a ha b hb z => ?_⟩
    have hb : b = s := by simpa using hb
    exact hs (by rw [← hb, ← z]; exact ha)
  · rw [List.map_append, List.nodup_append]
    refine ⟨h.nj, by simp, fun a ha b hb z => ?_⟩
    have hb : b = Cs.length := by simpa using hb
    obtain ⟨x, hx, rfl⟩ := List.mem_map.mp ha
    have := lt x hx
    omega
  · rcases List.mem_append.mp hx with hx | hx
    · have hts : ¬ s = x.1 := fun z => hs (List.mem_map.mpr ⟨x, hx, z.symm⟩)
      rw [List.getElem?_append_left (lt x hx), np_app, np_off fun z => hts z.1, List.append_nil]
      exact h.cell x hx
    · rw [List.mem_singleton] at hx
      subst hx
      rw [List.getElem?_append_right (Nat.le_refl _), Nat.sub_self, np_app, np_same hp, np_nil fun z => hs ((h.keys s).mpr z)]
      rfl
section
variable {w : Wd} {k : KD} {B Cs : List Cell} {n : Option Nat} {c c' : Cell} {kvs : List (Key × D)}
theorem atB : (B ++ c :: Cs)[B.length]? = some c := by simp
theorem atC {j : Nat} : (B ++ c :: Cs)[B.length + 1 + j]? = Cs[j]? := by
  rw [List.getElem?_append_right (by omega), show B.length + 1 + j - B.length = j + 1 by omega]
  rfl
theorem setB : (B ++ c :: Cs).set B.length c' = B ++ c' :: Cs := by
  rw [List.set_append_right (h := Nat.le_refl _), Nat.sub_self]
  rfl
theorem setC {j : Nat} : (B ++ c :: Cs).set (B.length + 1 + j) c' = B ++ c :: Cs.set j c' := by
  rw [List.set_append_right (h := by omega), show B.length + 1 + j - B.length = j + 1 by omega]
  rfl
theorem dkK_B {f : List (Key × D) → Prop} : dkK B.length ⟨B ++ .dk kvs :: Cs, n⟩ f = f kvs := by
  unfold dkK
  simp only [atB]
theorem cell_C {j : Nat} {xs : List D} {f : List D → Prop} (h : Cs[j]? = some (.lst xs)) : cellK (B.length + 1 + j) ⟨B ++ c :: Cs, n⟩ f = f xs := by
  unfold cellK
  simp only [atC, h]
end
def dkv (b : Nat) (Dn : List (Str × Nat)) : List (Key × D) := Dn.map fun x => (Sum.inr x.1, .rf (b + 1 + x.2))
theorem dkv_get {b : Nat} : ∀ {Dn : List (Str × Nat)} {s : Str} {j : Nat}, (Dn.map Prod.fst).Nodup → (s, j) ∈ Dn → valD (dkv b Dn) (Sum.inr s) = some (.rf (b + 1 + j))
  | (t, i) :: Dn, s, j, nd, h => by
    rw [List.map_cons, List.nodup_cons] at nd
    show ((List.find? (fun kv => decide (kv.1 = (Sum.inr s : Key))) ((Sum.inr t, D.rf (b + 1 + i)) :: dkv b Dn)).map (·.2)) = _
    rw [List.find?_cons]
    rcases List.mem_cons.mp h with h | h
    · cases h
      rw [decide_eq_true rfl]
      rfl
    · have : ¬ t = s := fun z => nd.1 (by rw [z]; exact List.mem_map.mpr ⟨_, h, rfl⟩)
      rw [decide_eq_false fun z => this (Sum.inr.inj z)]
      exact dkv_get nd.2 h
theorem dkv_none {b : Nat} : ∀ {Dn : List (Str × Nat)} {s : Str}, s ∉ Dn.map Prod.fst → valD (dkv b Dn) (Sum.inr s) = none
  | [], _, _ => rfl
  | (t, i) :: Dn, s, h => by
    rw [List.map_cons, List.mem_cons, not_or] at h
    show ((List.find? (fun kv => decide (kv.1 = (Sum.inr s : Key))) ((Sum.inr t, D.rf (b + 1 + i)) :: dkv b Dn)).map (·.2)) = _
    rw [List.find?_cons, decide_eq_false fun z => h.1 (Sum.inr.inj z).symm]
    exact dkv_none h.2
theorem dkv_put {b : Nat} {Dn : List (Str × Nat)} {s : Str} {i : Nat} (h : s ∉ Dn.map Prod.fst) : putD (dkv b Dn) (Sum.inr s) (.rf (b + 1 + i)) = dkv b (Dn ++ [(s, i)]) := by
  unfold putD
  rw [if_neg]
  · unfold dkv
    rw [List.map_append]
    rfl
  · rw [List.any_eq_true]
    rintro ⟨x, hx, e⟩
    obtain ⟨y, hy, rfl⟩ := List.mem_map.mp hx
    have e : (Sum.inr y.1 : Key) = Sum.inr s := of_decide_eq_true e
    exact h (by rw [← Sum.inr.inj e]; exact List.mem_map.mpr ⟨y, hy, rfl⟩)
theorem dkv_keys {b : Nat} (Dn : List (Str × Nat)) : (dkv b Dn).map (·.1) = (Dn.map Prod.fst).map Sum.inr := by
  unfold dkv
  rw [List.map_map, List.map_map]
  rfl
theorem low_pairsF {n : Nat} (T : Told) : low n (.lst (T.map pairD)) = true := lows_of fun x hx => by
  obtain ⟨e, _, rfl⟩ := List.mem_map.mp hx
  rfl
def sp_Parting_pairs (C : Addr) : GF := fun ds w _ k => ∃ (M : List Cell) (nn : Option Nat) (T : Told) (r : Qp) (a : Nat), ds = [.rf M.length] ∧ w = ⟨M ++ [PI C M r, PT T], nn⟩ ∧ ((∀ x ∈ T, Fr x.2 ∧ Lt2 a x.2) ∧ a ≤ 4000 ∧ (a + 1) * (T.length + 1) ≤ 8980 ∧ T.length ≤ 60) ∧
  ∀ ys, IsKeys T ys → k (.lst ((pairsOf ys T).map pairD)) ⟨M ++ [PI C M r, PT T], nn⟩
abbrev s_Parting_pairs : Stmt := inClass (topS 25) 3
theorem sc_Parting_pairs : FnScope ["self", "by_name", "name", "part"] ["self"] (defScope s_Parting_pairs) := ⟨rfl, rfl, rfl, by decide +kernel, rfl, by decide +kernel, by decide +kernel⟩
def g_Parting_pairs (C_Parting : Addr) : GS := (gSeq (gSet 1 gDNew)
  (gSeq (gFor (giSeq (gFld C_Parting (gVar 0) "told")) (ggTup 2 (ggCons (ggName 2) (ggCons (ggName 3) ggNil))) (gIfS (gTru (gCall0 2 sp_is_less (gaCons (gTup (gaCons (gC (.int 0)) (gaCons (gC (.int 1)) gaNil))) (gaCons (gVar 3) gaNil)))) (gDrop (gBM "list" mAppend (gDSetd (gVar 1) (gVar 2) (gLstC gaNil)) (gaCons (gVar 3) gaNil))) gNext))
  (gRet (gLc (giSeq (gCB fSortD (gaCons (gVar 1) gaNil))) (ggName 2) gYes (gTup (gaCons (gVar 2) (gaCons (gCall0 1 sp_sum_of (gaCons (gDGet (gVar 1) (gVar 2)) gaNil)) gaNil))) [2]))))
theorem w_Parting_pairs {P : Program} {w : World} {K : PySem.W.Frag} {mg : Str → Option Value} {base : Heap} {C_Parting : Addr} (CL_Parting : ClsAt K mg "Parting" C_Parting ["told", "rest"]) (F_is_less : FnAt P w K mg base CX0 1 "is_less" 2 sp_is_less) (F_sum_of : FnAt P w K mg base CX0 3 "sum_of" 1 sp_sum_of) (T : MethAt K C_Parting "pairs" "Parting.pairs" s_Parting_pairs ["self"]) (B : Blt mg) : MtAt P w K mg base CX0 4 C_Parting "pairs" 1 (sem0 4 (g_Parting_pairs C_Parting)) := by
  have nd := sc_Parting_pairs.nd
  exact T.fn0 sc_Parting_pairs (fun f cdv A outer s H E hr => (dss_cons (ds_set (i := 1) nd rfl (by first | exact Or.inl rfl | exact Or.inr rfl) de_dnew)
  (dss_cons (ds_for PassesOwn.never rfl (di_seq (de_fld CL_Parting (by decide +kernel) (de_var 0))) (dg_tup rfl (dgs_cons (dg_name (i := 2) nd rfl (by first | exact Or.inl rfl | exact Or.inr rfl)) (dgs_cons (dg_name (i := 3) nd rfl (by first | exact Or.inl rfl | exact Or.inr rfl)) dgs_nil))) (dss_one (ds_if (dt_truth (de_call0 F_is_less hr (by rfl) (da_cons (de_tup (da_cons de_int (da_cons de_int da_nil))) (da_cons (de_var 3) da_nil)))) (dss_one (ds_expr (de_bm PySem.F.plainAttrs_list PySem.F.slot_list_append (by rfl) mt_append ok_append (de_dsetd (de_var 1) (de_var 2) (de_lstC da_nil)) (da_cons (de_var 3) da_nil) (by rfl) (by rfl) (by rfl) (by rfl) (by rfl)))) dss_nil)))
  (dss_one (ds_ret (de_lc (own := [("name", 2)]) (us := [2]) rfl nd (di_seq (de_sortD B rfl (by rfl) (da_cons (de_var 1) da_nil))) (blkOk_by (N := ["self", "by_name", "name", "part"]) (sc := defScope s_Parting_pairs) (by decide +kernel)) (by decide) (fun _ _ _ _ _ => (dg_name (i := 2) nd rfl (by first | exact Or.inl rfl | exact Or.inr rfl))) (fun _ _ _ _ _ => dts_nil) (fun _ _ _ _ _ => (de_tup (da_cons (de_var 2) (da_cons (de_call0 F_sum_of hr (by rfl) (da_cons (de_dget (hu_of hr) (de_var 1) (de_var 2)) da_nil)) da_nil))))))))))

theorem v_Parting_pairs (C : Addr) : ∀ ds w kx k, sp_Parting_pairs C ds w kx k → gTr (sem0 4 (g_Parting_pairs C)) ds w kx k := by
  rintro ds w kx k ⟨M, nn, T, r, a, rfl, rfl, ⟨hT, ha4, hsz, hTl⟩, hk⟩
  have e : rho 4 [D.rf M.length] = [some (.rf M.length), none, none, none] := rfl
  simp! only [g_Parting_pairs, e, gFld, gDNew, rfK_r, sp_is_less]
  have eI : ∀ f, insK C M.length ⟨M ++ [PI C M r, PT T] ++ [.dk []], nn⟩ f = f [("told", .rf (M.length + 1)), ("rest", fD r)] := fun f => by
    unfold insK
    rw [List.append_assoc]
    simp only [List.cons_append, List.nil_append, atB, PI, true_and]
  rw [eI, look_told]
  obtain ⟨B, hB⟩ : ∃ B, B = M ++ [PI C M r, PT T] := ⟨_, rfl⟩
  have hB1 : B[M.length + 1]? = some (PT T) := by rw [hB]; exact at21
  have hBl : M.length + 1 < B.length := (List.getElem?_eq_some_iff.mp hB1).1
  have hBc : ∀ (c : Cell) (Cs : List Cell), (B ++ c :: Cs)[M.length + 1]? = some (PT T) := fun c Cs => by rw [List.getElem?_append_left hBl]; exact hB1
  rw [← hB]
  simp! only [id_eq]
  have hBe : (B ++ [Cell.dk []])[M.length + 1]? = some (.lst (T.map pairD)) := hBc _ _
  simp only [hBe]
  refine ⟨fun rem ρ w' => ∃ (dn ts : Told) (Dn : List (Str × Nat)) (Cs : List Cell) (x2 x3 : Option D), T = dn ++ ts ∧ rem = ts.map pairD ∧ ρ = [some (.rf M.length), some (.rf B.length), x2, x3] ∧ w' = ⟨B ++ .dk (dkv B.length Dn) :: Cs, nn⟩ ∧ DInv Dn Cs dn, ⟨[], T, [], [], none, none, rfl, rfl, rfl, rfl, .nil⟩, ?_, ?_⟩
  · rintro ρ w' ⟨dn, ts, Dn, Cs, x2, x3, h1, h2, rfl, rfl, hD⟩
    have : ts = [] := by simpa using h2.symm
    subst this
    rw [List.append_nil] at h1
    subst h1
    refine ⟨hBc _ _, ?_⟩
    simp! only [fSortD, dkK_B]
    have hlen := hD.len
    refine ⟨Dn.map Prod.fst, dkv_keys Dn, by rw [List.length_map]; omega, fun ys hp hs => ?_⟩
    have hK : IsKeys T ys := ⟨hs, hp.nodup_iff.mpr hD.nd, fun s => by rw [hp.mem_iff]; exact hD.keys s⟩
    have hyl : ys.length ≤ 60 := by rw [hp.length_eq, List.length_map]; omega
    refine lc_ty D.str (fun s => pairD (s, sumQ (nameParts s T))) ys trivial (by omega) (fun s hys k' hk' => ?_) ?_
    · have hs2 : s ∈ Dn.map Prod.fst := hp.mem_iff.mp hys
      obtain ⟨⟨s', j⟩, hj, rfl⟩ := List.mem_map.mp hs2
      simp! only [gDGet, rfK_r, keyK, keyD, dkK_B, dkv_get hD.nd hj, sp_sum_of]
      refine ⟨_, nameParts s' T, rfl, ⟨?_, step_frb (a := a) (fun p hpm => ?_) ?_⟩, by decide, hk'⟩
      · show cellK _ _ _
        rw [cell_C (hD.cell _ hj)]
      · exact hT _ (np_mem hpm).1
      · exact Nat.le_trans (Nat.mul_le_mul_left _ (Nat.succ_le_succ (np_len s' T))) hsz
    · have ep : (ys.map fun s => pairD (s, sumQ (nameParts s T))) = (pairsOf ys T).map pairD := by unfold pairsOf; rw [List.map_map]; rfl
      rw [ep]
      exact ⟨⟨_, rfl⟩, low_pairsF _, by have := hk ys hK; rw [hB]; exact this⟩
  · rintro z xs ρ w' ⟨dn, ts, Dn, Cs, x2, x3, h1, h2, rfl, rfl, hD⟩
    cases ts with
    | nil => cases h2
    | cons q ts =>
      rw [List.map_cons] at h2
      injection h2 with h2 h2'
      subst h2
      subst h2'
      obtain ⟨s, p⟩ := q
      have hq := hT (s, p) (by rw [h1]; simp)
      refine ⟨hBc _ _, ?_⟩
      simp! only [pair_tup, sp_is_less]
      refine ⟨by decide, (0, 1), p, rfl, ⟨Lt2.mono (a := 1) ⟨by decide, by decide⟩ (by decide), hq.2.mono ha4⟩, ?_⟩
      have el : lessQ (0, 1) p = decide (0 < p.1) := by
        unfold lessQ
        rw [Int.zero_mul, Int.mul_one]
      rw [el]
      have hlen := hD.len
      have hdn : dn.length ≤ 60 := by
        have : T.length = dn.length + (ts.length + 1) := by rw [h1]; simp
        omega
      refine ite2 (fun hp => ?_) (fun hp => ?_)
      · have hp : 0 < p.1 := of_decide_eq_true hp
        simp! only [gDSetd, rfK_r, dkK_B]
        have eC : ∀ c : Cell, B ++ Cell.dk (dkv B.length Dn) :: Cs ++ [c] = B ++ Cell.dk (dkv B.length Dn) :: (Cs ++ [c]) := fun c => by rw [List.append_assoc]; rfl
        have eN : (B ++ Cell.dk (dkv B.length Dn) :: Cs).length = B.length + 1 + Cs.length := by rw [List.length_append, List.length_cons]; omega
        rw [eC, eN]
        simp! only [keyK, keyD, dkK_B]
        refine ⟨by decide, by unfold dkv; rw [List.length_map]; exact lt_sl (by omega), ?_⟩
        by_cases hs : s ∈ Dn.map Prod.fst
        · obtain ⟨⟨s', j⟩, hj, rfl⟩ := List.mem_map.mp hs
          rw [dkv_get hD.nd hj]
          have hjl : j < Cs.length := (List.getElem?_eq_some_iff.mp (hD.cell _ hj)).1
          have hc : (Cs ++ [Cell.lst []])[j]? = some (.lst ((nameParts s' dn).map fD)) := by rw [List.getElem?_append_left hjl]; exact hD.cell _ hj
          refine ⟨?_, ?_⟩
          · unfold isTy
            simp only [atC, hc]
          · show cellK _ _ _
            rw [cell_C hc]
            refine ⟨lt_sl (by rw [List.length_map]; have := np_len s' dn; omega), dn ++ [(s', p)], ts, Dn, _, _, _, by rw [h1]; simp, rfl, rfl, ?_, hD.old hp hj⟩
            simp only [setC]
        · rw [dkv_none hs]
          simp only [setB, dkv_put hs]
          have hc : (Cs ++ [Cell.lst []])[Cs.length]? = some (.lst []) := by simp
          refine ⟨?_, ?_⟩
          · unfold isTy
            simp only [atC, hc]
          · show cellK _ _ _
            rw [cell_C hc]
            refine ⟨by decide, dn ++ [(s, p)], ts, Dn ++ [(s, Cs.length)], Cs ++ [.lst [fD p]], _, _, by rw [h1]; simp, rfl, rfl, ?_, hD.new hp hs⟩
            simp only [setC]
            rw [show (Cs ++ [Cell.lst []]).set Cs.length (Cell.lst ([] ++ [fD p])) = Cs ++ [.lst [fD p]] by rw [new_set]; rfl]
      · have hp : ¬ 0 < p.1 := fun z => hp (decide_eq_true z)
        exact ⟨dn ++ [(s, p)], ts, Dn, Cs, _, _, by rw [h1]; simp, rfl, rfl, rfl, hD.skip hp⟩
theorem ok_Parting_pairs {P : Program} {w : World} {K : PySem.W.Frag} {mg : Str → Option Value} {base : Heap} {C_Parting : Addr} (CL_Parting : ClsAt K mg "Parting" C_Parting ["told", "rest"]) (F_is_less : FnAt P w K mg base CX0 1 "is_less" 2 sp_is_less) (F_sum_of : FnAt P w K mg base CX0 3 "sum_of" 1 sp_sum_of) (T : MethAt K C_Parting "pairs" "Parting.pairs" s_Parting_pairs ["self"]) (B : Blt mg) : MtAt P w K mg base CX0 4 C_Parting "pairs" 1 (sp_Parting_pairs C_Parting) := (w_Parting_pairs CL_Parting F_is_less F_sum_of T B).trunc.imp (v_Parting_pairs C_Parting)


end LW

namespace LW
open PySem PySem.Spec PyProof.Rows L2 RZ DL
local macro_rules | `(tactic| simp! only [$xs,*] $[$loc]?) => `(tactic| simp only [$xs,*, sem0,List.map_cons,List.map_nil,List.length_cons,List.length_nil,gSeq,gNext,gRet,gRetN,gIfS,gSet,gPar,gAsg,gDrop,gVar,gC,gBin,gUn,gB,gTru,gAnd,gOr,gNot,gAndV,gOrV,gNotV,gIf,gChain,gaNil,gaCons,DL.gTup,DL.gLst,gCB,gCall0,gAug,addD_i,addD_s,addD_l,addD_t,subD_i,mulD_i,mulD_l,fdivD_i,modD_i,powD_i,ltD_i,ltD_s,leD_i,gtD_i,geD_i,isD_n,isnotD_n,isNonD_non,isNonD_bl,isNonD_int,isNonD_str,isNonD_lst,isNonD_tup,negD_i,iaddD_i,truD_non,truD_bl,truD_int,truD_str,truD_lst,truD_tup,someK_some,ixD_l,ixD_t,fAbs_i,fInt_i,fInt_b,fMin2_i,fLen_l,fLen_t,fLen_s,fList_l,fList_t,fTuple_l,fTuple_t,optBK_some,fIsi_non,fIsi_bl,fIsi_int,fIsi_str,fIsi_lst,fIsi_tup,List.getElem?_cons_zero,List.getElem?_cons_succ,List.set_cons_zero,List.set_cons_succ,DL.ggName,ggNil0,ggCons1,ggTup2,ggTup3,gFor,giSeq,gLc,gYes,wipeR,true_and,and_true,at_0,at_1,at_2,kit_int_int,kit_bool_int,kit_str_int,kit_non_int,kit_list_int,kit_tuple_int,kit_int_bool,kit_bool_bool,kit_str_bool,kit_non_bool,kit_list_bool,kit_tuple_bool,kit_int_str,kit_bool_str,kit_str_str,kit_non_str,kit_list_str,kit_tuple_str,kit_int_list,kit_bool_list,kit_str_list,kit_non_list,kit_list_list,kit_tuple_list,kit_int_tuple,kit_bool_tuple,kit_str_tuple,kit_non_tuple,kit_list_tuple,kit_tuple_tuple,eqD_i,neD_i,eqD_s,neD_s,eqD_f,neD_f,Nat.zero_add,Nat.reduceAdd,nc0,nc1,nc2,nc3,nc4,nc5,nc6,nc7,nc8,nc9,eq_self,decide_true,decide_false,Int.reduceEq,Int.reduceLT,Int.reduceLE,Int.reduceNeg,Bool.not_true,Bool.not_false,Bool.false_eq_true,if_true,if_false,↓reduceIte,false_and,and_false,List.all_cons,List.all_nil,List.any_cons,List.any_nil,id_eq,Bool.and_true,Bool.true_and,Bool.or_false,Bool.false_or,Bool.and_false,Bool.false_and,gCut,eqD_b,neD_b,giZip,reduceCtorEq,Bool.true_eq_false,Bool.false_eq_true,gRevL,gSl,goNone,goSome,slD_l,ne_eq,not_false_eq_true,not_true_eq_false,gBM,isTy_l,isTy_s,new_at,new_set,isTy_new,cellK_new,append_new,popAt_new,gFrz_eq,frzK_new,fLen_new,fTuple_new,ixD_new,slA_l,slA_t,slA_new,addTD_t,addCD_l,mulCD_l,isbD_b,isnotbD_b,mSplitC_s,gLstC,gTr,ggSub,lstK_l,lstK_r,addLD_eq] $[$loc]?)



theorem tell_ok {rs : List Row} {u : Int} (h : ∀ r ∈ rs, RowOk r) (hl : rs.length ≤ 8) : (∀ x ∈ tellP rs u, Fr x.2 ∧ Lt2 343 x.2) ∧ (tellP rs u).length ≤ 8 := by
  obtain ⟨f0, l0⟩ := rest0_ok (u := u) h hl
  obtain ⟨f1, l1, h1⟩ := lefts_ok (m := 8) h f0 l0 hl
  constructor
  · intro x hx
    rcases List.mem_append.mp hx with hx | hx
    · rcases List.mem_append.mp hx with hx | hx
      · have := told0_ok (u := u) h x.2 (List.mem_map.mpr ⟨x, hx, rfl⟩)
        exact ⟨this.1, this.2.mono (by decide)⟩
      · exact ⟨(h1 x hx).1, (h1 x hx).2.mono (by decide)⟩
    · obtain ⟨y, hy, rfl⟩ := List.mem_map.mp hx
      have hL : ∀ z ∈ lenRows rs, IsLen z := fun z hz => by
        obtain ⟨g1, g2⟩ := flt_mem hz
        obtain ⟨s, l, rfl⟩ := kind_len g2
        exact ⟨s, l, rfl, (h _ g1).1, (h _ g1).2⟩
      obtain ⟨s, l, rfl, g1, g2⟩ := hL y hy
      obtain ⟨c1, c2⟩ := tot_bd hL
      have ll := flt_len rs "length"
      have lpos : 0 < (lenRows rs).length := List.length_pos_of_mem hy
      have ll : (lenRows rs).length ≤ rs.length := ll
      have e0 : totR (lenRows rs) ≠ 0 := by omega
      have p1 := f1.pos
      have b0 : (leftsP rs (rest0 rs u)).2.2 * totR (lenRows rs) ≠ 0 := Int.mul_ne_zero (by omega) e0
      have lt : (totR (lenRows rs)).natAbs < 2 ^ 13 := Nat.lt_of_le_of_lt (show (totR (lenRows rs)).natAbs ≤ 8000 by omega) (by decide)
      have lr : Lt2 330 (leftsP rs (rest0 rs u)).2 := l1.mono (by decide)
      exact ⟨fr_norm b0, norm_lt (a := 343) b0 (wide_lt (b := 13) lr.1 (Nat.lt_of_le_of_lt (show l.natAbs ≤ 8000 by omega) (by decide))) (wide_lt lr.2 lt)⟩
  · have := tell_len (u := u) rs (rest0 rs u)
    unfold tellP told0
    rw [List.length_append, List.length_append, List.length_append]
    have e : (lensE (leftsP rs (rest0 rs u)).2 (totR (lenRows rs)) (lenRows rs)).length = (lenRows rs).length := by unfold lensE; rw [List.length_map]
    rw [e]
    omega
def sp_parts_at : GF := fun ds w _ k => ∃ (rs : List Row) (u : Int), ds = [.tup (rs.map rowD), .int u] ∧ RowsOk rs 8 ∧ ∀ ys, IsKeys (tellP rs u) ys → k (.lst ((pairsOf ys (tellP rs u)).map pairD)) w
abbrev s_parts_at : Stmt := topS 26
theorem sc_parts_at : FnScope ["rows", "unit"] ["rows", "unit"] (defScope s_parts_at) := ⟨rfl, rfl, rfl, by decide +kernel, rfl, by decide +kernel, by decide +kernel⟩
def g_parts_at (C_Parting : Addr) : GS := (gRet (gMeth C_Parting 1 (sp_Parting_pairs C_Parting) "pairs" (gMake C_Parting 3 (sp_Parting___init__ C_Parting) (gaCons (gVar 0) (gaCons (gVar 1) gaNil))) gaNil))
theorem w_parts_at {P : Program} {w : World} {K : PySem.W.Frag} {mg : Str → Option Value} {base : Heap} (T : DefAt K mg "parts_at" s_parts_at ["rows", "unit"]) (B : Blt mg) {C_Parting : Addr} (CL_Parting : ClsAt K mg "Parting" C_Parting ["told", "rest"]) (F_Parting_pairs : MtAt P w K mg base CX0 4 C_Parting "pairs" 1 (sp_Parting_pairs C_Parting)) (F_Parting___init__ : InAt P w K mg base CX0 6 C_Parting 3 (sp_Parting___init__ C_Parting)) : FnAt P w K mg base CX0 8 "parts_at" 2 (sem0 2 (g_parts_at C_Parting)) := by
  have nd := sc_parts_at.nd
  exact T.fn0 sc_parts_at (fun f cdv A outer s H E hr => (dss_one (ds_ret (de_meth0 CL_Parting F_Parting_pairs hr (de_make CL_Parting F_Parting___init__ hr (by rfl) (da_cons (de_var 0) (da_cons (de_var 1) da_nil))) (by decide) (by rfl)))))

theorem v_parts_at (C : Addr) : ∀ ds w kx k, sp_parts_at ds w kx k → gTr (sem0 2 (g_parts_at C)) ds w kx k := by
  rintro ds w kx k ⟨rs, u, rfl, hr, hk⟩
  have e : rho 2 [D.tup (rs.map rowD), D.int u] = [some (.tup (rs.map rowD)), some (.int u)] := rfl
  obtain ⟨t1, t2⟩ := tell_ok (u := u) hr.ok hr.len
  simp! only [g_parts_at, e, gMeth, gMake, rfK_r, sp_Parting___init__]
  refine ⟨w.M, w.n, rs, u, rfl, rfl, hr, ?_⟩
  simp! only [PI, insK20, look_pairs, rfK_r]
  exact ⟨w.M, w.n, tellP rs u, restP rs u, 343, rfl, rfl, ⟨t1, by decide, Nat.le_trans (Nat.mul_le_mul_left _ (Nat.succ_le_succ t2)) (by decide), by omega⟩, fun ys hys => ⟨⟨_, rfl⟩, low_pairsF _, hk ys hys⟩⟩
theorem ok_parts_at {P : Program} {w : World} {K : PySem.W.Frag} {mg : Str → Option Value} {base : Heap} (T : DefAt K mg "parts_at" s_parts_at ["rows", "unit"]) (B : Blt mg) {C_Parting : Addr} (CL_Parting : ClsAt K mg "Parting" C_Parting ["told", "rest"]) (F_Parting_pairs : MtAt P w K mg base CX0 4 C_Parting "pairs" 1 (sp_Parting_pairs C_Parting)) (F_Parting___init__ : InAt P w K mg base CX0 6 C_Parting 3 (sp_Parting___init__ C_Parting)) : FnAt P w K mg base CX0 8 "parts_at" 2 sp_parts_at := (w_parts_at T B CL_Parting F_Parting_pairs F_Parting___init__).trunc.imp (v_parts_at C_Parting)


def sp_waits_at : GF := fun ds w _ k => ∃ (rs : List Row) (u : Int), ds = [.tup (rs.map rowD), .int u] ∧ RowsOk rs 8 ∧ k (fD (restP rs u)) w
abbrev s_waits_at : Stmt := topS 27
theorem sc_waits_at : FnScope ["rows", "unit"] ["rows", "unit"] (defScope s_waits_at) := ⟨rfl, rfl, rfl, by decide +kernel, rfl, by decide +kernel, by decide +kernel⟩
def g_waits_at (C_Parting : Addr) : GS := (gRet (gFld C_Parting (gMake C_Parting 3 (sp_Parting___init__ C_Parting) (gaCons (gVar 0) (gaCons (gVar 1) gaNil))) "rest"))
theorem w_waits_at {P : Program} {w : World} {K : PySem.W.Frag} {mg : Str → Option Value} {base : Heap} (T : DefAt K mg "waits_at" s_waits_at ["rows", "unit"]) (B : Blt mg) {C_Parting : Addr} (CL_Parting : ClsAt K mg "Parting" C_Parting ["told", "rest"]) (F_Parting___init__ : InAt P w K mg base CX0 6 C_Parting 3 (sp_Parting___init__ C_Parting)) : FnAt P w K mg base CX0 8 "waits_at" 2 (sem0 2 (g_waits_at C_Parting)) := by
  have nd := sc_waits_at.nd
  exact T.fn0 sc_waits_at (fun f cdv A outer s H E hr => (dss_one (ds_ret (de_fld CL_Parting (by decide +kernel) (de_make CL_Parting F_Parting___init__ hr (by rfl) (da_cons (de_var 0) (da_cons (de_var 1) da_nil)))))))

theorem v_waits_at (C : Addr) : ∀ ds w kx k, sp_waits_at ds w kx k → gTr (sem0 2 (g_waits_at C)) ds w kx k := by
  rintro ds w kx k ⟨rs, u, rfl, hr, hk⟩
  have e : rho 2 [D.tup (rs.map rowD), D.int u] = [some (.tup (rs.map rowD)), some (.int u)] := rfl
  simp! only [g_waits_at, e, gFld, gMake, rfK_r, sp_Parting___init__]
  refine ⟨w.M, w.n, rs, u, rfl, rfl, hr, ?_⟩
  simp! only [PI, insK20, look_rest, rfK_r]
  exact ⟨⟨_, rfl⟩, rfl, hk⟩
theorem ok_waits_at {P : Program} {w : World} {K : PySem.W.Frag} {mg : Str → Option Value} {base : Heap} (T : DefAt K mg "waits_at" s_waits_at ["rows", "unit"]) (B : Blt mg) {C_Parting : Addr} (CL_Parting : ClsAt K mg "Parting" C_Parting ["told", "rest"]) (F_Parting___init__ : InAt P w K mg base CX0 6 C_Parting 3 (sp_Parting___init__ C_Parting)) : FnAt P w K mg base CX0 8 "waits_at" 2 sp_waits_at := (w_waits_at T B CL_Parting F_Parting___init__).trunc.imp (v_waits_at C_Parting)


end LW

namespace LW
open PySem PySem.Spec PyProof.Rows L2 RZ DL



def vQ (p : Qp) : Rat := (p.1 : Rat) / (p.2 : Rat)
theorem ic_ne {b : Int} (h : b ≠ 0) : (b : Rat) ≠ 0 := by exact_mod_cast h
theorem ic_pos {b : Int} (h : 0 < b) : (0 : Rat) < (b : Rat) := by exact_mod_cast h
theorem vQ_norm {t b : Int} (h : b ≠ 0) : vQ (norm t b) = (t : Rat) / (b : Rat) := by
  have h1 : ((norm t b).2 : Rat) ≠ 0 := ic_ne (by have := (fr_norm (t := t) h).pos; omega)
  have h2 := ic_ne h
  have e : ((norm t b).1 : Rat) * b = t * (norm t b).2 := by exact_mod_cast norm_eq (t := t) h
  unfold vQ
  grind
theorem vQ_mul {x y : Qp} (hx : x.2 ≠ 0) (hy : y.2 ≠ 0) : vQ (mulQ x y) = vQ x * vQ y := by
  have h1 := ic_ne hx
  have h2 := ic_ne hy
  have e : vQ (mulQ x y) = ((x.1 * y.1 : Int) : Rat) / ((x.2 * y.2 : Int) : Rat) := vQ_norm (Int.mul_ne_zero hx hy)
  rw [e, Rat.intCast_mul, Rat.intCast_mul]
  unfold vQ
  grind
theorem Fr.ne {x : Qp} (h : Fr x) : x.2 ≠ 0 := by have := h.pos; omega
theorem vQ_sub {y x : Qp} (hy : Fr y) (hx : Fr x) : vQ (subQ y x) = vQ y - vQ x := by
  have h1 := ic_ne hx.ne
  have h2 := ic_ne hy.ne
  have e : vQ (subQ y x) = ((y.1 * x.2 - x.1 * y.2 : Int) : Rat) / ((x.2 * y.2 : Int) : Rat) := vQ_norm (Int.mul_ne_zero hx.ne hy.ne)
  rw [e, Rat.intCast_sub, Rat.intCast_mul, Rat.intCast_mul, Rat.intCast_mul]
  unfold vQ
  grind
theorem fr_mul2 {x y : Qp} (hx : Fr x) (hy : Fr y) : Fr (mulQ x y) := fr_norm (Int.mul_ne_zero hx.ne hy.ne)
theorem fr_sub2 {y x : Qp} (hy : Fr y) (hx : Fr x) : Fr (subQ y x) := fr_norm (Int.mul_ne_zero hx.ne hy.ne)
def sumR (xs : List Qp) : Rat := (xs.map vQ).sum
theorem sumR_cons (x : Qp) (xs : List Qp) : sumR (x :: xs) = vQ x + sumR xs := List.sum_cons
theorem sumR_app (xs ys : List Qp) : sumR (xs ++ ys) = sumR xs + sumR ys := by
  induction xs with
  | nil =>
    show sumR ys = 0 + sumR ys
    grind
  | cons x xs ih =>
    rw [List.cons_append, sumR_cons, sumR_cons, ih]
    grind
theorem ntpb : ∀ {xs : List Qp}, (∀ x ∈ xs, Fr x) → (Nt xs : Rat) / (Pb xs : Rat) = sumR xs
  | [], _ => by
    show ((0 : Int) : Rat) / ((1 : Int) : Rat) = 0
    grind
  | x :: xs, h => by
    have hx := h x List.mem_cons_self
    have hs : ∀ y ∈ xs, Fr y := fun y hy => h y (List.mem_cons_of_mem _ hy)
    have ih := ntpb hs
    have h1 := ic_ne hx.ne
    have h2 := ic_ne (Pb_ne hs)
    rw [sumR_cons, ← ih]
    show ((x.1 * Pb xs + x.2 * Nt xs : Int) : Rat) / ((x.2 * Pb xs : Int) : Rat) = vQ x + _
    rw [Rat.intCast_add, Rat.intCast_mul, Rat.intCast_mul, Rat.intCast_mul]
    unfold vQ
    grind
theorem vQ_sum {xs : List Qp} (h : ∀ x ∈ xs, Fr x) : vQ (sumQ xs) = sumR xs := by
  rw [← ntpb h]
  exact vQ_norm (Pb_ne h)
theorem vQ_inj {x y : Qp} (hx : Fr x) (hy : Fr y) (h : vQ x = vQ y) : x = y := by
  refine fr_inj hx hy ?_
  have h1 := ic_ne hx.ne
  have h2 := ic_ne hy.ne
  unfold vQ at h
  have : (x.1 : Rat) * y.2 = y.1 * x.2 := by grind
  exact_mod_cast this
theorem vQ_le {x y : Qp} (hx : 0 < x.2) (hy : 0 < y.2) : vQ x ≤ vQ y ↔ x.1 * y.2 ≤ y.1 * x.2 := by
  have h1 := ic_pos hx
  have h2 := ic_pos hy
  have h3 : (0 : Rat) < (x.2 : Rat) * y.2 := Rat.mul_pos h1 h2
  have e1 : vQ x * ((x.2 : Rat) * y.2) = ((x.1 * y.2 : Int) : Rat) := by
    rw [Rat.intCast_mul]
    unfold vQ
    grind
  have e2 : vQ y * ((x.2 : Rat) * y.2) = ((y.1 * x.2 : Int) : Rat) := by
    rw [Rat.intCast_mul]
    unfold vQ
    grind
  constructor
  · intro h
    have := Rat.mul_le_mul_of_nonneg_right h (Rat.le_of_lt h3)
    rw [e1, e2] at this
    exact Rat.intCast_le_intCast.mp this
  · intro h
    refine Rat.le_of_mul_le_mul_right ?_ h3
    rw [e1, e2]
    exact Rat.intCast_le_intCast.mpr h
theorem vQ0 : vQ (0, 1) = 0 := by
  show ((0 : Int) : Rat) / ((1 : Int) : Rat) = 0
  grind
theorem vQ1 : vQ (1, 1) = 1 := by
  show ((1 : Int) : Rat) / ((1 : Int) : Rat) = 1
  grind
theorem vQ_nn {x : Qp} (hx : 0 < x.2) : 0 ≤ vQ x ↔ 0 ≤ x.1 := by
  have := vQ_le (x := (0, 1)) (y := x) (by decide) hx
  rw [vQ0] at this
  rw [this, Int.zero_mul, Int.mul_one]
theorem vQ_np {x : Qp} (hx : 0 < x.2) : vQ x ≤ 0 ↔ x.1 ≤ 0 := by
  have := vQ_le (y := (0, 1)) (x := x) hx (by decide)
  rw [vQ0] at this
  rw [this, Int.zero_mul, Int.mul_one]
theorem vQ_pos {x : Qp} (hx : 0 < x.2) : 0 < vQ x ↔ 0 < x.1 := by
  have := vQ_np hx
  rw [← Rat.not_le, this]
  omega
theorem vQ_le1 {x : Qp} (hx : 0 < x.2) : vQ x ≤ 1 ↔ x.1 ≤ x.2 := by
  have := vQ_le (y := (1, 1)) (x := x) hx (by decide)
  rw [vQ1] at this
  rw [this, Int.one_mul, Int.mul_one]
theorem vQ_zero {x : Qp} (hx : Fr x) : vQ x = 0 ↔ x = (0, 1) := ⟨fun h => vQ_inj hx ⟨by decide, by decide⟩ (h.trans vQ0.symm), fun h => by rw [h, vQ0]⟩
def IntQ (D : Int) (x : Rat) : Prop := ∃ t : Int, x * (D : Rat) = (t : Rat)
section
variable {D E : Int} {x y : Rat} {p : Qp}
theorem IntQ.add (hx : IntQ D x) (hy : IntQ D y) : IntQ D (x + y) := by
  obtain ⟨a, ha⟩ := hx
  obtain ⟨b, hb⟩ := hy
  exact ⟨a + b, by rw [Rat.intCast_add]; grind⟩
theorem IntQ.sub (hx : IntQ D x) (hy : IntQ D y) : IntQ D (x - y) := by
  obtain ⟨a, ha⟩ := hx
  obtain ⟨b, hb⟩ := hy
  exact ⟨a - b, by rw [Rat.intCast_sub]; grind⟩
theorem IntQ.neg (hx : IntQ D x) : IntQ D (-x) := by
  obtain ⟨a, ha⟩ := hx
  exact ⟨-a, by rw [Rat.intCast_neg]; grind⟩
theorem IntQ.mul (hx : IntQ D x) (hy : IntQ E y) : IntQ (D * E) (x * y) := by
  obtain ⟨a, ha⟩ := hx
  obtain ⟨b, hb⟩ := hy
  exact ⟨a * b, by rw [Rat.intCast_mul, Rat.intCast_mul, ← ha, ← hb]; grind⟩
theorem IntQ.zero : IntQ D 0 := ⟨0, by rw [Rat.zero_mul]; rfl⟩
theorem IntQ.one : IntQ D 1 := ⟨D, by rw [Rat.one_mul]⟩
theorem IntQ.int (n : Int) : IntQ D (n : Rat) := ⟨n * D, by rw [Rat.intCast_mul]⟩
theorem IntQ.up (hx : IntQ D x) (h : D ∣ E) : IntQ E x := by
  obtain ⟨a, ha⟩ := hx
  obtain ⟨c, rfl⟩ := h
  exact ⟨a * c, by rw [Rat.intCast_mul, Rat.intCast_mul, ← ha]; grind⟩
theorem IntQ.of (h : 0 < p.2) : IntQ p.2 (vQ p) := ⟨p.1, by have := ic_ne (show p.2 ≠ 0 by omega); unfold vQ; grind⟩
theorem intQ_sum {xs : List Qp} (h : ∀ x ∈ xs, IntQ D (vQ x)) : IntQ D (sumR xs) := by
  induction xs with
  | nil => exact IntQ.zero
  | cons x xs ih =>
    rw [sumR_cons]
    exact (h x List.mem_cons_self).add (ih fun y hy => h y (List.mem_cons_of_mem _ hy))
theorem IntQ.dvd (h : IntQ D (vQ p)) (hp : Fr p) : p.2 ∣ D := by
  obtain ⟨t, e⟩ := h
  have h1 := ic_ne hp.ne
  unfold vQ at e
  have e2 : (p.1 : Rat) * D = t * p.2 := by grind
  have e3 : p.1 * D = t * p.2 := by exact_mod_cast e2
  exact dvd_cop (q := p.2) (p := p.1) ⟨t, by rw [e3, Int.mul_comm]⟩ (by rw [Int.gcd_comm]; exact hp.cop)
theorem IntQ.lt2 {n : Nat} (h : IntQ D (vQ p)) (hp : Fr p) (h0 : 0 < D) (hD : D < 2 ^ n) (b0 : 0 ≤ vQ p) (b1 : vQ p ≤ 1) : Lt2 n p := by
  have h1 := Int.le_of_dvd h0 (h.dvd hp)
  have h2 := hp.pos
  have h3 := (vQ_nn h2).mp b0
  have h4 := (vQ_le1 h2).mp b1
  have h5 : (2 : Int) ^ n = ((2 ^ n : Nat) : Int) := by norm_cast
  constructor
  · omega
  · omega
end
theorem sumR_nn {xs : List Qp} (h : ∀ x ∈ xs, 0 ≤ vQ x) : 0 ≤ sumR xs := by
  induction xs with
  | nil => exact Rat.le_refl
  | cons x xs ih =>
    rw [sumR_cons]
    have := h x List.mem_cons_self
    have := ih fun y hy => h y (List.mem_cons_of_mem _ hy)
    grind

end LW

namespace LW
open PySem PySem.Spec PyProof.Rows L2 RZ DL



theorem great_ge : ∀ {rs : List Rate} {g : Qp}, (∀ r ∈ rs, Part r.2) → Pt0 g → vQ g ≤ vQ (great rs g) ∧ ∀ r ∈ rs, vQ r.2 ≤ vQ (great rs g)
  | [], g, _, _ => ⟨Rat.le_refl, fun r hr => nomatch hr⟩
  | r :: rs, g, hr, hg => by
    have h1 := hr r List.mem_cons_self
    have h2 : ∀ x ∈ rs, Part x.2 := fun x hx => hr x (List.mem_cons_of_mem _ hx)
    have p1 := h1.fr.pos
    have p2 := hg.fr.pos
    rw [great_cons]
    by_cases h : g.1 * r.2.2 < r.2.1 * g.2
    · rw [if_pos h]
      obtain ⟨a, b⟩ := great_ge h2 h1.pt0
      have : vQ g ≤ vQ r.2 := (vQ_le p2 p1).mpr (Int.le_of_lt h)
      refine ⟨Rat.le_trans this a, fun x hx => ?_⟩
      rcases List.mem_cons.mp hx with rfl | hx
      · exact a
      · exact b x hx
    · rw [if_neg h]
      obtain ⟨a, b⟩ := great_ge h2 hg
      have : vQ r.2 ≤ vQ g := (vQ_le p1 p2).mpr (by omega)
      refine ⟨a, fun x hx => ?_⟩
      rcases List.mem_cons.mp hx with rfl | hx
      · exact Rat.le_trans this a
      · exact b x hx
theorem partAt_in {u : Int} : ∀ {rs : List Rate}, (∃ q, (none, q) ∈ rs) → ∃ r ∈ rs, partAt rs u = r.2
  | [], ⟨_, h⟩ => nomatch h
  | (none, p) :: rs, _ => ⟨_, List.mem_cons_self, rfl⟩
  | (some up, p) :: rs, ⟨q, h⟩ => by
    by_cases hu : u < up
    · exact ⟨_, List.mem_cons_self, by show (if u < up then p else partAt rs u) = p; rw [if_pos hu]⟩
    · obtain ⟨r, hr, e⟩ := partAt_in (u := u) (rs := rs) ⟨q, by rcases List.mem_cons.mp h with h | h; cases h; exact h⟩
      exact ⟨r, List.mem_cons_of_mem _ hr, by show (if u < up then p else partAt rs u) = r.2; rw [if_neg hu]; exact e⟩
def denR (u : Int) : Row → Int
  | .of _ p => p.2
  | .steps _ qs => (partAt qs u).2
  | .left _ p => p.2
  | .length _ _ => 1
def denA (u : Int) : List Row → Int
  | [] => 1
  | .of _ p :: rs => p.2 * denA u rs
  | .steps _ qs :: rs => (partAt qs u).2 * denA u rs
  | _ :: rs => denA u rs
def denL : List Row → Int
  | [] => 1
  | .left _ p :: rs => p.2 * denL rs
  | _ :: rs => denL rs
def denP (u : Int) : List Row → Int
  | [] => 1
  | r :: rs => denR u r * denP u rs
theorem den_al (u : Int) : ∀ rs : List Row, denA u rs * denL rs = denP u rs
  | [] => rfl
  | .of n p :: rs => by
    show p.2 * denA u rs * denL rs = p.2 * denP u rs
    rw [Int.mul_assoc, den_al u rs]
  | .steps n qs :: rs => by
    show (partAt qs u).2 * denA u rs * denL rs = (partAt qs u).2 * denP u rs
    rw [Int.mul_assoc, den_al u rs]
  | .left n p :: rs => by
    show denA u rs * (p.2 * denL rs) = p.2 * denP u rs
    rw [← den_al u rs]
    ac_rfl
  | .length n m :: rs => by
    show denA u rs * denL rs = 1 * denP u rs
    rw [den_al u rs, Int.one_mul]
theorem pt_steps {n : Str} {qs : List Rate} (h : RowS (.steps n qs)) (u : Int) : Pt (partAt qs u) := by
  obtain ⟨r, hr, e⟩ := partAt_in (u := u) (ups_none h.2.2.2)
  rw [e]
  exact h.2.2.1 r hr
theorem denR_bd {u : Int} {r : Row} (h : RowS r) : 0 < denR u r ∧ denR u r ≤ 60 := by
  cases r with
  | of n p => exact ⟨(Pt.pt h).fr.pos, Pt.b h⟩
  | steps n qs => exact ⟨(pt_steps h u).pt.fr.pos, (pt_steps h u).b⟩
  | left n p => exact ⟨(Pt.pt h).fr.pos, Pt.b h⟩
  | length n m => exact ⟨by show (0 : Int) < 1; decide, by show (1 : Int) ≤ 60; decide⟩
theorem told_cons_of {n : Str} {p : Qp} {rs : List Row} {u : Int} : sumR ((told0 (.of n p :: rs) u).map Prod.snd) = vQ p + sumR ((told0 rs u).map Prod.snd) := by
  show sumR ((((n, p) :: rs.filterMap ofN) ++ rs.filterMap (stN u)).map Prod.snd) = _
  rw [List.cons_append, List.map_cons, sumR_cons]
  rfl
theorem told_cons_st {n : Str} {qs : List Rate} {rs : List Row} {u : Int} : sumR ((told0 (.steps n qs :: rs) u).map Prod.snd) = vQ (partAt qs u) + sumR ((told0 rs u).map Prod.snd) := by
  show sumR ((rs.filterMap ofN ++ ((n, partAt qs u) :: rs.filterMap (stN u))).map Prod.snd) = vQ (partAt qs u) + sumR ((rs.filterMap ofN ++ rs.filterMap (stN u)).map Prod.snd)
  rw [List.map_append, List.map_append, sumR_app, sumR_app, List.map_cons, sumR_cons]
  show _ + (vQ (partAt qs u) + _) = _
  grind
theorem parts_cons_st {n : Str} {qs : List Rate} {rs : List Row} : sumR (partsOf (.steps n qs :: rs)) = vQ (great qs (0, 1)) + sumR (partsOf rs) := by
  show sumR (ofs rs ++ great qs (0, 1) :: sts rs) = _ + sumR (ofs rs ++ sts rs)
  rw [sumR_app, sumR_app, sumR_cons]
  grind
theorem told_le {u : Int} : ∀ {rs : List Row}, (∀ r ∈ rs, RowS r) → sumR ((told0 rs u).map Prod.snd) ≤ sumR (partsOf rs)
  | [], _ => Rat.le_refl
  | .of n p :: rs, h => by
    rw [told_cons_of]
    have ih := told_le (u := u) fun x hx => h x (List.mem_cons_of_mem _ hx)
    show _ ≤ sumR (p :: (ofs rs ++ sts rs))
    rw [sumR_cons]
    show _ ≤ vQ p + sumR (partsOf rs)
    grind
  | .steps n qs :: rs, h => by
    rw [told_cons_st, parts_cons_st]
    have ih := told_le (u := u) fun x hx => h x (List.mem_cons_of_mem _ hx)
    have hs := h _ List.mem_cons_self
    obtain ⟨r, hr, e⟩ := partAt_in (u := u) (ups_none hs.2.2.2)
    have := (great_ge (fun x hx => (hs.2.2.1 x hx).pt) pt00).2 r hr
    rw [e]
    grind
  | .left n p :: rs, h => told_le (u := u) (rs := rs) fun x hx => h x (List.mem_cons_of_mem _ hx)
  | .length n m :: rs, h => told_le (u := u) (rs := rs) fun x hx => h x (List.mem_cons_of_mem _ hx)
theorem parts_le1 {rs : List Row} (h : ∀ r ∈ rs, RowS r) (hw : RowsW rs 60) : sumR (partsOf rs) ≤ 1 := by
  have hf : ∀ p ∈ partsOf rs, Fr p := fun p hp => (partsOf_ok (fun r hr => (h r hr).ok) p hp).1
  have h1 := rowsW_le (fun r hr => (h r hr).ok) hw
  have fs := fr_sum hf
  rw [← vQ_sum hf]
  rw [vQ_le1 fs.pos]
  omega
theorem told0_iq {u : Int} : ∀ {rs : List Row}, (∀ r ∈ rs, RowS r) → ∀ x ∈ told0 rs u, 0 ≤ vQ x.2 ∧ IntQ (denA u rs) (vQ x.2)
  | [], _, x, hx => nomatch hx
  | .of n p :: rs, h, x, hx => by
    have hp : Pt p := h _ List.mem_cons_self
    have ih := told0_iq (u := u) fun x hx => h x (List.mem_cons_of_mem _ hx)
    have hx : x ∈ (n, p) :: (rs.filterMap ofN ++ rs.filterMap (stN u)) := hx
    rcases List.mem_cons.mp hx with rfl | hx
    · exact ⟨(vQ_nn hp.pt.fr.pos).mpr (Int.le_of_lt hp.pt.pos), (IntQ.of hp.pt.fr.pos).up ⟨_, rfl⟩⟩
    · exact ⟨(ih x hx).1, (ih x hx).2.up ⟨p.2, Int.mul_comm _ _⟩⟩
  | .steps n qs :: rs, h, x, hx => by
    have hp : Pt (partAt qs u) := pt_steps (h _ List.mem_cons_self) u
    have ih := told0_iq (u := u) fun x hx => h x (List.mem_cons_of_mem _ hx)
    have hx : x ∈ rs.filterMap ofN ++ ((n, partAt qs u) :: rs.filterMap (stN u)) := hx
    have hx : x = (n, partAt qs u) ∨ x ∈ told0 rs u := by
      rcases List.mem_append.mp hx with hx | hx
      · exact .inr (List.mem_append_left _ hx)
      · rcases List.mem_cons.mp hx with hx | hx
        · exact .inl hx
        · exact .inr (List.mem_append_right _ hx)
    rcases hx with rfl | hx
    · exact ⟨(vQ_nn hp.pt.fr.pos).mpr (Int.le_of_lt hp.pt.pos), (IntQ.of hp.pt.fr.pos).up ⟨_, rfl⟩⟩
    · exact ⟨(ih x hx).1, (ih x hx).2.up ⟨(partAt qs u).2, Int.mul_comm _ _⟩⟩
  | .left n p :: rs, h, x, hx => told0_iq (u := u) (rs := rs) (fun x hx => h x (List.mem_cons_of_mem _ hx)) x hx
  | .length n m :: rs, h, x, hx => told0_iq (u := u) (rs := rs) (fun x hx => h x (List.mem_cons_of_mem _ hx)) x hx
structure TellR (T : Told) (r : Qp) (D : Int) (v : Rat) : Prop where
  fr : ∀ x ∈ T, Fr x.2
  nn : ∀ x ∈ T, 0 ≤ vQ x.2
  iq : ∀ x ∈ T, IntQ D (vQ x.2)
  rf : Fr r
  rn : 0 ≤ vQ r
  ri : IntQ D (vQ r)
  sm : sumR (T.map Prod.snd) + vQ r = v
theorem TellR.up {T : Told} {r : Qp} {D E : Int} {v : Rat} (h : TellR T r D v) (d : D ∣ E) : TellR T r E v := ⟨h.fr, h.nn, fun x hx => (h.iq x hx).up d, h.rf, h.rn, h.ri.up d, h.sm⟩
theorem rest_tell {rs : List Row} {u : Int} (h : ∀ r ∈ rs, RowS r) (hw : RowsW rs 60) : TellR (told0 rs u) (rest0 rs u) (denA u rs) 1 := by
  have h0 : ∀ r ∈ rs, RowOk r := fun r hr => (h r hr).ok
  have hF : ∀ p ∈ (told0 rs u).map Prod.snd, Fr p := fun p hp => (told0_ok (u := u) h0 p hp).1
  have i0 := told0_iq (u := u) h
  have fs := fr_sum hF
  have e : vQ (rest0 rs u) = 1 - sumR ((told0 rs u).map Prod.snd) := by
    unfold rest0
    rw [vQ_sub ⟨by decide, by decide⟩ fs, vQ1, vQ_sum hF]
  have l1 := told_le (u := u) h
  have l2 := parts_le1 h hw
  refine ⟨fun x hx => hF _ (List.mem_map.mpr ⟨x, hx, rfl⟩), fun x hx => (i0 x hx).1, fun x hx => (i0 x hx).2, fr_sub2 ⟨by decide, by decide⟩ fs, ?_, ?_, ?_⟩
  · rw [e]
    grind
  · rw [e]
    refine IntQ.one.sub (intQ_sum fun p hp => ?_)
    obtain ⟨x, hx, rfl⟩ := List.mem_map.mp hp
    exact (i0 x hx).2
  · rw [e]
    grind
theorem lefts_tell : ∀ {rs : List Row} {r : Qp} {A : Int}, (∀ x ∈ rs, RowS x) → Fr r → 0 ≤ vQ r → IntQ A (vQ r) → TellR (leftsP rs r).1 (leftsP rs r).2 (A * denL rs) (vQ r)
  | [], r, A, _, h1, h2, h3 => by
    refine ⟨(fun x hx => nomatch hx), (fun x hx => nomatch hx), (fun x hx => nomatch hx), h1, h2, h3.up ⟨1, rfl⟩, ?_⟩
    show (0 : Rat) + vQ r = vQ r
    grind
  | .left n p :: rs, r, A, h, h1, h2, h3 => by
    have hp : Pt p := h _ List.mem_cons_self
    have fp := hp.pt.fr
    have f1 := fr_mul2 h1 fp
    have f2 := fr_sub2 h1 f1
    have e1 : vQ (mulQ r p) = vQ r * vQ p := vQ_mul h1.ne fp.ne
    have e2 : vQ (subQ r (mulQ r p)) = vQ r - vQ r * vQ p := by rw [vQ_sub h1 f1, e1]
    have p0 := (vQ_nn fp.pos).mpr (Int.le_of_lt hp.pt.pos)
    have p1 := (vQ_le1 fp.pos).mpr hp.le
    have i1 : IntQ (A * p.2) (vQ r * vQ p) := h3.mul (IntQ.of fp.pos)
    have n1 : 0 ≤ vQ r * vQ p := Rat.mul_nonneg h2 p0
    have n2 : vQ r * vQ p ≤ vQ r * 1 := Rat.mul_le_mul_of_nonneg_left p1 h2
    have ih := lefts_tell (rs := rs) (r := subQ r (mulQ r p)) (A := A * p.2) (fun x hx => h x (List.mem_cons_of_mem _ hx)) f2 (by rw [e2]; grind) (by rw [e2]; exact (h3.up ⟨_, rfl⟩).sub i1)
    have ed : A * p.2 * denL rs = A * denL (.left n p :: rs) := by
      show _ = A * (p.2 * denL rs)
      rw [Int.mul_assoc]
    rw [ed] at ih
    refine ⟨fun x hx => ?_, fun x hx => ?_, fun x hx => ?_, ih.rf, ih.rn, ih.ri, ?_⟩
    · rcases List.mem_cons.mp hx with rfl | hx
      · exact f1
      · exact ih.fr x hx
    · rcases List.mem_cons.mp hx with rfl | hx
      · show 0 ≤ vQ (mulQ r p)
        rw [e1]
        exact n1
      · exact ih.nn x hx
    · rcases List.mem_cons.mp hx with rfl | hx
      · show IntQ _ (vQ (mulQ r p))
        rw [e1, ← ed]
        exact i1.up ⟨_, rfl⟩
      · exact ih.iq x hx
    · show sumR (mulQ r p :: ((leftsP rs (subQ r (mulQ r p))).1.map Prod.snd)) + vQ (leftsP rs (subQ r (mulQ r p))).2 = vQ r
      have := ih.sm
      rw [sumR_cons, e1]
      rw [e2] at this
      grind
  | .of n p :: rs, r, A, h, h1, h2, h3 => lefts_tell (rs := rs) (fun x hx => h x (List.mem_cons_of_mem _ hx)) h1 h2 h3
  | .steps n p :: rs, r, A, h, h1, h2, h3 => lefts_tell (rs := rs) (fun x hx => h x (List.mem_cons_of_mem _ hx)) h1 h2 h3
  | .length n p :: rs, r, A, h, h1, h2, h3 => lefts_tell (rs := rs) (fun x hx => h x (List.mem_cons_of_mem _ hx)) h1 h2 h3
theorem lensE_val {r : Qp} {e l : Int} {s : Str} (hr : Fr r) (he : e ≠ 0) : vQ (norm (r.1 * l) (r.2 * e)) = vQ r * ((l : Rat) / (e : Rat)) := by
  have h1 := ic_ne hr.ne
  have h2 := ic_ne he
  rw [vQ_norm (Int.mul_ne_zero hr.ne he), Rat.intCast_mul, Rat.intCast_mul]
  unfold vQ
  grind
theorem lens_sum {r : Qp} {e : Int} (hr : Fr r) (he : e ≠ 0) : ∀ rs : List Row, sumR ((lensE r e rs).map Prod.snd) = vQ r * ((totR rs : Rat) / (e : Rat))
  | [] => by
    show (0 : Rat) = vQ r * (((0 : Int) : Rat) / (e : Rat))
    have := ic_ne he
    grind
  | x :: rs => by
    have ih := lens_sum hr he rs
    show sumR (norm (r.1 * lenR x) (r.2 * e) :: (lensE r e rs).map Prod.snd) = _
    have e2 : totR (x :: rs) = lenR x + totR rs := by simp [totR]
    have := ic_ne he
    rw [sumR_cons, ih, lensE_val (s := nameR x) hr he, e2, Rat.intCast_add]
    grind
def denW (rs : List Row) (u : Int) : Int := denP u rs * (if lenRows rs = [] then 1 else totR (lenRows rs))
theorem parting_tell {rs : List Row} {u : Int} (h : ∀ r ∈ rs, RowS r) (hw : RowsW rs 60) : TellR (tellP rs u) (restP rs u) (denW rs u) 1 := by
  have h0 : ∀ r ∈ rs, RowOk r := fun r hr => (h r hr).ok
  have t1 := rest_tell (u := u) h hw
  have t2 := lefts_tell h t1.rf t1.rn t1.ri
  rw [den_al] at t2
  have t1' := t1.up (E := denP u rs) ⟨denL rs, (den_al u rs).symm⟩
  have hL : ∀ z ∈ lenRows rs, IsLen z := fun z hz => by
    obtain ⟨g1, g2⟩ := flt_mem hz
    obtain ⟨s, l, rfl⟩ := kind_len g2
    exact ⟨s, l, rfl, (h0 _ g1).1, (h0 _ g1).2⟩
  obtain ⟨c1, _⟩ := tot_bd hL
  by_cases hn : lenRows rs = []
  · have e1 : restP rs u = (leftsP rs (rest0 rs u)).2 := by unfold restP; rw [hn]; rfl
    have e2 : tellP rs u = told0 rs u ++ (leftsP rs (rest0 rs u)).1 := by unfold tellP; rw [hn]; exact List.append_nil _
    have e3 : denW rs u = denP u rs := by unfold denW; rw [if_pos hn, Int.mul_one]
    rw [e1, e2, e3]
    refine ⟨fun x hx => (List.mem_append.mp hx).elim (t1.fr x) (t2.fr x), fun x hx => (List.mem_append.mp hx).elim (t1.nn x) (t2.nn x), fun x hx => (List.mem_append.mp hx).elim (t1'.iq x) (t2.iq x), t2.rf, t2.rn, t2.ri, ?_⟩
    have a := t1.sm
    have b := t2.sm
    rw [List.map_append, sumR_app]
    grind
  · have hl : 0 < (lenRows rs).length := List.length_pos_iff.mpr hn
    have hp : 0 < totR (lenRows rs) := by omega
    have e1 : restP rs u = (0, 1) := by
      unfold restP
      cases e : lenRows rs with
      | nil => exact absurd e hn
      | cons a as => rfl
    have e3 : denW rs u = denP u rs * totR (lenRows rs) := by unfold denW; rw [if_neg hn]
    have hdv : denP u rs ∣ denW rs u := ⟨_, e3⟩
    have hT : totR (lenRows rs) ≠ 0 := by omega
    have hTr := ic_pos hp
    rw [e1]
    have t1d := t1'.up hdv
    have t2d := t2.up hdv
    have key : ∀ x ∈ lensE (leftsP rs (rest0 rs u)).2 (totR (lenRows rs)) (lenRows rs), Fr x.2 ∧ 0 ≤ vQ x.2 ∧ IntQ (denW rs u) (vQ x.2) := fun x hx => by
      obtain ⟨y, hy, rfl⟩ := List.mem_map.mp hx
      obtain ⟨s, l, rfl, l1, _⟩ := hL y hy
      have ev : vQ (norm ((leftsP rs (rest0 rs u)).2.1 * l) ((leftsP rs (rest0 rs u)).2.2 * totR (lenRows rs))) = vQ (leftsP rs (rest0 rs u)).2 * vQ (l, totR (lenRows rs)) := lensE_val (s := s) t2.rf hT
      refine ⟨fr_norm (Int.mul_ne_zero t2.rf.ne hT), ?_, ?_⟩
      · show 0 ≤ vQ (norm _ _)
        rw [show lenR (Row.length s l) = l from rfl, ev]
        exact Rat.mul_nonneg t2.rn ((vQ_nn hp).mpr (Int.le_of_lt l1))
      · show IntQ _ (vQ (norm _ _))
        rw [show lenR (Row.length s l) = l from rfl, ev, e3]
        exact t2.ri.mul (IntQ.of (p := (l, totR (lenRows rs))) hp)
    refine ⟨fun x hx => ?_, fun x hx => ?_, fun x hx => ?_, ⟨by decide, by decide⟩, by rw [vQ0]; exact Rat.le_refl, by rw [vQ0]; exact IntQ.zero, ?_⟩
    · rcases List.mem_append.mp hx with hx | hx
      · exact (List.mem_append.mp hx).elim (t1.fr x) (t2.fr x)
      · exact (key x hx).1
    · rcases List.mem_append.mp hx with hx | hx
      · exact (List.mem_append.mp hx).elim (t1.nn x) (t2.nn x)
      · exact (key x hx).2.1
    · rcases List.mem_append.mp hx with hx | hx
      · exact (List.mem_append.mp hx).elim (t1d.iq x) (t2d.iq x)
      · exact (key x hx).2.2
    · have a := t1.sm
      have b := t2.sm
      have c := lens_sum t2.rf hT (lenRows rs)
      have d : (totR (lenRows rs) : Rat) / (totR (lenRows rs) : Rat) = 1 := by grind
      rw [d] at c
      unfold tellP
      rw [List.map_append, List.map_append, sumR_app, sumR_app, c, vQ0]
      grind
end LW

namespace LW
open PySem PySem.Spec PyProof.Rows L2 RZ DL
local macro_rules | `(tactic| simp! only [$xs,*] $[$loc]?) => `(tactic| simp only [$xs,*, sem0,List.map_cons,List.map_nil,List.length_cons,List.length_nil,gSeq,gNext,gRet,gRetN,gIfS,gSet,gPar,gAsg,gDrop,gVar,gC,gBin,gUn,gB,gTru,gAnd,gOr,gNot,gAndV,gOrV,gNotV,gIf,gChain,gaNil,gaCons,DL.gTup,DL.gLst,gCB,gCall0,gAug,addD_i,addD_s,addD_l,addD_t,subD_i,mulD_i,mulD_l,fdivD_i,modD_i,powD_i,ltD_i,ltD_s,leD_i,gtD_i,geD_i,isD_n,isnotD_n,isNonD_non,isNonD_bl,isNonD_int,isNonD_str,isNonD_lst,isNonD_tup,negD_i,iaddD_i,truD_non,truD_bl,truD_int,truD_str,truD_lst,truD_tup,someK_some,ixD_l,ixD_t,fAbs_i,fInt_i,fInt_b,fMin2_i,fLen_l,fLen_t,fLen_s,fList_l,fList_t,fTuple_l,fTuple_t,optBK_some,fIsi_non,fIsi_bl,fIsi_int,fIsi_str,fIsi_lst,fIsi_tup,List.getElem?_cons_zero,List.getElem?_cons_succ,List.set_cons_zero,List.set_cons_succ,DL.ggName,ggNil0,ggCons1,ggTup2,ggTup3,gFor,giSeq,gLc,gYes,wipeR,true_and,and_true,at_0,at_1,at_2,kit_int_int,kit_bool_int,kit_str_int,kit_non_int,kit_list_int,kit_tuple_int,kit_int_bool,kit_bool_bool,kit_str_bool,kit_non_bool,kit_list_bool,kit_tuple_bool,kit_int_str,kit_bool_str,kit_str_str,kit_non_str,kit_list_str,kit_tuple_str,kit_int_list,kit_bool_list,kit_str_list,kit_non_list,kit_list_list,kit_tuple_list,kit_int_tuple,kit_bool_tuple,kit_str_tuple,kit_non_tuple,kit_list_tuple,kit_tuple_tuple,eqD_i,neD_i,eqD_s,neD_s,eqD_f,neD_f,Nat.zero_add,Nat.reduceAdd,nc0,nc1,nc2,nc3,nc4,nc5,nc6,nc7,nc8,nc9,eq_self,decide_true,decide_false,Int.reduceEq,Int.reduceLT,Int.reduceLE,Int.reduceNeg,Bool.not_true,Bool.not_false,Bool.false_eq_true,if_true,if_false,↓reduceIte,false_and,and_false,List.all_cons,List.all_nil,List.any_cons,List.any_nil,id_eq,Bool.and_true,Bool.true_and,Bool.or_false,Bool.false_or,Bool.and_false,Bool.false_and,gCut,eqD_b,neD_b,giZip,reduceCtorEq,Bool.true_eq_false,Bool.false_eq_true,gRevL,gSl,goNone,goSome,slD_l,ne_eq,not_false_eq_true,not_true_eq_false,gBM,isTy_l,isTy_s,new_at,new_set,isTy_new,cellK_new,append_new,popAt_new,gFrz_eq,frzK_new,fLen_new,fTuple_new,ixD_new,slA_l,slA_t,slA_new,addTD_t,addCD_l,mulCD_l,isbD_b,isnotbD_b,mSplitC_s,gLstC,gTr,ggSub,lstK_l,lstK_r,addLD_eq] $[$loc]?)



def Nm (s : Str) : Prop := (PyData.strOk s && decide (1 ≤ s.length) && decide (s.length ≤ 8) && s.cps.toList.all fun c => decide (97 ≤ c ∧ c ≤ 122)) = true
def sp_is_number : GF := fun ds w _ k => ∃ n a b : Int, ds = [.int n, .int a, .int b] ∧ (a ≤ n ∧ n ≤ b) ∧ k (.bl true) w
abbrev s_is_number : Stmt := topS 14
theorem sc_is_number : FnScope ["thing", "least", "most"] ["thing", "least", "most"] (defScope s_is_number) := ⟨rfl, rfl, rfl, by decide +kernel, rfl, by decide +kernel, by decide +kernel⟩
def g_is_number : GS := (gRet (gAndV (gCB fIsi (gaCons (gVar 0) (gaCons (gC (.ob (.ty "int"))) gaNil))) (gAndV (gNotV (gCB fIsi (gaCons (gVar 0) (gaCons (gC (.ob (.ty "bool"))) gaNil)))) (gChain leD leD (gVar 1) (gVar 0) (gVar 2)))))
theorem w_is_number {P : Program} {w : World} {K : PySem.W.Frag} {mg : Str → Option Value} {base : Heap} (T : DefAt K mg "is_number" s_is_number ["thing", "least", "most"]) (B : Blt mg) : FnAt P w K mg base CX0 1 "is_number" 3 (sem0 3 g_is_number) := by
  have nd := sc_is_number.nd
  exact T.fn0 sc_is_number (fun f cdv A outer s H E hr => (dss_one (ds_ret (de_and (de_isi B (by rfl) (da_cons (de_var 0) (da_cons (de_type (by rfl) B.int_ (by decide +kernel)) da_nil))) (de_and (de_not (de_isi B (by rfl) (da_cons (de_var 0) (da_cons (de_type (by rfl) B.bool_ (by decide +kernel)) da_nil)))) (de_one (de_chain op_le ok_leD op_le ok_leD (de_var 1) (de_var 0) (de_var 2))))))))

theorem v_is_number : ∀ ds w kx k, sp_is_number ds w kx k → sem0 3 g_is_number ds w kx k := by
  rintro ds w kx k ⟨n, a, b, rfl, ⟨h1, h2⟩, hk⟩
  have e : rho 3 [D.int n, D.int a, D.int b] = [some (.int n), some (.int a), some (.int b)] := rfl
  simp! only [g_is_number, e]
  rw [decide_eq_true h1]
  dsimp only
  rw [decide_eq_true h2]
  exact hk
theorem ok_is_number {P : Program} {w : World} {K : PySem.W.Frag} {mg : Str → Option Value} {base : Heap} (T : DefAt K mg "is_number" s_is_number ["thing", "least", "most"]) (B : Blt mg) : FnAt P w K mg base CX0 1 "is_number" 3 sp_is_number := (w_is_number T B ).imp v_is_number

theorem all_trues {α : Type} {l : List α} {w : Wd} {k : KD} (hk : k (.bl true) w) : fAll [.lst (l.map fun _ => D.bl true)] w k := by
  have e : ∀ l : List α, DL.allBl (l.map fun _ => D.bl true) = some (l.map fun _ => true) := fun l => by
    induction l with
    | nil => rfl
    | cons x l ih =>
      rw [List.map_cons, DL.allBl, ih]
      rfl
  unfold fAll
  simp only [e]
  have e2 : (l.map fun _ => true).all id = true := by simp
  rw [e2]
  exact hk
def sp_is_name : GF := fun ds w _ k => ∃ s : Str, ds = [.str s] ∧ Nm s ∧ k (.bl true) w
abbrev s_is_name : Stmt := topS 15
theorem sc_is_name : FnScope ["thing", "sign"] ["thing"] (defScope s_is_name) := ⟨rfl, rfl, rfl, by decide +kernel, rfl, by decide +kernel, by decide +kernel⟩
def g_is_name : GS := (gRet (gAndV (gCB fIsi (gaCons (gVar 0) (gaCons (gC (.ob (.ty "str"))) gaNil))) (gAndV (gChain leD leD (gC (.int 1)) (gCB fLen (gaCons (gVar 0) gaNil)) (gC (.int 8))) (gCB fAll (gaCons (gLc (giStr (gVar 0)) (ggName 1) gYes (gBin inSD (gVar 1) (gC (.str "abcdefghijklmnopqrstuvwxyz"))) [1]) gaNil)))))
theorem w_is_name {P : Program} {w : World} {K : PySem.W.Frag} {mg : Str → Option Value} {base : Heap} (T : DefAt K mg "is_name" s_is_name ["thing"]) (B : Blt mg) {t_LETTERS : Tok} (c_LETTERS : mg "LETTERS" = some (.str "abcdefghijklmnopqrstuvwxyz" t_LETTERS)) : FnAt P w K mg base CX0 1 "is_name" 1 (sem0 2 g_is_name) := by
  have nd := sc_is_name.nd
  exact T.fn0 sc_is_name (fun f cdv A outer s H E hr => (dss_one (ds_ret (de_and (de_isi B (by rfl) (da_cons (de_var 0) (da_cons (de_type (by rfl) B.str_ (by decide +kernel)) da_nil))) (de_and (de_chain op_le ok_leD op_le ok_leD de_int (de_len B (by rfl) (da_cons (de_var 0) da_nil)) de_int) (de_one (de_all B rfl (by rfl) (da_cons (de_lc (own := [("sign", 1)]) (us := [1]) rfl nd (di_str (de_var 0)) (blkOk_by (N := ["thing", "sign"]) (sc := defScope s_is_name) (by decide +kernel)) (by decide) (fun _ _ _ _ _ => (dg_name (i := 1) nd rfl (by first | exact Or.inl rfl | exact Or.inr rfl))) (fun _ _ _ _ _ => dts_nil) (fun _ _ _ _ _ => (de_inS (de_var 1) (de_gstr (by rfl) c_LETTERS)))) da_nil))))))))

theorem v_is_name : ∀ ds w kx k, sp_is_name ds w kx k → sem0 2 g_is_name ds w kx k := by
  rintro ds w kx k ⟨s, rfl, h, hk⟩
  have e : rho 2 [D.str s] = [some (.str s), none] := rfl
  unfold Nm at h
  simp only [Bool.and_eq_true, decide_eq_true_eq] at h
  obtain ⟨⟨⟨h1, h2⟩, h3⟩, h4⟩ := h
  simp! only [g_is_name, e, giStr, inSD]
  rw [decide_eq_true (show (1 : Int) ≤ (s.length : Int) by omega), decide_eq_true (show (s.length : Int) ≤ 8 by omega)]
  simp! only [id_eq]
  have hlet : ∀ c, c < 123 → 97 ≤ c → c ∈ ("abcdefghijklmnopqrstuvwxyz" : Str).cps.toList := by decide +kernel
  rw [List.all_eq_true] at h4
  refine ⟨lt_sl (by omega) |> Nat.le_of_lt, ?_⟩
  refine lc_ty (fun c => D.str ⟨#[c]⟩) (fun _ => D.bl true) s.cps.toList trivial (by
    have : s.cps.toList.length = s.length := Array.length_toList
    omega) (fun c hc k' hk' => ?_) ?_
  · have := of_decide_eq_true (h4 c hc)
    simp! only [inSD]
    exact ⟨c, rfl, by rw [decide_eq_true (hlet c (by omega) this.1)]; exact hk'⟩
  · refine all_trues ?_
    exact hk
theorem ok_is_name {P : Program} {w : World} {K : PySem.W.Frag} {mg : Str → Option Value} {base : Heap} (T : DefAt K mg "is_name" s_is_name ["thing"]) (B : Blt mg) {t_LETTERS : Tok} (c_LETTERS : mg "LETTERS" = some (.str "abcdefghijklmnopqrstuvwxyz" t_LETTERS)) : FnAt P w K mg base CX0 1 "is_name" 1 sp_is_name := (w_is_name T B  c_LETTERS).imp v_is_name

def sp_is_part : GF := fun ds w _ k => ∃ p : Qp, ds = [fD p] ∧ Pt p ∧ k (.bl true) w
abbrev s_is_part : Stmt := topS 16
theorem sc_is_part : FnScope ["thing"] ["thing"] (defScope s_is_part) := ⟨rfl, rfl, rfl, by decide +kernel, rfl, by decide +kernel, by decide +kernel⟩
def g_is_part : GS := (gSeq (gIfS (gOr (gNot (gTru (gCB fIsi (gaCons (gVar 0) (gaCons (gC (.ob (.ty "tuple"))) gaNil))))) (gB (gBin neD (gCB fLen (gaCons (gVar 0) gaNil)) (gC (.int 2))))) (gRet (gC (.bl false))) gNext)
  (gSeq (gIfS (gOr (gNot (gTru (gCall0 3 sp_is_number (gaCons (gBin ixD (gVar 0) (gC (.int 1))) (gaCons (gC (.int 1)) (gaCons (gC (.int (60))) gaNil)))))) (gNot (gTru (gCall0 3 sp_is_number (gaCons (gBin ixD (gVar 0) (gC (.int 0))) (gaCons (gC (.int 1)) (gaCons (gBin ixD (gVar 0) (gC (.int 1))) gaNil))))))) (gRet (gC (.bl false))) gNext)
  (gRet (gBin eqD (gCall0 2 sp_fraction_of (gaCons (gBin ixD (gVar 0) (gC (.int 0))) (gaCons (gBin ixD (gVar 0) (gC (.int 1))) gaNil))) (gVar 0)))))
theorem w_is_part {P : Program} {w : World} {K : PySem.W.Frag} {mg : Str → Option Value} {base : Heap} (T : DefAt K mg "is_part" s_is_part ["thing"]) (B : Blt mg) (F_fraction_of : FnAt P w K mg base CX0 2 "fraction_of" 2 sp_fraction_of) (F_is_number : FnAt P w K mg base CX0 1 "is_number" 3 sp_is_number) {t_MOST_BELOW : Tok} (c_MOST_BELOW : mg "MOST_BELOW" = some (.int (60) t_MOST_BELOW)) : FnAt P w K mg base CX0 3 "is_part" 1 (sem0 1 g_is_part) := by
  have nd := sc_is_part.nd
  exact T.fn0 sc_is_part (fun f cdv A outer s H E hr => (dss_cons (ds_if (dt_w (dw_or (dt_not (dt_truth (de_isi B (by rfl) (da_cons (de_var 0) (da_cons (de_type (by rfl) B.tuple_ (by decide +kernel)) da_nil))))) (dw_or1 (dt_ne hr (de_len B (by rfl) (da_cons (de_var 0) da_nil)) de_int)))) (dss_one (ds_ret de_bl)) dss_nil)
  (dss_cons (ds_if (dt_w (dw_or (dt_not (dt_truth (de_call0 F_is_number hr (by rfl) (da_cons (de_ix (de_var 0) de_int) (da_cons de_int (da_cons (de_gint (by rfl) c_MOST_BELOW) da_nil)))))) (dw_or1 (dt_not (dt_truth (de_call0 F_is_number hr (by rfl) (da_cons (de_ix (de_var 0) de_int) (da_cons de_int (da_cons (de_ix (de_var 0) de_int) da_nil))))))))) (dss_one (ds_ret de_bl)) dss_nil)
  (dss_one (ds_ret (de_eq hr (de_call0 F_fraction_of hr (by rfl) (da_cons (de_ix (de_var 0) de_int) (da_cons (de_ix (de_var 0) de_int) da_nil))) (de_var 0)))))))

theorem v_is_part : ∀ ds w kx k, sp_is_part ds w kx k → sem0 1 g_is_part ds w kx k := by
  rintro ds w kx k ⟨p, rfl, h, hk⟩
  have e : rho 1 [fD p] = [some (fD p)] := rfl
  simp! only [g_is_part, e, sp_is_number, sp_fraction_of, ixD_f0, ixD_f1, ggTup_f, fIsi_f, fLen_f, eqD_ff, neD_ff]
  have p0 := h.pt.fr.pos
  refine ⟨_, _, _, rfl, ⟨by omega, h.b⟩, _, _, _, rfl, ⟨by have := h.pt.pos; omega, h.le⟩, _, _, rfl, ⟨h.pt.fr.ne, small_big (by have := h.b; omega)⟩, ?_⟩
  rw [norm_of h.pt.fr.ne h.pt.fr rfl, decide_eq_true rfl]
  exact hk
theorem ok_is_part {P : Program} {w : World} {K : PySem.W.Frag} {mg : Str → Option Value} {base : Heap} (T : DefAt K mg "is_part" s_is_part ["thing"]) (B : Blt mg) (F_fraction_of : FnAt P w K mg base CX0 2 "fraction_of" 2 sp_fraction_of) (F_is_number : FnAt P w K mg base CX0 1 "is_number" 3 sp_is_number) {t_MOST_BELOW : Tok} (c_MOST_BELOW : mg "MOST_BELOW" = some (.int (60) t_MOST_BELOW)) : FnAt P w K mg base CX0 3 "is_part" 1 sp_is_part := (w_is_part T B F_fraction_of F_is_number c_MOST_BELOW).imp v_is_part

def sp_is_rate : GF := fun ds w _ k => ∃ (r : Rate) (a : Int) (b : Bool), ds = [rateD r, .int a, .bl b] ∧ (Pt r.2 ∧ (r.1 = none ∧ b = true ∨ ∃ u, r.1 = some u ∧ b = false ∧ a < u ∧ u ≤ 1000000)) ∧ k (.bl true) w
abbrev s_is_rate : Stmt := topS 17
theorem sc_is_rate : FnScope ["thing", "ahead", "is_last"] ["thing", "ahead", "is_last"] (defScope s_is_rate) := ⟨rfl, rfl, rfl, by decide +kernel, rfl, by decide +kernel, by decide +kernel⟩
def g_is_rate : GS := (gSeq (gIfS (gOr (gNot (gTru (gCB fIsi (gaCons (gVar 0) (gaCons (gC (.ob (.ty "tuple"))) gaNil))))) (gOr (gB (gBin neD (gCB fLen (gaCons (gVar 0) gaNil)) (gC (.int 2)))) (gNot (gTru (gCall0 1 sp_is_part (gaCons (gBin ixD (gVar 0) (gC (.int 1))) gaNil)))))) (gRet (gC (.bl false))) gNext)
  (gRet (gIf (gTru (gVar 2)) (gBin isD (gBin ixD (gVar 0) (gC (.int 0))) (gC .non)) (gCall0 3 sp_is_number (gaCons (gBin ixD (gVar 0) (gC (.int 0))) (gaCons (gBin addD (gVar 1) (gC (.int 1))) (gaCons (gC (.int (1000000))) gaNil)))))))
theorem w_is_rate {P : Program} {w : World} {K : PySem.W.Frag} {mg : Str → Option Value} {base : Heap} (T : DefAt K mg "is_rate" s_is_rate ["thing", "ahead", "is_last"]) (B : Blt mg) (F_is_number : FnAt P w K mg base CX0 1 "is_number" 3 sp_is_number) (F_is_part : FnAt P w K mg base CX0 3 "is_part" 1 sp_is_part) {t_MOST_UNITS : Tok} (c_MOST_UNITS : mg "MOST_UNITS" = some (.int (1000000) t_MOST_UNITS)) : FnAt P w K mg base CX0 4 "is_rate" 3 (sem0 3 g_is_rate) := by
  have nd := sc_is_rate.nd
  exact T.fn0 sc_is_rate (fun f cdv A outer s H E hr => (dss_cons (ds_if (dt_w (dw_or (dt_not (dt_truth (de_isi B (by rfl) (da_cons (de_var 0) (da_cons (de_type (by rfl) B.tuple_ (by decide +kernel)) da_nil))))) (dw_or (dt_ne hr (de_len B (by rfl) (da_cons (de_var 0) da_nil)) de_int) (dw_or1 (dt_not (dt_truth (de_call0 F_is_part hr (by rfl) (da_cons (de_ix (de_var 0) de_int) da_nil)))))))) (dss_one (ds_ret de_bl)) dss_nil)
  (dss_one (ds_ret (de_ifExp (dt_truth (de_var 2)) (de_is (de_ix (de_var 0) de_int) de_non) (de_call0 F_is_number hr (by rfl) (da_cons (de_ix (de_var 0) de_int) (da_cons (de_add (de_var 1) de_int) (da_cons (de_gint (by rfl) c_MOST_UNITS) da_nil)))))))))

theorem v_is_rate : ∀ ds w kx k, sp_is_rate ds w kx k → sem0 3 g_is_rate ds w kx k := by
  rintro ds w kx k ⟨⟨up, p⟩, a, b, rfl, ⟨hp, h⟩, hk⟩
  have e : rho 3 [rateD (up, p), D.int a, D.bl b] = [some (.tup [optD up, fD p]), some (.int a), some (.bl b)] := rfl
  simp! only [g_is_rate, e, sp_is_number, sp_is_part]
  refine ⟨p, rfl, hp, ?_⟩
  rcases h with ⟨h1, rfl⟩ | ⟨u, h1, rfl, h2, h3⟩
  · have h1 : up = none := h1
    subst h1
    simp! only [id_eq]
    exact hk
  · have h1 : up = some u := h1
    subst h1
    simp! only [id_eq]
    exact ⟨_, _, _, rfl, ⟨by omega, h3⟩, hk⟩
theorem ok_is_rate {P : Program} {w : World} {K : PySem.W.Frag} {mg : Str → Option Value} {base : Heap} (T : DefAt K mg "is_rate" s_is_rate ["thing", "ahead", "is_last"]) (B : Blt mg) (F_is_number : FnAt P w K mg base CX0 1 "is_number" 3 sp_is_number) (F_is_part : FnAt P w K mg base CX0 3 "is_part" 1 sp_is_part) {t_MOST_UNITS : Tok} (c_MOST_UNITS : mg "MOST_UNITS" = some (.int (1000000) t_MOST_UNITS)) : FnAt P w K mg base CX0 4 "is_rate" 3 sp_is_rate := (w_is_rate T B F_is_number F_is_part c_MOST_UNITS).imp v_is_rate

def sp_are_rates : GF := fun ds w _ k => ∃ rs : List Rate, ds = [.tup (rs.map rateD)] ∧ (2 ≤ rs.length ∧ rs.length ≤ 4 ∧ (∀ r ∈ rs, Pt r.2) ∧ Ups 0 rs) ∧ k (.bl true) w
abbrev s_are_rates : Stmt := topS 18
theorem sc_are_rates : FnScope ["thing", "ahead", "place", "rate"] ["thing"] (defScope s_are_rates) := ⟨rfl, rfl, rfl, by decide +kernel, rfl, by decide +kernel, by decide +kernel⟩
def g_are_rates : GS := (gSeq (gIfS (gOr (gNot (gTru (gCB fIsi (gaCons (gVar 0) (gaCons (gC (.ob (.ty "tuple"))) gaNil))))) (gNot (gB (gChain leD leD (gC (.int 2)) (gCB fLen (gaCons (gVar 0) gaNil)) (gC (.int 4)))))) (gRet (gC (.bl false))) gNext)
  (gSeq (gSet 1 (gC (.int 0)))
  (gSeq (gFor (giEnumT (gaCons (gVar 0) gaNil)) (ggTup 2 (ggCons (ggName 2) (ggCons (ggName 3) ggNil))) (gSeq (gIfS (gNot (gTru (gCall0 3 sp_is_rate (gaCons (gVar 3) (gaCons (gVar 1) (gaCons (gBin eqD (gVar 2) (gBin subD (gCB fLen (gaCons (gVar 0) gaNil)) (gC (.int 1)))) gaNil)))))) (gRet (gC (.bl false))) gNext)
  (gSet 1 (gBin ixD (gVar 3) (gC (.int 0))))))
  (gRet (gC (.bl true))))))
theorem w_are_rates {P : Program} {w : World} {K : PySem.W.Frag} {mg : Str → Option Value} {base : Heap} (T : DefAt K mg "are_rates" s_are_rates ["thing"]) (B : Blt mg) (F_is_rate : FnAt P w K mg base CX0 4 "is_rate" 3 sp_is_rate) : FnAt P w K mg base CX0 5 "are_rates" 1 (sem0 4 g_are_rates) := by
  have nd := sc_are_rates.nd
  exact T.fn0 sc_are_rates (fun f cdv A outer s H E hr => (dss_cons (ds_if (dt_w (dw_or (dt_not (dt_truth (de_isi B (by rfl) (da_cons (de_var 0) (da_cons (de_type (by rfl) B.tuple_ (by decide +kernel)) da_nil))))) (dw_or1 (dt_not (dt_chain op_le ok_leD op_le ok_leD de_int (de_len B (by rfl) (da_cons (de_var 0) da_nil)) de_int))))) (dss_one (ds_ret de_bl)) dss_nil)
  (dss_cons (ds_set (i := 1) nd rfl (by first | exact Or.inl rfl | exact Or.inr rfl) de_int)
  (dss_cons (ds_for PassesOwn.never rfl (di_enumT B (by rfl) (da_cons (de_var 0) da_nil)) (dg_tup rfl (dgs_cons (dg_name (i := 2) nd rfl (by first | exact Or.inl rfl | exact Or.inr rfl)) (dgs_cons (dg_name (i := 3) nd rfl (by first | exact Or.inl rfl | exact Or.inr rfl)) dgs_nil))) (dss_cons (ds_if (dt_not (dt_truth (de_call0 F_is_rate hr (by rfl) (da_cons (de_var 3) (da_cons (de_var 1) (da_cons (de_eq hr (de_var 2) (de_sub (de_len B (by rfl) (da_cons (de_var 0) da_nil)) de_int)) da_nil)))))) (dss_one (ds_ret de_bl)) dss_nil)
  (dss_one (ds_set (i := 1) nd rfl (by first | exact Or.inl rfl | exact Or.inr rfl) (de_ix (de_var 3) de_int)))))
  (dss_one (ds_ret de_bl))))))

theorem v_are_rates : ∀ ds w kx k, sp_are_rates ds w kx k → sem0 4 g_are_rates ds w kx k := by
  rintro ds w kx k ⟨rs, rfl, ⟨h2, h4, hp, hu⟩, hk⟩
  have e : rho 4 [D.tup (rs.map rateD)] = [some (.tup (rs.map rateD)), none, none, none] := rfl
  have hl : (rs.map rateD).length = rs.length := List.length_map _
  simp! only [g_are_rates, e, sp_is_rate, giEnum, hl]
  rw [decide_eq_true (show (2 : Int) ≤ (rs.length : Int) by omega), decide_eq_true (show (rs.length : Int) ≤ 4 by omega)]
  simp! only [giEnumT]
  refine ⟨fun items ρ w' => ∃ (j : Nat) (rest : List Rate) (a : D) (z2 z3 : Option D), items = enumD j (rest.map rateD) ∧ w' = w ∧ j + rest.length = rs.length ∧ (∀ r ∈ rest, Pt r.2) ∧ (rest = [] ∨ ∃ n : Int, a = .int n ∧ Ups n rest) ∧ ρ = [some (.tup (rs.map rateD)), some a, z2, z3], ⟨0, rs, .int 0, none, none, rfl, rfl, Nat.zero_add _, hp, .inr ⟨0, rfl, hu⟩, rfl⟩, ?_, ?_⟩
  · rintro ρ w' ⟨j, rest, a, z2, z3, h5, rfl, h6, h7, h8, rfl⟩
    refine ⟨trivial, ?_⟩
    simp! only [id_eq]
    exact hk
  · rintro z items ρ w' ⟨j, rest, a, z2, z3, h5, rfl, h6, h7, h8, rfl⟩
    cases rest with
    | nil => cases h5
    | cons r rest =>
      rw [List.map_cons] at h5
      injection h5 with h5 h9
      subst h5
      subst h9
      rw [List.length_cons] at h6
      obtain ⟨n, rfl, hun⟩ := h8.resolve_left (fun z => nomatch z)
      have er : rateD r = .tup [optD r.1, fD r.2] := rfl
      refine ⟨trivial, ?_⟩
      simp! only [sp_is_rate, hl]
      refine ⟨r, n, _, rfl, ⟨h7 r List.mem_cons_self, ?_⟩, ?_⟩
      · rcases hun with ⟨h1, h2⟩ | ⟨u, h1, h2, h3, h4'⟩
        · refine .inl ⟨h1, decide_eq_true ?_⟩
          rw [h2, List.length_nil] at h6
          omega
        · have : 0 < rest.length := by
            cases rest with
            | nil => exact h4'.elim
            | cons x xs => exact Nat.succ_pos _
          exact .inr ⟨u, h1, decide_eq_false (by omega), h2, h3⟩
      · simp! only [er]
        refine ⟨j + 1, rest, optD r.1, _, _, rfl, by omega, fun x hx => h7 x (List.mem_cons_of_mem _ hx), ?_, rfl⟩
        rcases hun with ⟨h1, h2⟩ | ⟨u, h1, h2, h3, h4'⟩
        · exact .inl h2
        · exact .inr ⟨u, by rw [h1]; rfl, h4'⟩
theorem ok_are_rates {P : Program} {w : World} {K : PySem.W.Frag} {mg : Str → Option Value} {base : Heap} (T : DefAt K mg "are_rates" s_are_rates ["thing"]) (B : Blt mg) (F_is_rate : FnAt P w K mg base CX0 4 "is_rate" 3 sp_is_rate) : FnAt P w K mg base CX0 5 "are_rates" 1 sp_are_rates := (w_are_rates T B F_is_rate).imp v_are_rates

def rowNm (r : Row) : Prop := Nm (nameOf r)
def sp_is_row : GF := fun ds w _ k => ∃ r : Row, ds = [rowD r] ∧ (RowS r ∧ rowNm r) ∧ k (.bl true) w
abbrev s_is_row : Stmt := topS 19
theorem sc_is_row : FnScope ["thing"] ["thing"] (defScope s_is_row) := ⟨rfl, rfl, rfl, by decide +kernel, rfl, by decide +kernel, by decide +kernel⟩
def g_is_row : GS := (gSeq (gIfS (gOr (gNot (gTru (gCB fIsi (gaCons (gVar 0) (gaCons (gC (.ob (.ty "tuple"))) gaNil))))) (gOr (gB (gBin neD (gCB fLen (gaCons (gVar 0) gaNil)) (gC (.int 3)))) (gOr (gNot (gTru (gCB fIsi (gaCons (gBin ixD (gVar 0) (gC (.int 0))) (gaCons (gC (.ob (.ty "str"))) gaNil))))) (gNot (gTru (gCall0 1 sp_is_name (gaCons (gBin ixD (gVar 0) (gC (.int 1))) gaNil))))))) (gRet (gC (.bl false))) gNext)
  (gSeq (gIfS (gOr (gB (gBin eqD (gBin ixD (gVar 0) (gC (.int 0))) (gC (.str "of")))) (gB (gBin eqD (gBin ixD (gVar 0) (gC (.int 0))) (gC (.str "left"))))) (gRet (gCall0 1 sp_is_part (gaCons (gBin ixD (gVar 0) (gC (.int 2))) gaNil))) gNext)
  (gSeq (gIfS (gB (gBin eqD (gBin ixD (gVar 0) (gC (.int 0))) (gC (.str "steps")))) (gRet (gCall0 1 sp_are_rates (gaCons (gBin ixD (gVar 0) (gC (.int 2))) gaNil))) gNext)
  (gRet (gAndV (gBin eqD (gBin ixD (gVar 0) (gC (.int 0))) (gC (.str "length"))) (gCall0 3 sp_is_number (gaCons (gBin ixD (gVar 0) (gC (.int 2))) (gaCons (gC (.int 1)) (gaCons (gC (.int (1000))) gaNil)))))))))
theorem w_is_row {P : Program} {w : World} {K : PySem.W.Frag} {mg : Str → Option Value} {base : Heap} (T : DefAt K mg "is_row" s_is_row ["thing"]) (B : Blt mg) (F_is_part : FnAt P w K mg base CX0 3 "is_part" 1 sp_is_part) (F_are_rates : FnAt P w K mg base CX0 5 "are_rates" 1 sp_are_rates) (F_is_number : FnAt P w K mg base CX0 1 "is_number" 3 sp_is_number) (F_is_name : FnAt P w K mg base CX0 1 "is_name" 1 sp_is_name) {t_MOST_LENGTH : Tok} (c_MOST_LENGTH : mg "MOST_LENGTH" = some (.int (1000) t_MOST_LENGTH)) : FnAt P w K mg base CX0 6 "is_row" 1 (sem0 1 g_is_row) := by
  have nd := sc_is_row.nd
  exact T.fn0 sc_is_row (fun f cdv A outer s H E hr => (dss_cons (ds_if (dt_w (dw_or (dt_not (dt_truth (de_isi B (by rfl) (da_cons (de_var 0) (da_cons (de_type (by rfl) B.tuple_ (by decide +kernel)) da_nil))))) (dw_or (dt_ne hr (de_len B (by rfl) (da_cons (de_var 0) da_nil)) de_int) (dw_or (dt_not (dt_truth (de_isi B (by rfl) (da_cons (de_ix (de_var 0) de_int) (da_cons (de_type (by rfl) B.str_ (by decide +kernel)) da_nil))))) (dw_or1 (dt_not (dt_truth (de_call0 F_is_name hr (by rfl) (da_cons (de_ix (de_var 0) de_int) da_nil))))))))) (dss_one (ds_ret de_bl)) dss_nil)
  (dss_cons (ds_if (dt_w (dw_or (dt_eq hr (de_ix (de_var 0) de_int) de_str) (dw_or1 (dt_eq hr (de_ix (de_var 0) de_int) de_str)))) (dss_one (ds_ret (de_call0 F_is_part hr (by rfl) (da_cons (de_ix (de_var 0) de_int) da_nil)))) dss_nil)
  (dss_cons (ds_if (dt_eq hr (de_ix (de_var 0) de_int) de_str) (dss_one (ds_ret (de_call0 F_are_rates hr (by rfl) (da_cons (de_ix (de_var 0) de_int) da_nil)))) dss_nil)
  (dss_one (ds_ret (de_and (de_eq hr (de_ix (de_var 0) de_int) de_str) (de_one (de_call0 F_is_number hr (by rfl) (da_cons (de_ix (de_var 0) de_int) (da_cons de_int (da_cons (de_gint (by rfl) c_MOST_LENGTH) da_nil))))))))))))

theorem v_is_row : ∀ ds w kx k, sp_is_row ds w kx k → sem0 1 g_is_row ds w kx k := by
  rintro ds w kx k ⟨r, rfl, ⟨h, hn⟩, hk⟩
  cases r with
  | of n p =>
    have e : rho 1 [rowD (.of n p)] = [some (.tup [.str "of", .str n, fD p])] := rfl
    simp! only [g_is_row, e, sp_is_name, sp_is_part, sp_are_rates, sp_is_number]
    exact ⟨n, rfl, hn, p, rfl, h, hk⟩
  | steps n rs =>
    have e : rho 1 [rowD (.steps n rs)] = [some (.tup [.str "steps", .str n, .tup (rs.map rateD)])] := rfl
    simp! only [g_is_row, e, sp_is_name, sp_is_part, sp_are_rates, sp_is_number]
    exact ⟨n, rfl, hn, rs, rfl, h, hk⟩
  | left n p =>
    have e : rho 1 [rowD (.left n p)] = [some (.tup [.str "left", .str n, fD p])] := rfl
    simp! only [g_is_row, e, sp_is_name, sp_is_part, sp_are_rates, sp_is_number]
    exact ⟨n, rfl, hn, p, rfl, h, hk⟩
  | length n m =>
    have e : rho 1 [rowD (.length n m)] = [some (.tup [.str "length", .str n, .int m])] := rfl
    simp! only [g_is_row, e, sp_is_name, sp_is_part, sp_are_rates, sp_is_number]
    exact ⟨n, rfl, hn, m, 1, 1000, rfl, ⟨by have := h.1; omega, h.2⟩, hk⟩
theorem ok_is_row {P : Program} {w : World} {K : PySem.W.Frag} {mg : Str → Option Value} {base : Heap} (T : DefAt K mg "is_row" s_is_row ["thing"]) (B : Blt mg) (F_is_part : FnAt P w K mg base CX0 3 "is_part" 1 sp_is_part) (F_are_rates : FnAt P w K mg base CX0 5 "are_rates" 1 sp_are_rates) (F_is_number : FnAt P w K mg base CX0 1 "is_number" 3 sp_is_number) (F_is_name : FnAt P w K mg base CX0 1 "is_name" 1 sp_is_name) {t_MOST_LENGTH : Tok} (c_MOST_LENGTH : mg "MOST_LENGTH" = some (.int (1000) t_MOST_LENGTH)) : FnAt P w K mg base CX0 6 "is_row" 1 sp_is_row := (w_is_row T B F_is_part F_are_rates F_is_number F_is_name c_MOST_LENGTH).imp v_is_row

def sp_is_rows : GF := fun ds w _ k => ∃ rs : List Row, ds = [.tup (rs.map rowD)] ∧ (rs.length ≤ 8 ∧ (∀ r ∈ rs, RowS r ∧ rowNm r) ∧ lefts rs ≤ 3) ∧ k (.bl true) w
abbrev s_is_rows : Stmt := topS 21
theorem sc_is_rows : FnScope ["thing", "row"] ["thing"] (defScope s_is_rows) := ⟨rfl, rfl, rfl, by decide +kernel, rfl, by decide +kernel, by decide +kernel⟩
def g_is_rows : GS := (gSeq (gIfS (gOr (gNot (gTru (gCB fIsi (gaCons (gVar 0) (gaCons (gC (.ob (.ty "tuple"))) gaNil))))) (gOr (gB (gBin gtD (gCB fLen (gaCons (gVar 0) gaNil)) (gC (.int (8))))) (gNot (gTru (gCB fAll (gaCons (gLc (giSeq (gVar 0)) (ggName 1) gYes (gCall0 1 sp_is_row (gaCons (gVar 1) gaNil)) [1]) gaNil)))))) (gRet (gC (.bl false))) gNext)
  (gRet (gBin leD (gCB fLen (gaCons (gCall0 2 sp_rows_by (gaCons (gVar 0) (gaCons (gC (.str "left")) gaNil))) gaNil)) (gC (.int (3))))))
theorem w_is_rows {P : Program} {w : World} {K : PySem.W.Frag} {mg : Str → Option Value} {base : Heap} (T : DefAt K mg "is_rows" s_is_rows ["thing"]) (B : Blt mg) (F_rows_by : FnAt P w K mg base CX0 1 "rows_by" 2 sp_rows_by) (F_is_row : FnAt P w K mg base CX0 6 "is_row" 1 sp_is_row) {t_MOST_LEFT : Tok} (c_MOST_LEFT : mg "MOST_LEFT" = some (.int (3) t_MOST_LEFT)) {t_MOST_ROWS : Tok} (c_MOST_ROWS : mg "MOST_ROWS" = some (.int (8) t_MOST_ROWS)) : FnAt P w K mg base CX0 7 "is_rows" 1 (sem0 2 g_is_rows) := by
  have nd := sc_is_rows.nd
  exact T.fn0 sc_is_rows (fun f cdv A outer s H E hr => (dss_cons (ds_if (dt_w (dw_or (dt_not (dt_truth (de_isi B (by rfl) (da_cons (de_var 0) (da_cons (de_type (by rfl) B.tuple_ (by decide +kernel)) da_nil))))) (dw_or (dt_gt (de_len B (by rfl) (da_cons (de_var 0) da_nil)) (de_gint (by rfl) c_MOST_ROWS)) (dw_or1 (dt_not (dt_truth (de_all B rfl (by rfl) (da_cons (de_lc (own := [("row", 1)]) (us := [1]) rfl nd (di_seq (de_var 0)) (blkOk_by (N := ["thing", "row"]) (sc := defScope s_is_rows) (by decide +kernel)) (by decide) (fun _ _ _ _ _ => (dg_name (i := 1) nd rfl (by first | exact Or.inl rfl | exact Or.inr rfl))) (fun _ _ _ _ _ => dts_nil) (fun _ _ _ _ _ => (de_call0 F_is_row hr (by rfl) (da_cons (de_var 1) da_nil)))) da_nil)))))))) (dss_one (ds_ret de_bl)) dss_nil)
  (dss_one (ds_ret (de_le (de_len B (by rfl) (da_cons (de_call0 F_rows_by hr (by rfl) (da_cons (de_var 0) (da_cons de_str da_nil))) da_nil)) (de_gint (by rfl) c_MOST_LEFT))))))

theorem v_is_rows : ∀ ds w kx k, sp_is_rows ds w kx k → sem0 2 g_is_rows ds w kx k := by
  rintro ds w kx k ⟨rs, rfl, ⟨hl, hr, hf⟩, hk⟩
  have e : rho 2 [D.tup (rs.map rowD)] = [some (.tup (rs.map rowD)), none] := rfl
  have hlm : (rs.map rowD).length = rs.length := List.length_map _
  simp! only [g_is_rows, e, sp_is_row, sp_rows_by, hlm]
  rw [decide_eq_false (show ¬ (8 : Int) < (rs.length : Int) by omega)]
  simp! only [id_eq]
  refine lc_ty rowD (fun _ => D.bl true) rs trivial (by omega) (fun r hr2 k' hk' => ?_) ?_
  · simp! only [sp_is_row]
    exact ⟨r, rfl, hr r hr2, hk'⟩
  refine all_trues ?_
  simp! only [sp_rows_by]
  refine ⟨rs, "left", rfl, by omega, ?_⟩
  have hlf : ((rs.filter fun r => decide (kindS r = "left")).map rowD).length = lefts rs := by
    rw [List.length_map]
    unfold lefts
    rw [List.count_eq_countP, List.countP_map, List.countP_eq_length_filter]
    congr 1
  rw [hlf, decide_eq_true (by omega)]
  exact hk
theorem ok_is_rows {P : Program} {w : World} {K : PySem.W.Frag} {mg : Str → Option Value} {base : Heap} (T : DefAt K mg "is_rows" s_is_rows ["thing"]) (B : Blt mg) (F_rows_by : FnAt P w K mg base CX0 1 "rows_by" 2 sp_rows_by) (F_is_row : FnAt P w K mg base CX0 6 "is_row" 1 sp_is_row) {t_MOST_LEFT : Tok} (c_MOST_LEFT : mg "MOST_LEFT" = some (.int (3) t_MOST_LEFT)) {t_MOST_ROWS : Tok} (c_MOST_ROWS : mg "MOST_ROWS" = some (.int (8) t_MOST_ROWS)) : FnAt P w K mg base CX0 7 "is_rows" 1 sp_is_rows := (w_is_rows T B F_rows_by F_is_row c_MOST_LEFT c_MOST_ROWS).imp v_is_rows


end LW

namespace LW
open PySem PySem.Spec PyProof.Rows L2 RZ DL



section
variable {w : Wd} {C : Addr} {f : List (Key × D) → Prop}
def kS (s : Str) : Key := .inr s
def sK (l : List (Str × D)) : List (Key × D) := l.map fun q => (kS q.1, q.2)
theorem sK_app (l : List (Str × D)) (s : Str) (d : D) : sK l ++ [(kS s, d)] = sK (l ++ [(s, d)]) := by simp [sK]
theorem idx_lt {M : List Cell} {i : Nat} {c : Cell} (h : M[i]? = some c) : i < M.length := (List.getElem?_eq_some_iff.mp h).1
theorem set_ne {M : List Cell} {i j : Nat} {c : Cell} (h : i ≠ j) : (M.set i c)[j]? = M[j]? := List.getElem?_set_ne h
theorem set_eq {M : List Cell} {i : Nat} {c d : Cell} (h : M[i]? = some d) : (M.set i c)[i]? = some c := List.getElem?_set_self (idx_lt h)
theorem app_at {M r : List Cell} {i : Nat} {c : Cell} (h : M[i]? = some c) : (M ++ r)[i]? = some c := by rw [List.getElem?_append_left (idx_lt h)]; exact h
theorem dkK_at {i : Nat} {kvs : List (Key × D)} {f : List (Key × D) → Prop} (h : w.M[i]? = some (.dk kvs)) : dkK i w f = f kvs := by
  unfold dkK
  rw [h]
theorem keyK_s {s : Str} {f : Key → Prop} : keyK (.str s) f = f (kS s) := rfl
theorem val_cons {p : Key × D} {l : List (Key × D)} {q : Key} : valD (p :: l) q = if p.1 = q then some p.2 else valD l q := by
  unfold valD
  rw [List.find?_cons]
  by_cases h : p.1 = q <;> simp [h]
theorem kS_inj {s t : Str} : kS s = kS t ↔ s = t := ⟨fun h => Sum.inr.inj h, fun h => h ▸ rfl⟩
theorem val_sK : ∀ (l : List (Str × D)) (s : Str), valD (sK l) (kS s) = (l.find? fun q => decide (q.1 = s)).map (·.2)
  | [], _ => rfl
  | q :: l, s => by
    show valD ((kS q.1, q.2) :: sK l) (kS s) = _
    rw [val_cons, val_sK l s, List.find?_cons]
    by_cases h : q.1 = s
    · simp [h]
    · have : ¬ kS q.1 = kS s := fun e => h (kS_inj.mp e)
      simp [h, this]
theorem find_some {l : List (Str × D)} {s : Str} : ((l.find? fun q => decide (q.1 = s)).map (·.2)).isSome = decide (s ∈ l.map (·.1)) := by
  induction l with
  | nil => rfl
  | cons q l ih =>
    rw [List.find?_cons]
    by_cases h : q.1 = s
    · simp [h]
    · have h2 : ¬ s = q.1 := fun e => h e.symm
      simp only [h, decide_false]
      rw [ih]
      simp [h2]
theorem has_sK (l : List (Str × D)) (s : Str) : (valD (sK l) (kS s)).isSome = decide (s ∈ l.map (·.1)) := by rw [val_sK, find_some]
theorem put_new {l : List (Key × D)} {q : Key} {d : D} (h : (valD l q).isSome = false) : putD l q d = l ++ [(q, d)] := by
  unfold putD
  rw [if_neg]
  intro z
  obtain ⟨y, hy, e⟩ := List.any_eq_true.mp z
  have e := of_decide_eq_true e
  unfold valD at h
  rw [Option.isSome_map] at h
  have h2 := List.find?_isSome (p := fun kv : Key × D => decide (kv.1 = q)) (xs := l)
  rw [h] at h2
  exact absurd (h2.mpr ⟨y, hy, decide_eq_true e⟩) (by simp)
def putS (l : List (Str × D)) (s : Str) (d : D) : List (Str × D) := if s ∈ l.map (·.1) then l.map fun q => if q.1 = s then (q.1, d) else q else l ++ [(s, d)]
theorem put_sK (l : List (Str × D)) (s : Str) (d : D) : putD (sK l) (kS s) d = sK (putS l s d) := by
  have h := has_sK l s
  unfold putS
  by_cases hs : s ∈ l.map (·.1)
  · rw [if_pos hs]
    unfold putD
    rw [if_pos]
    · unfold sK
      rw [List.map_map, List.map_map]
      refine List.map_congr_left fun q _ => ?_
      show (if kS q.1 = kS s then (kS q.1, d) else (kS q.1, q.2)) = (fun q : Str × D => (kS q.1, q.2)) (if q.1 = s then (q.1, d) else q)
      by_cases hq : q.1 = s
      · rw [if_pos hq, if_pos (by rw [hq])]
      · rw [if_neg hq, if_neg fun z => hq (kS_inj.mp z)]
    · obtain ⟨q, hq, e⟩ := List.mem_map.mp hs
      rw [List.any_eq_true]
      exact ⟨(kS q.1, q.2), List.mem_map.mpr ⟨q, hq, rfl⟩, decide_eq_true (by rw [e])⟩
  · rw [if_neg hs]
    rw [decide_eq_false hs] at h
    rw [put_new h, sK_app]
end

theorem lt_cot : ∀ (c b a : List Nat), PySem.Spec.ltCps c a = true → PySem.Spec.ltCps c b = true ∨ PySem.Spec.ltCps b a = true
  | [], [], a, h => .inr h
  | [], _ :: _, _, _ => .inl rfl
  | _ :: _, _, [], h => nomatch h
  | _ :: _, [], _ :: _, _ => .inr rfl
  | c :: cs, b :: bs, a :: as, h => by
    simp only [PySem.Spec.ltCps, Bool.or_eq_true, Bool.and_eq_true, decide_eq_true_eq, beq_iff_eq] at h ⊢
    by_cases h1 : c < b
    · exact .inl (.inl h1)
    · by_cases h2 : b < a
      · exact .inr (.inl h2)
      · rcases h with h | ⟨h3, h4⟩
        · omega
        · rcases lt_cot cs bs as h4 with h5 | h5
          · exact .inl (.inr ⟨by omega, h5⟩)
          · exact .inr (.inr ⟨by omega, h5⟩)
theorem lt_anti : ∀ (a b : List Nat), PySem.Spec.ltCps a b = false → PySem.Spec.ltCps b a = false → a = b
  | [], [], _, _ => rfl
  | [], _ :: _, h, _ => nomatch h
  | _ :: _, [], _, h => nomatch h
  | a :: as, b :: bs, h1, h2 => by
    simp only [PySem.Spec.ltCps, Bool.or_eq_false_iff, Bool.and_eq_false_iff, decide_eq_false_iff_not, beq_eq_false_iff_ne] at h1 h2
    have e : a = b := by omega
    subst e
    rw [lt_anti as bs (by rcases h1.2 with h | h; exact absurd rfl h; exact h) (by rcases h2.2 with h | h; exact absurd rfl h; exact h)]
def leS (a b : Str) : Prop := PySem.Spec.ltCps b.cps.toList a.cps.toList = false
theorem leS_anti {a b : Str} (h1 : leS a b) (h2 : leS b a) : a = b := by
  have e := lt_anti _ _ h2 h1
  obtain ⟨x⟩ := a
  obtain ⟨y⟩ := b
  congr 1
  exact Array.toList_inj.mp e
theorem leS_trans {a b c : Str} (h1 : leS a b) (h2 : leS b c) : leS a c := by
  unfold leS at *
  cases e : PySem.Spec.ltCps c.cps.toList a.cps.toList with
  | false => rfl
  | true =>
    rcases lt_cot _ b.cps.toList _ e with h | h
    · rw [h2] at h; cases h
    · rw [h1] at h; cases h
theorem rising_pw : ∀ (r : List Str) (p : Str), risingS p r = true → (p :: r).Pairwise leS
  | [], p, _ => by simp
  | x :: r, p, h => by
    have h : (!PySem.Spec.ltCps x.cps.toList p.cps.toList && risingS x r) = true := h
    rw [Bool.and_eq_true, Bool.not_eq_true'] at h
    have ih := rising_pw r x h.2
    rw [List.pairwise_cons] at ih ⊢
    refine ⟨fun y hy => ?_, List.pairwise_cons.mpr ih⟩
    rcases List.mem_cons.mp hy with rfl | hy
    · exact h.1
    · exact leS_trans h.1 (ih.1 y hy)
theorem sorted_pw {l : List Str} (h : sortedS l = true) : l.Pairwise leS := by
  cases l with
  | nil => exact .nil
  | cons x r => exact rising_pw r x h
theorem uniq_sorted : ∀ {xs ys : List Str}, xs.Pairwise leS → ys.Pairwise leS → xs.Perm ys → xs = ys
  | [], ys, _, _, h => h.nil_eq.symm ▸ rfl
  | x :: xs, [], _, _, h => absurd h.length_eq (by simp)
  | x :: xs, y :: ys, h1, h2, h => by
    rw [List.pairwise_cons] at h1 h2
    have e : x = y := by
      have hx : x ∈ y :: ys := h.mem_iff.mp List.mem_cons_self
      have hy : y ∈ x :: xs := h.mem_iff.mpr List.mem_cons_self
      rcases List.mem_cons.mp hx with e | hx
      · exact e
      · rcases List.mem_cons.mp hy with e | hy
        · exact e.symm
        · exact leS_anti (h1.1 y hy) (h2.1 x hx)
    subst e
    rw [uniq_sorted h1.2 h2.2 h.cons_inv]

def sortN (l : List Str) : List Str := l.mergeSort fun a b => decide (a.cps.toList ≤ b.cps.toList)
def ofst (u : Int) : Row → Option (Str × Qp)
  | .of n p => some (n, p)
  | .steps n qs => some (n, partAt qs u)
  | _ => none
def negQ (x : Qp) : Qp := (-x.1, x.2)
theorem fr_neg {x : Qp} (h : Fr x) : Fr (negQ x) := ⟨h.pos, by show Int.gcd (-x.1) x.2 = 1; rw [Int.neg_gcd]; exact h.cop⟩
theorem Pb_neg : ∀ xs : List Qp, Pb (xs.map negQ) = Pb xs ∧ Nt (xs.map negQ) = - Nt xs
  | [] => ⟨rfl, rfl⟩
  | x :: xs => by
    obtain ⟨h1, h2⟩ := Pb_neg xs
    refine ⟨?_, ?_⟩
    · show x.2 * Pb (xs.map negQ) = x.2 * Pb xs
      rw [h1]
    · show -x.1 * Pb (xs.map negQ) + x.2 * Nt (xs.map negQ) = -(x.1 * Pb xs + x.2 * Nt xs)
      rw [h1, h2, Int.neg_mul, Int.mul_neg]
      omega
theorem sum_negs {y : Qp} {xs : List Qp} (hy : Fr y) (h : ∀ x ∈ xs, Fr x) : sumQ (y :: xs.map negQ) = subQ y (sumQ xs) := by
  have b := Pb_ne h
  have h2 := hy.pos
  have e : subQ y (sumQ xs) = subQ (norm y.1 y.2) (norm (Nt xs) (Pb xs)) := by rw [norm_self hy]; rfl
  rw [e, sub_norm (by omega) b]
  obtain ⟨h3, h4⟩ := Pb_neg xs
  show norm (y.1 * Pb (xs.map negQ) + y.2 * Nt (xs.map negQ)) (y.2 * Pb (xs.map negQ)) = _
  rw [h3, h4, Int.mul_comm (Pb xs) y.2, Int.mul_neg, Int.mul_comm (Nt xs) y.2]
  congr 1
theorem sum_neg1 {y x : Qp} (hy : Fr y) (hx : Fr x) : sumQ [y, negQ x] = subQ y x := by
  have := sum_negs (xs := [x]) hy (fun z hz => by rw [List.mem_singleton.mp hz]; exact hx)
  rw [sumQ_one hx] at this
  exact this
def tellL (rs : List Row) (u : Int) : Told := rs.filterMap (ofst u) ++ (leftsP rs (rest0 rs u)).1 ++ lensE (leftsP rs (rest0 rs u)).2 (totR (lenRows rs)) (lenRows rs)
theorem keys_uniq {T : Told} {xs ys : List Str} (h1 : IsKeys T xs) (h2 : IsKeys T ys) : xs = ys := by
  refine uniq_sorted (sorted_pw h1.srt) (sorted_pw h2.srt) ?_
  rw [List.perm_ext_iff_of_nodup h1.nd h2.nd]
  exact fun s => (h1.mem s).trans (h2.mem s).symm

end LW

namespace LW
open PySem PySem.Spec PyProof.Rows L2 RZ DL



abbrev Lds := List (Str × Qp)
def qD (q : Str × Qp) : Str × D := (q.1, fD q.2)
def dkQ (l : Lds) : List (Key × D) := sK (l.map qD)
def getQ (l : Lds) (s : Str) : Qp := ((l.find? fun q => decide (q.1 = s)).map (·.2)).getD (0, 1)
def putQ (l : Lds) (s : Str) (p : Qp) : Lds := if s ∈ l.map (·.1) then l.map fun q => if q.1 = s then (q.1, p) else q else l ++ [(s, p)]
def moreQ (l : Lds) (s : Str) (p : Qp) : Lds := if p = (0, 1) then l else putQ l s (sumQ [getQ l s, p])
theorem find_qD (l : Lds) (s : Str) : (((l.map qD).find? fun q => decide (q.1 = s)).map (·.2)) = ((l.find? fun q => decide (q.1 = s)).map (·.2)).map fD := by
  induction l with
  | nil => rfl
  | cons x l ih =>
    rw [List.map_cons, List.find?_cons, List.find?_cons]
    by_cases h : x.1 = s
    · have h' : (qD x).1 = s := h
      rw [decide_eq_true h, decide_eq_true h']
      rfl
    · have h' : ¬ (qD x).1 = s := h
      rw [decide_eq_false h, decide_eq_false h']
      exact ih
theorem dkQ_val (l : Lds) (s : Str) : valD (dkQ l) (kS s) = ((l.find? fun q => decide (q.1 = s)).map (·.2)).map fD := by
  unfold dkQ
  rw [val_sK, find_qD]
theorem dkQ_get (l : Lds) (s : Str) : (valD (dkQ l) (kS s)).getD (.tup [.int 0, .int 1]) = fD (getQ l s) := by
  rw [dkQ_val]
  unfold getQ
  cases (l.find? fun q => decide (q.1 = s)).map (·.2) <;> rfl
theorem qD_names (l : Lds) : (l.map qD).map (·.1) = l.map (·.1) := by
  rw [List.map_map]
  rfl
theorem putS_q (l : Lds) (s : Str) (p : Qp) : putS (l.map qD) s (fD p) = (putQ l s p).map qD := by
  unfold putS putQ
  rw [qD_names]
  split
  · rw [List.map_map, List.map_map]
    refine List.map_congr_left fun q _ => ?_
    show (if q.1 = s then (q.1, fD p) else qD q) = qD (if q.1 = s then (q.1, p) else q)
    split <;> rfl
  · rw [List.map_append]
    rfl
theorem dkQ_put (l : Lds) (s : Str) (p : Qp) : putD (dkQ l) (kS s) (fD p) = dkQ (putQ l s p) := by
  unfold dkQ
  rw [put_sK, putS_q]
theorem dkQ_len (l : Lds) : (dkQ l).length = l.length := by
  unfold dkQ sK
  rw [List.length_map, List.length_map]
theorem getQ_cons (x : Str × Qp) (l : Lds) (s : Str) : getQ (x :: l) s = if x.1 = s then x.2 else getQ l s := by
  unfold getQ
  rw [List.find?_cons]
  by_cases h : x.1 = s
  · rw [decide_eq_true h, if_pos h]
    rfl
  · rw [decide_eq_false h, if_neg h]
theorem getQ_none {l : Lds} {s : Str} (h : s ∉ l.map (·.1)) : getQ l s = (0, 1) := by
  induction l with
  | nil => rfl
  | cons x l ih =>
    rw [List.map_cons, List.mem_cons, not_or] at h
    rw [getQ_cons, if_neg fun z => h.1 z.symm]
    exact ih h.2
theorem getQ_mem {l : Lds} (nd : (l.map (·.1)).Nodup) {q : Str × Qp} (h : q ∈ l) : getQ l q.1 = q.2 := by
  induction l with
  | nil => cases h
  | cons x l ih =>
    rw [List.map_cons, List.nodup_cons] at nd
    rw [getQ_cons]
    rcases List.mem_cons.mp h with rfl | h
    · rw [if_pos rfl]
    · rw [if_neg fun z => nd.1 (List.mem_map.mpr ⟨q, h, z.symm⟩)]
      exact ih nd.2 h
theorem getQ_in {l : Lds} {s : Str} (h : s ∈ l.map (·.1)) : (s, getQ l s) ∈ l := by
  induction l with
  | nil => cases h
  | cons x l ih =>
    rw [getQ_cons]
    by_cases e : x.1 = s
    · rw [if_pos e, ← e]
      exact List.mem_cons_self
    · rw [if_neg e]
      rw [List.map_cons, List.mem_cons] at h
      exact List.mem_cons_of_mem _ (ih (h.resolve_left fun z => e z.symm))
theorem putQ_names (l : Lds) (s : Str) (p : Qp) : (putQ l s p).map (·.1) = if s ∈ l.map (·.1) then l.map (·.1) else l.map (·.1) ++ [s] := by
  unfold putQ
  split
  · rw [List.map_map]
    refine List.map_congr_left fun q _ => ?_
    show (if q.1 = s then (q.1, p) else q).1 = q.1
    split <;> rfl
  · rw [List.map_append]
    rfl
theorem putQ_nd {l : Lds} {s : Str} {p : Qp} (nd : (l.map (·.1)).Nodup) : ((putQ l s p).map (·.1)).Nodup := by
  rw [putQ_names]
  split
  · exact nd
  · rename_i h
    rw [List.nodup_append]
    refine ⟨nd, by simp, fun a ha b hb e => ?_⟩
    rw [List.mem_singleton] at hb
    subst e
    exact h (hb ▸ ha)
theorem putQ_in (l : Lds) (s : Str) (p : Qp) (t : Str) : t ∈ (putQ l s p).map (·.1) ↔ t ∈ l.map (·.1) ∨ t = s := by
  rw [putQ_names]
  split
  · rename_i h
    exact ⟨.inl, fun z => z.elim id fun z => z ▸ h⟩
  · rw [List.mem_append, List.mem_singleton]
theorem putQ_len (l : Lds) (s : Str) (p : Qp) : (putQ l s p).length ≤ l.length + 1 := by
  unfold putQ
  split
  · rw [List.length_map]
    omega
  · rw [List.length_append]
    exact Nat.le_refl _
theorem getQ_map {l : Lds} {s : Str} {p : Qp} (t : Str) : getQ (l.map fun q => if q.1 = s then (q.1, p) else q) t = if t = s ∧ s ∈ l.map (·.1) then p else getQ l t := by
  induction l with
  | nil =>
    rw [if_neg (by simp)]
    rfl
  | cons x l ih =>
    rw [List.map_cons, getQ_cons, getQ_cons, ih]
    by_cases h : x.1 = s
    · rw [if_pos h]
      by_cases ht : t = s
      · subst ht
        rw [if_pos h, if_pos ⟨rfl, by rw [List.map_cons, h]; exact List.mem_cons_self⟩]
      · have hx : ¬ x.1 = t := fun z => ht (z.symm.trans h)
        simp only [hx, ht, false_and, if_false]
    · rw [if_neg h]
      by_cases hx : x.1 = t
      · rw [if_pos hx, if_neg fun z => h (hx.trans z.1), if_pos hx]
      · rw [if_neg hx, if_neg hx]
        have : (t = s ∧ s ∈ l.map (·.1)) ↔ (t = s ∧ s ∈ (x :: l).map (·.1)) := by
          rw [List.map_cons, List.mem_cons]
          exact ⟨fun z => ⟨z.1, .inr z.2⟩, fun z => ⟨z.1, z.2.resolve_left fun e => h e.symm⟩⟩
        simp only [this]
theorem getQ_put (l : Lds) (s : Str) (p : Qp) (t : Str) : getQ (putQ l s p) t = if t = s then p else getQ l t := by
  unfold putQ
  by_cases h : s ∈ l.map (·.1)
  · rw [if_pos h, getQ_map]
    simp only [h, and_true]
  · rw [if_neg h]
    induction l with
    | nil =>
      show getQ [(s, p)] t = _
      rw [getQ_cons]
      by_cases e : t = s
      · rw [if_pos e.symm, if_pos e]
      · rw [if_neg fun z => e z.symm, if_neg e]
    | cons x l ih =>
      rw [List.map_cons, List.mem_cons, not_or] at h
      rw [List.cons_append, getQ_cons, getQ_cons, ih h.2]
      by_cases e : t = s
      · rw [if_pos e, if_pos e, if_neg fun z => h.1 (e.symm.trans z.symm)]
      · rw [if_neg e, if_neg e]
theorem sumR_put : ∀ {l : Lds} {s : Str} {p : Qp}, (l.map (·.1)).Nodup → sumR ((putQ l s p).map (·.2)) = sumR (l.map (·.2)) - vQ (getQ l s) + vQ p := by
  intro l s p nd
  unfold putQ
  by_cases h : s ∈ l.map (·.1)
  · rw [if_pos h]
    induction l with
    | nil => cases h
    | cons x l ih =>
      rw [List.map_cons, List.nodup_cons] at nd
      rw [List.map_cons, List.map_cons, List.map_cons, sumR_cons, sumR_cons, getQ_cons]
      by_cases e : x.1 = s
      · rw [if_pos e, if_pos e]
        have hid : (l.map fun q => if q.1 = s then (q.1, p) else q) = l := by
          refine (List.map_congr_left fun q hq => ?_).trans (List.map_id l)
          rw [if_neg fun z => nd.1 (List.mem_map.mpr ⟨q, hq, z.trans e.symm⟩)]
          rfl
        rw [hid]
        show vQ p + _ = _
        grind
      · rw [if_neg e, if_neg e]
        rw [List.map_cons, List.mem_cons] at h
        have := ih nd.2 (h.resolve_left fun z => e z.symm)
        rw [this]
        grind
  · rw [if_neg h, getQ_none h, vQ0, List.map_append, sumR_app]
    show _ + sumR [p] = _
    have : sumR [p] = vQ p := by
      show vQ p + 0 = vQ p
      grind
    rw [this]
    grind
structure LdsOk (D : Int) (v : Rat) (l : Lds) : Prop where
  nd : (l.map (·.1)).Nodup
  fr : ∀ q ∈ l, Fr q.2
  pos : ∀ q ∈ l, 0 < vQ q.2
  iq : ∀ q ∈ l, IntQ D (vQ q.2)
  sm : sumR (l.map (·.2)) = v
theorem LdsOk.nil (D : Int) : LdsOk D 0 [] := ⟨List.nodup_nil, (fun _ h => nomatch h), (fun _ h => nomatch h), (fun _ h => nomatch h), rfl⟩
theorem fr01 : Fr (0, 1) := ⟨by decide, by decide⟩
theorem fr11 : Fr (1, 1) := ⟨by decide, by decide⟩
theorem LdsOk.get {D : Int} {v : Rat} {l : Lds} (h : LdsOk D v l) (s : Str) : Fr (getQ l s) ∧ 0 ≤ vQ (getQ l s) ∧ IntQ D (vQ (getQ l s)) ∧ (s ∈ l.map (·.1) ↔ 0 < vQ (getQ l s)) := by
  by_cases hs : s ∈ l.map (·.1)
  · have hm := getQ_in hs
    have := h.pos _ hm
    exact ⟨h.fr _ hm, Rat.le_of_lt this, h.iq _ hm, fun _ => this, fun _ => hs⟩
  · rw [getQ_none hs, vQ0]
    exact ⟨fr01, Rat.le_refl, IntQ.zero, fun z => absurd z hs, fun z => absurd z (by decide)⟩
theorem LdsOk.up {D E : Int} {v : Rat} {l : Lds} (h : LdsOk D v l) (d : D ∣ E) : LdsOk E v l := ⟨h.nd, h.fr, h.pos, fun q hq => (h.iq q hq).up d, h.sm⟩
theorem sumR_ge {xs : List Qp} (h : ∀ x ∈ xs, 0 ≤ vQ x) {x : Qp} (hx : x ∈ xs) : vQ x ≤ sumR xs := by
  induction xs with
  | nil => cases hx
  | cons y xs ih =>
    rw [sumR_cons]
    have h1 := h y List.mem_cons_self
    have h2 := sumR_nn fun z hz => h z (List.mem_cons_of_mem _ hz)
    rcases List.mem_cons.mp hx with rfl | hx
    · grind
    · have := ih (fun z hz => h z (List.mem_cons_of_mem _ hz)) hx
      grind
theorem LdsOk.le {D : Int} {v : Rat} {l : Lds} (h : LdsOk D v l) (s : Str) : vQ (getQ l s) ≤ v := by
  have hn : ∀ x ∈ l.map (·.2), 0 ≤ vQ x := fun x hx => by
    obtain ⟨q, hq, rfl⟩ := List.mem_map.mp hx
    exact Rat.le_of_lt (h.pos q hq)
  rw [← h.sm]
  by_cases hs : s ∈ l.map (·.1)
  · exact sumR_ge hn (List.mem_map.mpr ⟨_, getQ_in hs, rfl⟩)
  · rw [getQ_none hs, vQ0]
    exact sumR_nn hn
theorem sum2 {x y : Qp} (hx : Fr x) (hy : Fr y) : Fr (sumQ [x, y]) ∧ vQ (sumQ [x, y]) = vQ x + vQ y := by
  have hf : ∀ z ∈ [x, y], Fr z := fun z hz => by
    rcases List.mem_cons.mp hz with rfl | hz
    · exact hx
    · rw [List.mem_singleton.mp hz]
      exact hy
  refine ⟨fr_sum hf, ?_⟩
  rw [vQ_sum hf]
  show vQ x + (vQ y + 0) = _
  grind
theorem LdsOk.more {D : Int} {v : Rat} {l : Lds} {s : Str} {p : Qp} (h : LdsOk D v l) (hp : Fr p) (p0 : 0 ≤ vQ p) (hi : IntQ D (vQ p)) : LdsOk D (v + vQ p) (moreQ l s p) := by
  unfold moreQ
  by_cases e : p = (0, 1)
  · rw [if_pos e, e, vQ0]
    have : v + 0 = v := by grind
    rw [this]
    exact h
  · rw [if_neg e]
    obtain ⟨g1, g2, g3, _⟩ := h.get s
    obtain ⟨f1, f2⟩ := sum2 g1 hp
    have pp : 0 < vQ p := by
      have : vQ p ≠ 0 := fun z => e ((vQ_zero hp).mp z)
      grind
    have nd := putQ_nd (s := s) (p := sumQ [getQ l s, p]) h.nd
    have key : ∀ q ∈ putQ l s (sumQ [getQ l s, p]), q ∈ l ∨ q.2 = sumQ [getQ l s, p] := fun q hq => by
      have h1 := getQ_mem nd hq
      rw [getQ_put] at h1
      by_cases es : q.1 = s
      · rw [if_pos es] at h1
        exact .inr h1.symm
      · rw [if_neg es] at h1
        left
        have h2 : q.1 ∈ (putQ l s (sumQ [getQ l s, p])).map (·.1) := List.mem_map.mpr ⟨q, hq, rfl⟩
        rw [putQ_in] at h2
        have h3 := getQ_in (h2.resolve_right es)
        rw [h1] at h3
        exact h3
    refine ⟨nd, fun q hq => ?_, fun q hq => ?_, fun q hq => ?_, ?_⟩
    · rcases key q hq with h1 | h1
      · exact h.fr q h1
      · rw [h1]
        exact f1
    · rcases key q hq with h1 | h1
      · exact h.pos q h1
      · rw [h1, f2]
        grind
    · rcases key q hq with h1 | h1
      · exact h.iq q h1
      · rw [h1, f2]
        exact g3.add hi
    · rw [sumR_put h.nd, f2, h.sm]
      grind
def sortL (l : Lds) : Lds := (sortN (l.map (·.1))).map fun s => (s, getQ l s)
theorem sumR_perm {xs ys : List Qp} (h : xs.Perm ys) : sumR xs = sumR ys := by
  induction h with
  | nil => rfl
  | cons x _ ih => rw [sumR_cons, sumR_cons, ih]
  | swap x y l =>
    rw [sumR_cons, sumR_cons, sumR_cons, sumR_cons]
    grind
  | trans _ _ h1 h2 => exact h1.trans h2
theorem LdsOk.perm {D : Int} {v : Rat} {l m : Lds} (h : LdsOk D v l) (p : l.Perm m) : LdsOk D v m := ⟨(p.map _).nodup_iff.mp h.nd, fun q hq => h.fr q (p.mem_iff.mpr hq), fun q hq => h.pos q (p.mem_iff.mpr hq), fun q hq => h.iq q (p.mem_iff.mpr hq), by rw [← h.sm]; exact (sumR_perm (p.map _)).symm⟩
def pairL (l : Lds) : D := .lst (l.map pairD)
end LW

namespace LW
open PySem PySem.Spec PyProof.Rows L2 RZ DL



structure KeysL (T : Told) (ks : List Str) : Prop where
  nd : ks.Nodup
  mem : ∀ s, s ∈ ks ↔ ∃ p, (s, p) ∈ T ∧ 0 < p.1
def toldV (T : Told) (t : Str) : Rat := sumR ((T.filter fun x => decide (x.1 = t)).map (·.2))
theorem toldV_cons (x : Str × Qp) (T : Told) (t : Str) : toldV (x :: T) t = (if x.1 = t then vQ x.2 else 0) + toldV T t := by
  unfold toldV
  rw [List.filter_cons]
  by_cases h : x.1 = t
  · rw [if_pos (decide_eq_true h), if_pos h, List.map_cons, sumR_cons]
  · rw [if_neg (by simp [h]), if_neg h]
    grind
theorem np_cons (x : Str × Qp) (T : Told) (t : Str) : nameParts t (x :: T) = if x.1 = t ∧ 0 < x.2.1 then x.2 :: nameParts t T else nameParts t T := by
  unfold nameParts
  rw [List.filter_cons]
  by_cases h : x.1 = t ∧ 0 < x.2.1
  · rw [if_pos (by rw [decide_eq_true h.1, decide_eq_true h.2]; rfl), if_pos h]
    rfl
  · rw [if_neg, if_neg h]
    rw [Bool.and_eq_true, decide_eq_true_iff, decide_eq_true_iff]
    exact h
theorem np_val {T : Told} (h : ∀ x ∈ T, Fr x.2 ∧ 0 ≤ vQ x.2) (t : Str) : sumR (nameParts t T) = toldV T t := by
  induction T with
  | nil => rfl
  | cons x T ih =>
    have hx := h x List.mem_cons_self
    have ih := ih fun y hy => h y (List.mem_cons_of_mem _ hy)
    rw [toldV_cons, np_cons]
    by_cases e : x.1 = t
    · rw [if_pos e]
      by_cases hp : 0 < x.2.1
      · rw [if_pos ⟨e, hp⟩, sumR_cons, ih]
      · rw [if_neg fun z => hp z.2, ih]
        have h1 := (vQ_nn hx.1.pos).mp hx.2
        have h2 : vQ x.2 ≤ 0 := (vQ_np hx.1.pos).mpr (by omega)
        grind
    · rw [if_neg fun z => e z.1, if_neg e, ih]
      grind
theorem sum_names {ys : List Str} {f : Str → Rat} {v : Rat} {s : Str} (nd : ys.Nodup) : (ys.map fun t => (if s = t then v else 0) + f t).sum = (if s ∈ ys then v else 0) + (ys.map f).sum := by
  induction ys with
  | nil =>
    show (0 : Rat) = (if s ∈ ([] : List Str) then v else 0) + 0
    rw [if_neg (by simp)]
    grind
  | cons y ys ih =>
    rw [List.nodup_cons] at nd
    rw [List.map_cons, List.sum_cons, ih nd.2, List.map_cons, List.sum_cons]
    by_cases e : s = y
    · subst e
      rw [if_pos rfl, if_neg nd.1, if_pos List.mem_cons_self]
      grind
    · rw [if_neg e]
      by_cases h : s ∈ ys
      · rw [if_pos h, if_pos (List.mem_cons_of_mem _ h)]
        grind
      · rw [if_neg h, if_neg fun z => (List.mem_cons.mp z).elim e h]
        grind
theorem told_sum {T : Told} (h : ∀ x ∈ T, Fr x.2 ∧ 0 ≤ vQ x.2) {ys : List Str} (nd : ys.Nodup) (hm : ∀ x ∈ T, 0 < x.2.1 → x.1 ∈ ys) : (ys.map (toldV T)).sum = sumR (T.map (·.2)) := by
  induction T with
  | nil =>
    have : ∀ l : List Str, (l.map (toldV [])).sum = 0 := fun l => by
      induction l with
      | nil => rfl
      | cons y l ih =>
        rw [List.map_cons, List.sum_cons, ih]
        show (0 : Rat) + 0 = 0
        grind
    exact this ys
  | cons x T ih =>
    have hx := h x List.mem_cons_self
    have ih := ih (fun y hy => h y (List.mem_cons_of_mem _ hy)) fun y hy => hm y (List.mem_cons_of_mem _ hy)
    have e : ys.map (toldV (x :: T)) = ys.map fun t => (if x.1 = t then vQ x.2 else 0) + toldV T t := List.map_congr_left fun t _ => toldV_cons x T t
    rw [e, sum_names nd, ih, List.map_cons, sumR_cons]
    by_cases hp : 0 < x.2.1
    · rw [if_pos (hm x List.mem_cons_self hp)]
    · have h1 := (vQ_nn hx.1.pos).mp hx.2
      have h2 : vQ x.2 ≤ 0 := (vQ_np hx.1.pos).mpr (by omega)
      have h3 : vQ x.2 = 0 := by grind
      rw [h3]
      split <;> grind
theorem pairs_ok {T : Told} {r : Qp} {D : Int} {v : Rat} (h : TellR T r D v) {ks : List Str} (hk : KeysL T ks) : LdsOk D (v - vQ r) (pairsOf ks T) ∧ ∀ t, vQ (getQ (pairsOf ks T) t) = toldV T t := by
  have hT : ∀ x ∈ T, Fr x.2 ∧ 0 ≤ vQ x.2 := fun x hx => ⟨h.fr x hx, h.nn x hx⟩
  have hf : ∀ t, ∀ p ∈ nameParts t T, Fr p := fun t p hp => h.fr _ (np_mem hp).1
  have hv : ∀ t, vQ (sumQ (nameParts t T)) = toldV T t := fun t => by rw [vQ_sum (hf t), np_val hT]
  have hn : (pairsOf ks T).map (·.1) = ks := by
    unfold pairsOf
    rw [List.map_map]
    exact List.map_id _
  have pos : ∀ t ∈ ks, 0 < toldV T t := fun t ht => by
    obtain ⟨p, hp, p0⟩ := (hk.mem t).mp ht
    rw [← np_val hT]
    have hm : p ∈ nameParts t T := List.mem_map.mpr ⟨(t, p), List.mem_filter.mpr ⟨hp, by rw [decide_eq_true rfl, decide_eq_true p0]; rfl⟩, rfl⟩
    have h1 := sumR_ge (xs := nameParts t T) (fun x hx => (h.nn _ (np_mem hx).1)) hm
    have h2 := (vQ_pos (h.fr _ hp).pos).mpr p0
    grind
  refine ⟨⟨by rw [hn]; exact hk.nd, fun q hq => ?_, fun q hq => ?_, fun q hq => ?_, ?_⟩, fun t => ?_⟩
  · obtain ⟨t, ht, rfl⟩ := List.mem_map.mp hq
    exact fr_sum (hf t)
  · obtain ⟨t, ht, rfl⟩ := List.mem_map.mp hq
    show 0 < vQ (sumQ _)
    rw [hv]
    exact pos t ht
  · obtain ⟨t, ht, rfl⟩ := List.mem_map.mp hq
    show IntQ D (vQ (sumQ _))
    rw [vQ_sum (hf t)]
    exact intQ_sum fun p hp => h.iq _ (np_mem hp).1
  · have e : sumR ((pairsOf ks T).map (·.2)) = (ks.map (toldV T)).sum := by
      unfold sumR pairsOf
      rw [List.map_map, List.map_map]
      congr 1
      exact List.map_congr_left fun t _ => hv t
    rw [e, told_sum hT hk.nd fun x hx hp => (hk.mem x.1).mpr ⟨x.2, hx, hp⟩]
    have := h.sm
    have e3 : sumR (T.map (·.2)) = sumR (T.map Prod.snd) := rfl
    grind
  · by_cases ht : t ∈ ks
    · have h1 : (t, sumQ (nameParts t T)) ∈ pairsOf ks T := List.mem_map.mpr ⟨t, ht, rfl⟩
      have h2 := getQ_mem (by rw [hn]; exact hk.nd) h1
      have h2 : getQ (pairsOf ks T) t = sumQ (nameParts t T) := h2
      rw [h2, hv]
    · rw [getQ_none (by rw [hn]; exact ht), vQ0, ← np_val hT, np_nil fun z => ht ((hk.mem t).mpr z)]
      rfl
theorem TellR.perm {T U : Told} {r : Qp} {D : Int} {v : Rat} (h : TellR T r D v) (p : T.Perm U) : TellR U r D v := ⟨fun x hx => h.fr x (p.mem_iff.mpr hx), fun x hx => h.nn x (p.mem_iff.mpr hx), fun x hx => h.iq x (p.mem_iff.mpr hx), h.rf, h.rn, h.ri, by rw [← h.sm, sumR_perm (p.map Prod.snd)]⟩

end LW

namespace LW
open PySem PySem.Spec PyProof.Rows L2 RZ DL



theorem fm_congr {α β : Type} {f g : α → Option β} : ∀ {l : List α}, (∀ a ∈ l, f a = g a) → l.filterMap f = l.filterMap g
  | [], _ => rfl
  | a :: l, h => by
    rw [List.filterMap_cons, List.filterMap_cons, h a List.mem_cons_self, fm_congr fun b hb => h b (List.mem_cons_of_mem _ hb)]
theorem ne_of_steps : ¬ ("of" : Str) = "steps" := by decide +kernel
theorem ne_of_left : ¬ ("of" : Str) = "left" := by decide +kernel
theorem ne_of_length : ¬ ("of" : Str) = "length" := by decide +kernel
theorem ne_steps_of : ¬ ("steps" : Str) = "of" := by decide +kernel
theorem ne_steps_left : ¬ ("steps" : Str) = "left" := by decide +kernel
theorem ne_steps_length : ¬ ("steps" : Str) = "length" := by decide +kernel
theorem ne_left_of : ¬ ("left" : Str) = "of" := by decide +kernel
theorem ne_left_steps : ¬ ("left" : Str) = "steps" := by decide +kernel
theorem ne_left_length : ¬ ("left" : Str) = "length" := by decide +kernel
theorem ne_length_of : ¬ ("length" : Str) = "of" := by decide +kernel
theorem ne_length_steps : ¬ ("length" : Str) = "steps" := by decide +kernel
theorem ne_length_left : ¬ ("length" : Str) = "left" := by decide +kernel
theorem partAt_same {u v : Int} : ∀ {qs : List Rate}, (∀ up ∈ qs.filterMap (·.1), (u < up ↔ v < up)) → partAt qs u = partAt qs v
  | [], _ => rfl
  | (none, p) :: qs, _ => rfl
  | (some up, p) :: qs, h => by
    have h1 := h up (by simp)
    have ih := partAt_same (u := u) (v := v) (qs := qs) fun x hx => h x (by simp only [List.filterMap_cons]; exact List.mem_cons_of_mem _ hx)
    show (if u < up then p else partAt qs u) = if v < up then p else partAt qs v
    rw [ih]
    by_cases hu : u < up
    · rw [if_pos hu, if_pos (h1.mp hu)]
    · rw [if_neg hu, if_neg fun z => hu (h1.mpr z)]
theorem tell_same {rs : List Row} {u v : Int} (h : ∀ up ∈ uptosOf rs, (u < up ↔ v < up)) : tellP rs u = tellP rs v ∧ restP rs u = restP rs v := by
  have e : told0 rs u = told0 rs v := by
    unfold told0
    congr 1
    refine fm_congr fun r hr => ?_
    cases r with
    | steps n qs =>
      show some (n, partAt qs u) = some (n, partAt qs v)
      rw [partAt_same fun up hup => h up ?_]
      unfold uptosOf
      exact List.mem_flatMap.mpr ⟨qs, List.mem_filterMap.mpr ⟨_, hr, rfl⟩, hup⟩
    | of n p => rfl
    | left n p => rfl
    | length n p => rfl
  unfold tellP restP rest0
  rw [e]
  exact ⟨rfl, rfl⟩
def byK (s : Str) (rs : List Row) : List Row := rs.filter fun r => decide (kindS r = s)
theorem ofs_byK : ∀ rs : List Row, rs.filterMap ofN = (byK "of" rs).filterMap ofN
  | [] => rfl
  | r :: rs => by
    have ih := ofs_byK rs
    unfold byK at ih ⊢
    rw [List.filter_cons]
    cases r with
    | of n p =>
      rw [if_pos (show decide (kindS (Row.of n p) = ("of" : Str)) = true from decide_eq_true rfl), List.filterMap_cons, List.filterMap_cons, ih]
    | steps n p =>
      rw [if_neg (show ¬ decide (kindS (Row.steps n p) = ("of" : Str)) = true from fun z => ne_steps_of (of_decide_eq_true z)), ← ih]
      rfl
    | left n p =>
      rw [if_neg (show ¬ decide (kindS (Row.left n p) = ("of" : Str)) = true from fun z => ne_left_of (of_decide_eq_true z)), ← ih]
      rfl
    | length n p =>
      rw [if_neg (show ¬ decide (kindS (Row.length n p) = ("of" : Str)) = true from fun z => ne_length_of (of_decide_eq_true z)), ← ih]
      rfl
theorem sts_byK (u : Int) : ∀ rs : List Row, rs.filterMap (stN u) = (byK "steps" rs).filterMap (stN u)
  | [] => rfl
  | r :: rs => by
    have ih := sts_byK u rs
    unfold byK at ih ⊢
    rw [List.filter_cons]
    cases r with
    | steps n p =>
      rw [if_pos (show decide (kindS (Row.steps n p) = ("steps" : Str)) = true from decide_eq_true rfl), List.filterMap_cons, List.filterMap_cons, ih]
    | of n p =>
      rw [if_neg (show ¬ decide (kindS (Row.of n p) = ("steps" : Str)) = true from fun z => ne_of_steps (of_decide_eq_true z)), ← ih]
      rfl
    | left n p =>
      rw [if_neg (show ¬ decide (kindS (Row.left n p) = ("steps" : Str)) = true from fun z => ne_left_steps (of_decide_eq_true z)), ← ih]
      rfl
    | length n p =>
      rw [if_neg (show ¬ decide (kindS (Row.length n p) = ("steps" : Str)) = true from fun z => ne_length_steps (of_decide_eq_true z)), ← ih]
      rfl
theorem lefts_byK : ∀ (rs : List Row) (r : Qp), leftsP rs r = leftsP (byK "left" rs) r
  | [], _ => rfl
  | x :: rs, r => by
    have ih := lefts_byK rs
    unfold byK at ih ⊢
    rw [List.filter_cons]
    cases x with
    | left n p =>
      rw [if_pos (show decide (kindS (Row.left n p) = ("left" : Str)) = true from decide_eq_true rfl)]
      show ((n, mulQ r p) :: (leftsP rs (subQ r (mulQ r p))).1, (leftsP rs (subQ r (mulQ r p))).2) = _
      rw [ih]
      rfl
    | of n p =>
      rw [if_neg (show ¬ decide (kindS (Row.of n p) = ("left" : Str)) = true from fun z => ne_of_left (of_decide_eq_true z))]
      exact ih r
    | steps n p =>
      rw [if_neg (show ¬ decide (kindS (Row.steps n p) = ("left" : Str)) = true from fun z => ne_steps_left (of_decide_eq_true z))]
      exact ih r
    | length n p =>
      rw [if_neg (show ¬ decide (kindS (Row.length n p) = ("left" : Str)) = true from fun z => ne_length_left (of_decide_eq_true z))]
      exact ih r
theorem tell_kinds {rs os : List Row} (h : ∀ s ∈ (["of", "steps", "left", "length"] : List Str), byK s os = byK s rs) (u : Int) : tellP os u = tellP rs u ∧ restP os u = restP rs u := by
  have e0 : told0 os u = told0 rs u := by
    unfold told0
    rw [ofs_byK os, ofs_byK rs, sts_byK u os, sts_byK u rs, h "of" (by simp), h "steps" (by simp)]
  have e1 : ∀ r, leftsP os r = leftsP rs r := fun r => by rw [lefts_byK os, lefts_byK rs, h "left" (by simp)]
  have e2 : lenRows os = lenRows rs := h "length" (by simp)
  unfold tellP restP rest0
  rw [e0, e1, e2]
  exact ⟨rfl, rfl⟩
def sayR (s : Str) : Row → Row
  | .of _ p => .of s p
  | .steps _ qs => .steps s qs
  | .left _ p => .left s p
  | .length _ m => .length s m
theorem sayR_kind (s : Str) (r : Row) : kindS (sayR s r) = kindS r := by cases r <;> rfl
def sayT (s : Str) (T : Told) : Told := T.map fun x => (s, x.2)
theorem say_parts (s : Str) (T : Told) : (sayT s T).map Prod.snd = T.map Prod.snd := by
  unfold sayT
  rw [List.map_map]
  rfl
theorem say_told0 (s : Str) (rs : List Row) (u : Int) : told0 (rs.map (sayR s)) u = sayT s (told0 rs u) := by
  unfold told0 sayT
  rw [List.map_append, List.filterMap_map, List.filterMap_map, List.map_filterMap, List.map_filterMap]
  congr 1 <;> exact fm_congr fun r _ => by cases r <;> rfl
theorem say_lefts (s : Str) : ∀ (rs : List Row) (r : Qp), leftsP (rs.map (sayR s)) r = (sayT s (leftsP rs r).1, (leftsP rs r).2)
  | [], _ => rfl
  | x :: rs, r => by
    have ih := say_lefts s rs
    cases x with
    | left n p =>
      show ((s, mulQ r p) :: (leftsP (rs.map (sayR s)) (subQ r (mulQ r p))).1, (leftsP (rs.map (sayR s)) (subQ r (mulQ r p))).2) = _
      rw [ih]
      rfl
    | of n p => exact ih r
    | steps n p => exact ih r
    | length n p => exact ih r
theorem say_len (s : Str) (rs : List Row) : lenRows (rs.map (sayR s)) = (lenRows rs).map (sayR s) := by
  unfold lenRows
  rw [List.filter_map]
  congr 1
  exact List.filter_congr fun r _ => by rw [Function.comp, sayR_kind]
theorem say_lenR (s : Str) (r : Row) : lenR (sayR s r) = lenR r := by cases r <;> rfl
theorem say_tot (s : Str) (rs : List Row) : totR (rs.map (sayR s)) = totR rs := by
  unfold totR
  rw [List.map_map]
  congr 1
  exact List.map_congr_left fun r _ => say_lenR s r
theorem tell_say (s : Str) (rs : List Row) (u : Int) : tellP (rs.map (sayR s)) u = sayT s (tellP rs u) ∧ restP (rs.map (sayR s)) u = restP rs u := by
  have e0 : rest0 (rs.map (sayR s)) u = rest0 rs u := by
    unfold rest0
    rw [say_told0, say_parts]
  unfold tellP restP
  rw [e0, say_told0, say_lefts, say_len, say_tot]
  refine ⟨?_, ?_⟩
  · have e3 : lensE (leftsP rs (rest0 rs u)).2 (totR (lenRows rs)) ((lenRows rs).map (sayR s)) = sayT s (lensE (leftsP rs (rest0 rs u)).2 (totR (lenRows rs)) (lenRows rs)) := by
      unfold lensE sayT
      rw [List.map_map, List.map_map]
      exact List.map_congr_left fun r _ => by
        show (nameR (sayR s r), norm (_ * lenR (sayR s r)) _) = (s, norm (_ * lenR r) _)
        rw [say_lenR]
        cases r <;> rfl
    dsimp only
    rw [e3]
    unfold sayT
    rw [List.map_append, List.map_append]
  · dsimp only
    cases lenRows rs <;> rfl

end LW

namespace LW
open PySem PySem.Spec PyProof.Rows L2 RZ DL



theorem IntQ.ltM {D M : Int} {p : Qp} {n : Nat} (h : IntQ D (vQ p)) (hp : Fr p) (h0 : 0 < D) (hm : 0 < M) (hD : D * M < 2 ^ n) (b0 : 0 ≤ vQ p) (b1 : vQ p ≤ (M : Rat)) : Lt2 n p := by
  have h1 := Int.le_of_dvd h0 (h.dvd hp)
  have h2 := hp.pos
  have h3 := (vQ_nn h2).mp b0
  have e : vQ (M, 1) = (M : Rat) := by
    show (M : Rat) / ((1 : Int) : Rat) = M
    grind
  rw [← e, vQ_le h2 (show (0 : Int) < 1 by decide)] at b1
  have h4 : p.1 ≤ M * p.2 := by simpa using b1
  have h5 : (2 : Int) ^ n = ((2 ^ n : Nat) : Int) := by norm_cast
  have h6 : M * p.2 ≤ M * D := Int.mul_le_mul_of_nonneg_left h1 (by omega)
  rw [Int.mul_comm D M] at hD
  have h7 : D * 1 ≤ D * M := Int.mul_le_mul_of_nonneg_left (by omega) (by omega)
  rw [Int.mul_comm D M] at h7
  constructor <;> omega
theorem step_iq {D M : Int} {n : Nat} {xs : List Qp} (h : ∀ x ∈ xs, Fr x ∧ 0 ≤ vQ x ∧ IntQ D (vQ x)) (hs : sumR xs ≤ (M : Rat)) (h0 : 0 < D) (hm : 0 < M) (hD : D * M < 2 ^ n) (hn : 2 * n + 1 ≤ 8980) : StepOk xs := by
  rintro ys z zs rfl
  have hy : ∀ x ∈ ys, Fr x ∧ 0 ≤ vQ x ∧ IntQ D (vQ x) := fun x hx => h x (List.mem_append_left _ hx)
  obtain ⟨fz, nz, iz⟩ := h z (by simp)
  have e : sumR (ys ++ z :: zs) = sumR ys + (vQ z + sumR zs) := by rw [sumR_app, sumR_cons]
  rw [e] at hs
  have n1 := sumR_nn fun x hx => (hy x hx).2.1
  have n2 := sumR_nn (xs := zs) fun x hx => (h x (by simp [hx])).2.1
  have fs := fr_sum fun x hx => (hy x hx).1
  have vs := vQ_sum fun x hx => (hy x hx).1
  refine ⟨fun x hx => (hy x hx).1, fz, n, n, ?_, ?_, by omega⟩
  · refine IntQ.ltM (D := D) (M := M) ?_ fs h0 hm hD ?_ ?_
    · rw [vs]
      exact intQ_sum fun x hx => (hy x hx).2.2
    · rw [vs]
      exact n1
    · rw [vs]
      grind
  · exact IntQ.ltM iz fz h0 hm hD nz (by grind)
def addQ (l : Lds) (q : Str × Qp) (m : Int) : Lds := putQ l q.1 (sumQ [getQ l q.1, mulQ q.2 (m, 1)])
def addL (m : Int) : Lds → Lds → Lds
  | l, [] => l
  | l, q :: P => addL m (addQ l q m) P
theorem addL_app (m : Int) : ∀ (P Q l : Lds), addL m l (P ++ Q) = addL m (addL m l P) Q
  | [], _, _ => rfl
  | q :: P, Q, l => addL_app m P Q (addQ l q m)
structure AccOk (D : Int) (v : Rat) (l : Lds) : Prop where
  nd : (l.map (·.1)).Nodup
  fr : ∀ q ∈ l, Fr q.2
  nn : ∀ q ∈ l, 0 ≤ vQ q.2
  iq : ∀ q ∈ l, IntQ D (vQ q.2)
  sm : sumR (l.map (·.2)) = v
def PairOk (D : Int) (q : Str × Qp) : Prop := Fr q.2 ∧ 0 ≤ vQ q.2 ∧ IntQ D (vQ q.2)
theorem AccOk.nil (D : Int) : AccOk D 0 [] := ⟨List.nodup_nil, (fun _ h => nomatch h), (fun _ h => nomatch h), (fun _ h => nomatch h), rfl⟩
theorem AccOk.get {D : Int} {v : Rat} {l : Lds} (h : AccOk D v l) (s : Str) : Fr (getQ l s) ∧ 0 ≤ vQ (getQ l s) ∧ IntQ D (vQ (getQ l s)) := by
  by_cases hs : s ∈ l.map (·.1)
  · have hm := getQ_in hs
    have a := h.fr _ hm
    have b := h.nn _ hm
    have c := h.iq _ hm
    exact ⟨a, b, c⟩
  · rw [getQ_none hs, vQ0]
    exact ⟨fr01, Rat.le_refl, IntQ.zero⟩
theorem AccOk.le {D : Int} {v : Rat} {l : Lds} (h : AccOk D v l) (s : Str) : vQ (getQ l s) ≤ v := by
  have hn : ∀ x ∈ l.map (·.2), 0 ≤ vQ x := fun x hx => by
    obtain ⟨q, hq, rfl⟩ := List.mem_map.mp hx
    exact h.nn q hq
  rw [← h.sm]
  by_cases hs : s ∈ l.map (·.1)
  · exact sumR_ge hn (List.mem_map.mpr ⟨_, getQ_in hs, rfl⟩)
  · rw [getQ_none hs, vQ0]
    exact sumR_nn hn
theorem vQ_int (m : Int) : vQ (m, 1) = (m : Rat) := by
  show (m : Rat) / ((1 : Int) : Rat) = m
  grind
theorem fr_int (m : Int) : Fr (m, 1) := ⟨show (0 : Int) < 1 by decide, by show Int.gcd m 1 = 1; exact Int.gcd_one_right m⟩
theorem mul_m {p : Qp} (m : Int) (hp : Fr p) : Fr (mulQ p (m, 1)) ∧ vQ (mulQ p (m, 1)) = vQ p * (m : Rat) := ⟨fr_mul2 hp (fr_int m), by rw [vQ_mul hp.ne (show (1 : Int) ≠ 0 by decide), vQ_int]⟩
theorem ic_nn {m : Int} (h : 0 ≤ m) : (0 : Rat) ≤ (m : Rat) := by exact_mod_cast h
theorem pair_m {D : Int} {q : Str × Qp} {m : Int} (h : PairOk D q) (hm : 0 ≤ m) : Fr (mulQ q.2 (m, 1)) ∧ 0 ≤ vQ (mulQ q.2 (m, 1)) ∧ IntQ D (vQ (mulQ q.2 (m, 1))) ∧ vQ (mulQ q.2 (m, 1)) = vQ q.2 * (m : Rat) := by
  obtain ⟨h1, h2, h3⟩ := h
  obtain ⟨a, b⟩ := mul_m m h1
  refine ⟨a, ?_, ?_, b⟩
  · rw [b]
    exact Rat.mul_nonneg h2 (ic_nn hm)
  · rw [b]
    have := h3.mul (IntQ.int (D := 1) m)
    rw [Int.mul_one] at this
    exact this
theorem AccOk.add {D : Int} {v : Rat} {l : Lds} {q : Str × Qp} {m : Int} (h : AccOk D v l) (hq : PairOk D q) (hm : 0 ≤ m) : AccOk D (v + vQ q.2 * (m : Rat)) (addQ l q m) := by
  obtain ⟨p1, p2, p3, p4⟩ := pair_m hq hm
  obtain ⟨g1, g2, g3⟩ := h.get q.1
  obtain ⟨f1, f2⟩ := sum2 g1 p1
  have nd := putQ_nd (s := q.1) (p := sumQ [getQ l q.1, mulQ q.2 (m, 1)]) h.nd
  have key : ∀ x ∈ putQ l q.1 (sumQ [getQ l q.1, mulQ q.2 (m, 1)]), x ∈ l ∨ x.2 = sumQ [getQ l q.1, mulQ q.2 (m, 1)] := fun x hx => by
    have h1 := getQ_mem nd hx
    rw [getQ_put] at h1
    by_cases es : x.1 = q.1
    · rw [if_pos es] at h1
      exact .inr h1.symm
    · rw [if_neg es] at h1
      left
      have h2 : x.1 ∈ (putQ l q.1 (sumQ [getQ l q.1, mulQ q.2 (m, 1)])).map (·.1) := List.mem_map.mpr ⟨x, hx, rfl⟩
      rw [putQ_in] at h2
      have h3 := getQ_in (h2.resolve_right es)
      rw [h1] at h3
      exact h3
  unfold addQ
  refine ⟨nd, fun x hx => ?_, fun x hx => ?_, fun x hx => ?_, ?_⟩
  · rcases key x hx with h1 | h1
    · exact h.fr x h1
    · rw [h1]
      exact f1
  · rcases key x hx with h1 | h1
    · exact h.nn x h1
    · rw [h1, f2]
      grind
  · rcases key x hx with h1 | h1
    · exact h.iq x h1
    · rw [h1, f2]
      exact g3.add p3
  · rw [sumR_put h.nd, f2, h.sm, p4]
    grind
theorem addQ_val {l : Lds} {q : Str × Qp} {m : Int} (hl : Fr (getQ l q.1)) (hq : Fr q.2) (t : Str) : vQ (getQ (addQ l q m) t) = vQ (getQ l t) + (if q.1 = t then vQ q.2 else 0) * (m : Rat) := by
  obtain ⟨p1, p2⟩ := mul_m m hq
  unfold addQ
  rw [getQ_put]
  by_cases ht : t = q.1
  · rw [if_pos ht, if_pos ht.symm, (sum2 hl p1).2, p2, ht]
  · rw [if_neg ht, if_neg fun z => ht z.symm]
    grind
theorem AccOk.addL {D : Int} {m : Int} (hm : 0 ≤ m) : ∀ {P : Lds} {v : Rat} {l : Lds}, AccOk D v l → (∀ q ∈ P, PairOk D q) → AccOk D (v + sumR (P.map (·.2)) * (m : Rat)) (addL m l P)
  | [], v, l, h, _ => by
    have : v + sumR (([] : Lds).map (·.2)) * (m : Rat) = v := by
      show v + 0 * (m : Rat) = v
      grind
    rw [this]
    exact h
  | q :: P, v, l, h, hP => by
    have h1 := h.add (hP q List.mem_cons_self) hm
    have h2 := AccOk.addL hm h1 fun x hx => hP x (List.mem_cons_of_mem _ hx)
    have e : v + sumR ((q :: P).map (·.2)) * (m : Rat) = v + vQ q.2 * (m : Rat) + sumR (P.map (·.2)) * (m : Rat) := by
      rw [List.map_cons, sumR_cons]
      grind
    rw [e]
    exact h2
theorem addL_val {D : Int} {m : Int} (hm : 0 ≤ m) (t : Str) : ∀ {P : Lds} {v : Rat} {l : Lds}, AccOk D v l → (∀ q ∈ P, PairOk D q) → vQ (getQ (addL m l P) t) = vQ (getQ l t) + toldV P t * (m : Rat)
  | [], v, l, h, _ => by
    show vQ (getQ l t) = vQ (getQ l t) + 0 * (m : Rat)
    grind
  | q :: P, v, l, h, hP => by
    have hq := hP q List.mem_cons_self
    have h2 := addL_val hm t (h.add hq hm) fun x hx => hP x (List.mem_cons_of_mem _ hx)
    show vQ (getQ (addL m (addQ l q m) P) t) = _
    rw [h2, addQ_val (h.get q.1).1 hq.1, toldV_cons]
    grind
def nmS (ns : List Str) (s : Str) : List Str := if s ∈ ns then ns else ns ++ [s]
def nmL : List Str → List Str → List Str
  | ns, [] => ns
  | ns, s :: ss => nmL (nmS ns s) ss
theorem addL_names (m : Int) : ∀ (P l : Lds), (addL m l P).map (·.1) = nmL (l.map (·.1)) (P.map (·.1))
  | [], _ => rfl
  | q :: P, l => by
    show (addL m (addQ l q m) P).map (·.1) = _
    rw [addL_names m P]
    unfold addQ
    rw [putQ_names]
    rfl
theorem nmL_keep {t : Str} : ∀ (ss ns : List Str), t ∈ ns → t ∈ nmL ns ss
  | [], _, h => h
  | s :: ss, ns, h => nmL_keep ss (nmS ns s) (by
    unfold nmS
    split
    · exact h
    · exact List.mem_append_left _ h)
theorem nmL_in {t : Str} : ∀ (ss ns : List Str), t ∈ ss → t ∈ nmL ns ss
  | s :: ss, ns, h => by
    rcases List.mem_cons.mp h with rfl | h
    · refine nmL_keep ss _ ?_
      unfold nmS
      split
      · assumption
      · simp
    · exact nmL_in ss _ h
theorem nmL_id : ∀ (ss ns : List Str), (∀ t ∈ ss, t ∈ ns) → nmL ns ss = ns
  | [], _, _ => rfl
  | s :: ss, ns, h => by
    show nmL (nmS ns s) ss = ns
    have : nmS ns s = ns := if_pos (h s List.mem_cons_self)
    rw [this]
    exact nmL_id ss ns fun t ht => h t (List.mem_cons_of_mem _ ht)
theorem nmL_le : ∀ (ss ns U : List Str), (∀ t ∈ ss, t ∈ U) → (∀ t ∈ ns, t ∈ U) → ∀ t ∈ nmL ns ss, t ∈ U
  | [], _, _, _, h => h
  | s :: ss, ns, U, h1, h2 => nmL_le ss (nmS ns s) U (fun t ht => h1 t (List.mem_cons_of_mem _ ht)) (fun t ht => by
    unfold nmS at ht
    split at ht
    · exact h2 t ht
    · rcases List.mem_append.mp ht with ht | ht
      · exact h2 t ht
      · rw [List.mem_singleton.mp ht]
        exact h1 s List.mem_cons_self)
theorem lds_eq {l : Lds} (nd : (l.map (·.1)).Nodup) : l = (l.map (·.1)).map fun s => (s, getQ l s) := by
  rw [List.map_map]
  refine ((List.map_congr_left fun q hq => ?_).trans (List.map_id l)).symm
  show (q.1, getQ l q.1) = id q
  rw [getQ_mem nd hq]
  rfl
theorem acc_ext {D E : Int} {u v : Rat} {l m : Lds} (h1 : AccOk D u l) (h2 : AccOk E v m) (hn : l.map (·.1) = m.map (·.1)) (hv : ∀ t, vQ (getQ l t) = vQ (getQ m t)) : l = m := by
  rw [lds_eq h1.nd, lds_eq h2.nd, hn]
  exact List.map_congr_left fun s _ => by rw [vQ_inj (h1.get s).1 (h2.get s).1 (hv s)]
theorem add_again {D : Int} {v : Rat} {l P : Lds} {m : Int} (h : AccOk D v l) (hP : ∀ q ∈ P, PairOk D q) (hm : 0 ≤ m) : addL 1 (addL m l P) P = addL (m + 1) l P := by
  have h1 := AccOk.addL hm h hP
  have h2 := AccOk.addL (m := 1) (by decide) h1 hP
  have h3 := AccOk.addL (m := m + 1) (by omega) h hP
  refine acc_ext h2 h3 ?_ fun t => ?_
  · rw [addL_names, addL_names, addL_names]
    exact nmL_id _ _ fun t ht => nmL_in _ _ ht
  · rw [addL_val (by decide) t h1 hP, addL_val hm t h hP, addL_val (by omega) t h hP, Rat.intCast_add]
    have : ((1 : Int) : Rat) = 1 := rfl
    grind
theorem AccOk.step {D : Int} {v : Rat} {l : Lds} {q : Str × Qp} {m : Int} (h : AccOk D v l) (hq : PairOk D q) (q1 : vQ q.2 ≤ 1) (hm : 0 ≤ m ∧ m ≤ 100) (hv : v ≤ 100) (h0 : 0 < D) (hD : D < 2 ^ 700) : StepOk [getQ l q.1, mulQ q.2 (m, 1)] ∧ Lt2 4400 q.2 ∧ Lt2 4400 (m, 1) := by
  obtain ⟨p1, p2, p3, p4⟩ := pair_m hq hm.1
  obtain ⟨g1, g2, g3⟩ := h.get q.1
  have hD2 : D * 100 < 2 ^ 707 := by omega
  have c100 : ((100 : Int) : Rat) = 100 := rfl
  have b1 : Lt2 707 (getQ l q.1) := IntQ.ltM g3 g1 h0 (by decide) hD2 g2 (by
    have := h.le q.1
    rw [c100]
    grind)
  have mr : (m : Rat) ≤ 100 := by
    have := Rat.intCast_le_intCast.mpr hm.2
    rw [c100] at this
    exact this
  have b2 : Lt2 707 (mulQ q.2 (m, 1)) := IntQ.ltM p3 p1 h0 (by decide) hD2 p2 (by
    rw [p4, c100]
    have := Rat.mul_le_mul_of_nonneg_right q1 (ic_nn hm.1)
    grind)
  refine ⟨step_two g1 p1 b1 b2 (by decide), (hq.2.2.lt2 hq.1 h0 hD hq.2.1 q1).mono (by decide), ?_⟩
  have n4 : (128 : Nat) < 2 ^ 4400 := Nat.lt_of_lt_of_le (by decide : 128 < 2 ^ 8) (Nat.pow_le_pow_right (by decide) (by decide))
  constructor
  · show m.natAbs < _
    omega
  · show 1 < _
    omega
def L60 : Int := 9690712164777231700912800
theorem all60 : (List.range 60).all (fun n => decide (L60 % ((n : Int) + 1) = 0)) = true := by decide +kernel
theorem dvd60 {b : Int} (h : 0 < b ∧ b ≤ 60) : b ∣ L60 := by
  have := List.all_eq_true.mp all60 (b - 1).toNat (List.mem_range.mpr (by omega))
  have := of_decide_eq_true this
  have e : (((b - 1).toNat : Nat) : Int) + 1 = b := by omega
  rw [e] at this
  exact Int.dvd_of_emod_eq_zero this
theorem denP_dvd {u : Int} : ∀ {rs : List Row}, (∀ r ∈ rs, RowS r) → denP u rs ∣ L60 ^ rs.length
  | [], _ => ⟨1, rfl⟩
  | r :: rs, h => by
    show denR u r * denP u rs ∣ L60 ^ (rs.length + 1)
    rw [Int.pow_succ, Int.mul_comm (L60 ^ rs.length)]
    exact Int.mul_dvd_mul (dvd60 (denR_bd (h r List.mem_cons_self))) (denP_dvd fun x hx => h x (List.mem_cons_of_mem _ hx))
def denU (rs : List Row) : Int := L60 ^ 8 * (if lenRows rs = [] then 1 else totR (lenRows rs))
theorem pow_dvd8 {a : Int} {n : Nat} (h : n ≤ 8) : a ^ n ∣ a ^ 8 := ⟨a ^ (8 - n), by rw [← Int.pow_add]; congr 1; omega⟩
theorem denW_dvd {rs : List Row} {u : Int} (h : ∀ r ∈ rs, RowS r) (hl : rs.length ≤ 8) : denW rs u ∣ denU rs := by
  unfold denW denU
  exact Int.mul_dvd_mul (Int.dvd_trans (denP_dvd h) (pow_dvd8 hl)) (Int.dvd_refl _)
theorem denU_bd {rs : List Row} (h : ∀ r ∈ rs, RowS r) (hl : rs.length ≤ 8) : 0 < denU rs ∧ denU rs < 2 ^ 700 := by
  have h0 : ∀ r ∈ rs, RowOk r := fun r hr => (h r hr).ok
  have hL : ∀ z ∈ lenRows rs, IsLen z := fun z hz => by
    obtain ⟨g1, g2⟩ := flt_mem hz
    obtain ⟨s, l, rfl⟩ := kind_len g2
    exact ⟨s, l, rfl, (h0 _ g1).1, (h0 _ g1).2⟩
  obtain ⟨c1, c2⟩ := tot_bd hL
  have ll : (lenRows rs).length ≤ rs.length := flt_len rs "length"
  have b0 : (0 : Int) < L60 ^ 8 ∧ L60 ^ 8 * 8000 < 2 ^ 700 := by decide +kernel
  unfold denU
  by_cases hn : lenRows rs = []
  · rw [if_pos hn, Int.mul_one]
    have := b0.1
    have := b0.2
    exact ⟨b0.1, by omega⟩
  · have hl2 : 0 < (lenRows rs).length := List.length_pos_iff.mpr hn
    rw [if_neg hn]
    refine ⟨Int.mul_pos b0.1 (by omega), Int.lt_of_le_of_lt (Int.mul_le_mul_of_nonneg_left (show totR (lenRows rs) ≤ 8000 by omega) (Int.le_of_lt b0.1)) b0.2⟩
theorem IsKeys.kl {T : Told} {ks : List Str} (h : IsKeys T ks) : KeysL T ks := ⟨h.nd, h.mem⟩
theorem tell_u {rs : List Row} {u : Int} (h : ∀ r ∈ rs, RowS r) (hw : RowsW rs 60) (hl : rs.length ≤ 8) : TellR (tellP rs u) (restP rs u) (denU rs) 1 := (parting_tell h hw).up (denW_dvd h hl)
theorem unit_pairs {rs : List Row} {u : Int} (h : ∀ r ∈ rs, RowS r) (hw : RowsW rs 60) (hl : rs.length ≤ 8) {ks : List Str} (hk : IsKeys (tellP rs u) ks) : (∀ q ∈ pairsOf ks (tellP rs u) ++ [(("" : Str), restP rs u)], PairOk (denU rs) q ∧ vQ q.2 ≤ 1) ∧ sumR ((pairsOf ks (tellP rs u) ++ [(("" : Str), restP rs u)]).map (·.2)) = 1 := by
  have t := tell_u (u := u) h hw hl
  obtain ⟨p, _⟩ := pairs_ok t hk.kl
  have e : sumR ((pairsOf ks (tellP rs u) ++ [(("" : Str), restP rs u)]).map (·.2)) = 1 := by
    rw [List.map_append, sumR_app, p.sm]
    show _ + (vQ (restP rs u) + 0) = 1
    grind
  have nn : ∀ q ∈ pairsOf ks (tellP rs u) ++ [(("" : Str), restP rs u)], PairOk (denU rs) q := fun q hq => by
    rcases List.mem_append.mp hq with hq | hq
    · exact ⟨p.fr q hq, Rat.le_of_lt (p.pos q hq), p.iq q hq⟩
    · rw [List.mem_singleton.mp hq]
      exact ⟨t.rf, t.rn, t.ri⟩
  refine ⟨fun q hq => ⟨nn q hq, ?_⟩, e⟩
  rw [← e]
  exact sumR_ge (fun x hx => by
    obtain ⟨y, hy, rfl⟩ := List.mem_map.mp hx
    exact (nn y hy).2.1) (List.mem_map_of_mem hq)
theorem say_keys {T : Told} {r : Qp} {D : Int} {s : Str} (h : TellR T r D 1) {ks : List Str} (hk : IsKeys (sayT s T) ks) : (r = (1, 1) ∧ pairsOf ks (sayT s T) = []) ∨ (¬ r = (1, 1) ∧ pairsOf ks (sayT s T) = [(s, sumQ [(1, 1), negQ r])]) := by
  have hs : TellR (sayT s T) r D 1 := by
    refine ⟨fun x hx => ?_, fun x hx => ?_, fun x hx => ?_, h.rf, h.rn, h.ri, ?_⟩
    · obtain ⟨y, hy, rfl⟩ := List.mem_map.mp hx
      exact h.fr y hy
    · obtain ⟨y, hy, rfl⟩ := List.mem_map.mp hx
      exact h.nn y hy
    · obtain ⟨y, hy, rfl⟩ := List.mem_map.mp hx
      exact h.iq y hy
    · rw [say_parts]
      exact h.sm
  obtain ⟨p, _⟩ := pairs_ok hs hk.kl
  have hn : (pairsOf ks (sayT s T)).map (·.1) = ks := by
    unfold pairsOf
    rw [List.map_map]
    exact List.map_id _
  have hall : ∀ t ∈ ks, t = s := fun t ht => by
    obtain ⟨q, hq, _⟩ := (hk.mem t).mp ht
    obtain ⟨y, _, e⟩ := List.mem_map.mp hq
    cases e
    rfl
  cases ks with
  | nil =>
    left
    refine ⟨vQ_inj h.rf fr11 ?_, rfl⟩
    have := p.sm
    have e0 : sumR ((pairsOf [] (sayT s T)).map (·.2)) = 0 := rfl
    rw [e0] at this
    rw [vQ1]
    grind
  | cons t ks =>
    have ht := hall t List.mem_cons_self
    have hks : ks = [] := by
      cases ks with
      | nil => rfl
      | cons x ks =>
        have h1 := hall x (by simp)
        have h2 := hk.nd
        rw [List.nodup_cons] at h2
        exact absurd (show t ∈ x :: ks by rw [ht, h1]; exact List.mem_cons_self) h2.1
    subst hks
    subst ht
    right
    have hm : (t, sumQ (nameParts t (sayT t T))) ∈ pairsOf [t] (sayT t T) := List.mem_cons_self
    have hp := p.pos _ hm
    have hf := p.fr _ hm
    have sm := p.sm
    have e1 : sumR ((pairsOf [t] (sayT t T)).map (·.2)) = vQ (sumQ (nameParts t (sayT t T))) + 0 := rfl
    rw [e1] at sm
    have hp : 0 < vQ (sumQ (nameParts t (sayT t T))) := hp
    have hf : Fr (sumQ (nameParts t (sayT t T))) := hf
    refine ⟨fun e => ?_, ?_⟩
    · rw [e, vQ1] at sm
      grind
    · show [(t, sumQ (nameParts t (sayT t T)))] = _
      have f2 : Fr (sumQ [(1, 1), negQ r]) := by
        rw [sum_neg1 fr11 h.rf]
        exact fr_sub2 fr11 h.rf
      rw [vQ_inj hf f2 ?_]
      rw [sum_neg1 fr11 h.rf, vQ_sub fr11 h.rf, vQ1]
      grind

end LW

namespace LW
open PySem PySem.Spec PyProof.Rows L2 RZ DL
local macro_rules | `(tactic| simp! only [$xs,*] $[$loc]?) => `(tactic| simp only [$xs,*, sem0,List.map_cons,List.map_nil,List.length_cons,List.length_nil,gSeq,gNext,gRet,gRetN,gIfS,gSet,gPar,gAsg,gDrop,gVar,gC,gBin,gUn,gB,gTru,gAnd,gOr,gNot,gAndV,gOrV,gNotV,gIf,gChain,gaNil,gaCons,DL.gTup,DL.gLst,gCB,gCall0,gAug,addD_i,addD_s,addD_l,addD_t,subD_i,mulD_i,mulD_l,fdivD_i,modD_i,powD_i,ltD_i,ltD_s,leD_i,gtD_i,geD_i,isD_n,isnotD_n,isNonD_non,isNonD_bl,isNonD_int,isNonD_str,isNonD_lst,isNonD_tup,negD_i,iaddD_i,truD_non,truD_bl,truD_int,truD_str,truD_lst,truD_tup,someK_some,ixD_l,ixD_t,fAbs_i,fInt_i,fInt_b,fMin2_i,fLen_l,fLen_t,fLen_s,fList_l,fList_t,fTuple_l,fTuple_t,optBK_some,fIsi_non,fIsi_bl,fIsi_int,fIsi_str,fIsi_lst,fIsi_tup,List.getElem?_cons_zero,List.getElem?_cons_succ,List.set_cons_zero,List.set_cons_succ,DL.ggName,ggNil0,ggCons1,ggTup2,ggTup3,gFor,giSeq,gLc,gYes,wipeR,true_and,and_true,at_0,at_1,at_2,kit_int_int,kit_bool_int,kit_str_int,kit_non_int,kit_list_int,kit_tuple_int,kit_int_bool,kit_bool_bool,kit_str_bool,kit_non_bool,kit_list_bool,kit_tuple_bool,kit_int_str,kit_bool_str,kit_str_str,kit_non_str,kit_list_str,kit_tuple_str,kit_int_list,kit_bool_list,kit_str_list,kit_non_list,kit_list_list,kit_tuple_list,kit_int_tuple,kit_bool_tuple,kit_str_tuple,kit_non_tuple,kit_list_tuple,kit_tuple_tuple,eqD_i,neD_i,eqD_s,neD_s,eqD_f,neD_f,Nat.zero_add,Nat.reduceAdd,nc0,nc1,nc2,nc3,nc4,nc5,nc6,nc7,nc8,nc9,eq_self,decide_true,decide_false,Int.reduceEq,Int.reduceLT,Int.reduceLE,Int.reduceNeg,Bool.not_true,Bool.not_false,Bool.false_eq_true,if_true,if_false,↓reduceIte,false_and,and_false,List.all_cons,List.all_nil,List.any_cons,List.any_nil,id_eq,Bool.and_true,Bool.true_and,Bool.or_false,Bool.false_or,Bool.and_false,Bool.false_and,gCut,eqD_b,neD_b,giZip,reduceCtorEq,Bool.true_eq_false,Bool.false_eq_true,gRevL,gSl,goNone,goSome,slD_l,ne_eq,not_false_eq_true,not_true_eq_false,gBM,isTy_l,isTy_s,new_at,new_set,isTy_new,cellK_new,append_new,popAt_new,gFrz_eq,frzK_new,fLen_new,fTuple_new,ixD_new,slA_l,slA_t,slA_new,addTD_t,addCD_l,mulCD_l,isbD_b,isnotbD_b,mSplitC_s,gLstC,gTr,ggSub,lstK_l,lstK_r,addLD_eq] $[$loc]?)



def sp__law_sum : GF := fun ds w _ k => ∃ (xs : List Qp), ds = [.lst (xs.map fD)] ∧ StepOk xs ∧ k (fD (sumQ xs)) w
abbrev s__law_sum : Stmt := topS 34
theorem sc__law_sum : FnScope ["_law_parts", "_law_top", "_law_below", "_law_one", "_law_other"] ["_law_parts"] (defScope s__law_sum) := ⟨rfl, rfl, rfl, by decide +kernel, rfl, by decide +kernel, by decide +kernel⟩
def g__law_sum : GS := (gSeq (gAsg (gTup (gaCons (gC (.int 0)) (gaCons (gC (.int 1)) gaNil))) (ggTup 2 (ggCons (ggName 1) (ggCons (ggName 2) ggNil))))
  (gSeq (gFor (giSeq (gVar 0)) (ggTup 2 (ggCons (ggName 3) (ggCons (ggName 4) ggNil))) (gAsg (gCall0 2 sp__law_lowest (gaCons (gBin addD (gBin mulD (gVar 1) (gVar 4)) (gBin mulD (gVar 3) (gVar 2))) (gaCons (gBin mulD (gVar 2) (gVar 4)) gaNil))) (ggTup 2 (ggCons (ggName 1) (ggCons (ggName 2) ggNil)))))
  (gRet (gTup (gaCons (gVar 1) (gaCons (gVar 2) gaNil))))))
theorem w__law_sum {P : Program} {w : World} {K : PySem.W.Frag} {mg : Str → Option Value} {base : Heap} (T : DefAt K mg "_law_sum" s__law_sum ["_law_parts"]) (B : Blt mg) (F__law_lowest : FnAt P w K mg base CX0 1 "_law_lowest" 2 sp__law_lowest) : FnAt P w K mg base CX0 2 "_law_sum" 1 (sem0 5 g__law_sum) := by
  have nd := sc__law_sum.nd
  exact T.fn0 sc__law_sum (fun f cdv A outer s H E hr => (dss_cons (ds_asg (de_tup (da_cons de_int (da_cons de_int da_nil))) (dg_tup rfl (dgs_cons (dg_name (i := 1) nd rfl (by first | exact Or.inl rfl | exact Or.inr rfl)) (dgs_cons (dg_name (i := 2) nd rfl (by first | exact Or.inl rfl | exact Or.inr rfl)) dgs_nil))))
  (dss_cons (ds_for PassesOwn.never rfl (di_seq (de_var 0)) (dg_tup rfl (dgs_cons (dg_name (i := 3) nd rfl (by first | exact Or.inl rfl | exact Or.inr rfl)) (dgs_cons (dg_name (i := 4) nd rfl (by first | exact Or.inl rfl | exact Or.inr rfl)) dgs_nil))) (dss_one (ds_asg (de_call0 F__law_lowest hr (by rfl) (da_cons (de_add (de_mul (de_var 1) (de_var 4)) (de_mul (de_var 3) (de_var 2))) (da_cons (de_mul (de_var 2) (de_var 4)) da_nil))) (dg_tup rfl (dgs_cons (dg_name (i := 1) nd rfl (by first | exact Or.inl rfl | exact Or.inr rfl)) (dgs_cons (dg_name (i := 2) nd rfl (by first | exact Or.inl rfl | exact Or.inr rfl)) dgs_nil))))))
  (dss_one (ds_ret (de_tup (da_cons (de_var 1) (da_cons (de_var 2) da_nil))))))))

theorem v__law_sum : ∀ ds w kx k, sp__law_sum ds w kx k → sem0 5 g__law_sum ds w kx k := by
  rintro ds w kx k ⟨xs, rfl, hS, hk⟩
  have e : rho 5 [D.lst (xs.map fD)] = [some (.lst (xs.map fD)), none, none, none, none] := rfl
  simp! only [g__law_sum, e, sp__law_lowest]
  refine ⟨by decide, fun rem ρ w' => w' = w ∧ ∃ ys zs a b, xs = ys ++ zs ∧ rem = zs.map fD ∧ ρ = [some (.lst (xs.map fD)), some (.int (sumQ ys).1), some (.int (sumQ ys).2), a, b], ⟨rfl, [], xs, none, none, rfl, rfl, by rw [sumQ_nil]⟩, ?_, ?_⟩
  · rintro ρ w' ⟨rfl, ys, zs, a, b, e1, e2, rfl⟩
    have : zs = [] := by simpa using e2.symm
    subst this
    rw [List.append_nil] at e1
    subst e1
    refine ⟨trivial, ?_⟩
    simp! only [id_eq]
    exact ⟨by decide, hk⟩
  · rintro x rem ρ w' ⟨rfl, ys, zs, a0, b0, e1, e2, rfl⟩
    cases zs with
    | nil => cases e2
    | cons z zs =>
      rw [List.map_cons] at e2
      injection e2 with e2 e3
      subst e2
      subst e3
      obtain ⟨hy, fz, c, d, ly, lz, hcd⟩ := hS ys z zs e1
      subst e1
      have fy := fr_sum hy
      refine ⟨trivial, ?_⟩
      simp! only [ixD_f0, ixD_f1, ggTup_f, fIsi_f, fLen_f, eqD_ff, neD_ff]
      have m1 := mulx_ok ly.1 lz.2 (by omega)
      have m2 := mulx_ok lz.1 ly.2 (by omega)
      have m3 := mulx_ok ly.2 lz.2 (by omega)
      have n0 : (sumQ ys).2 * z.2 ≠ 0 := Int.mul_ne_zero (by have := fy.pos; omega) (by have := fz.pos; omega)
      have b1 := wide_lt ly.1 lz.2
      have b2 := wide_lt lz.1 ly.2
      rw [Nat.add_comm d] at b2
      refine ⟨m1, m2, m3, _, _, rfl, ⟨n0, nat_mono (wide_lt ly.2 lz.2) (by omega), nat_mono (add_lt b1 b2) (by omega)⟩, ?_⟩
      rw [sumQ_snoc hy fz]
      simp! only [ixD_f0, ixD_f1, ggTup_f, fIsi_f, fLen_f, eqD_ff, neD_ff]
      exact ⟨ys ++ [z], zs, ⟨_, _, by simp, rfl, rfl⟩⟩
theorem ok__law_sum {P : Program} {w : World} {K : PySem.W.Frag} {mg : Str → Option Value} {base : Heap} (T : DefAt K mg "_law_sum" s__law_sum ["_law_parts"]) (B : Blt mg) (F__law_lowest : FnAt P w K mg base CX0 1 "_law_lowest" 2 sp__law_lowest) : FnAt P w K mg base CX0 2 "_law_sum" 1 sp__law_sum := (w__law_sum T B F__law_lowest).imp v__law_sum


def sp__law_times : GF := fun ds w _ k => ∃ x y : Qp, ds = [fD x, fD y] ∧ (x.2 ≠ 0 ∧ y.2 ≠ 0 ∧ Lt2 4400 x ∧ Lt2 4400 y) ∧ k (fD (mulQ x y)) w
abbrev s__law_times : Stmt := topS 35
theorem sc__law_times : FnScope ["_law_one", "_law_other"] ["_law_one", "_law_other"] (defScope s__law_times) := ⟨rfl, rfl, rfl, by decide +kernel, rfl, by decide +kernel, by decide +kernel⟩
def g__law_times : GS := (gRet (gCall0 2 sp__law_lowest (gaCons (gBin mulD (gBin ixD (gVar 0) (gC (.int 0))) (gBin ixD (gVar 1) (gC (.int 0)))) (gaCons (gBin mulD (gBin ixD (gVar 0) (gC (.int 1))) (gBin ixD (gVar 1) (gC (.int 1)))) gaNil))))
theorem w__law_times {P : Program} {w : World} {K : PySem.W.Frag} {mg : Str → Option Value} {base : Heap} (T : DefAt K mg "_law_times" s__law_times ["_law_one", "_law_other"]) (B : Blt mg) (F__law_lowest : FnAt P w K mg base CX0 1 "_law_lowest" 2 sp__law_lowest) : FnAt P w K mg base CX0 2 "_law_times" 2 (sem0 2 g__law_times) := by
  have nd := sc__law_times.nd
  exact T.fn0 sc__law_times (fun f cdv A outer s H E hr => (dss_one (ds_ret (de_call0 F__law_lowest hr (by rfl) (da_cons (de_mul (de_ix (de_var 0) de_int) (de_ix (de_var 1) de_int)) (da_cons (de_mul (de_ix (de_var 0) de_int) (de_ix (de_var 1) de_int)) da_nil))))))

theorem v__law_times : ∀ ds w kx k, sp__law_times ds w kx k → sem0 2 g__law_times ds w kx k := by
  rintro ds w kx k ⟨x, y, rfl, ⟨hx, hy, lx, ly⟩, hk⟩
  have e : rho 2 [fD x, fD y] = [some (fD x), some (fD y)] := rfl
  simp! only [g__law_times, e, sp__law_lowest, ixD_f0, ixD_f1, ggTup_f, fIsi_f, fLen_f, eqD_ff, neD_ff]
  exact ⟨mulx_ok lx.1 ly.1 (by decide), mulx_ok lx.2 ly.2 (by decide), _, _, rfl, ⟨Int.mul_ne_zero hx hy, nat_mono (wide_lt lx.2 ly.2) (by decide), nat_mono (wide_lt lx.1 ly.1) (by decide)⟩, hk⟩
theorem ok__law_times {P : Program} {w : World} {K : PySem.W.Frag} {mg : Str → Option Value} {base : Heap} (T : DefAt K mg "_law_times" s__law_times ["_law_one", "_law_other"]) (B : Blt mg) (F__law_lowest : FnAt P w K mg base CX0 1 "_law_lowest" 2 sp__law_lowest) : FnAt P w K mg base CX0 2 "_law_times" 2 sp__law_times := (w__law_times T B F__law_lowest).imp v__law_times


theorem set_sm {M : List Cell} {i : Nat} {c : Cell} (h : M[i]? = some c) : M.set i c = M := by
  obtain ⟨h1, h2⟩ := List.getElem?_eq_some_iff.mp h
  rw [← h2]
  exact List.set_getElem_self h1
def sp__law_some_rows : GF := fun ds w _ k => ∃ c n : Nat, ds = [.st] ∧ (w.n = some c ∧ n + 200 ≤ c) ∧ ∀ rs ss c', RowsS rs ss 8 → Drawn ss → n ≤ c' → k (.tup (rs.map rowD)) ⟨w.M, some c'⟩
abbrev s__law_some_rows : Stmt := topS 40
theorem sc__law_some_rows : FnScope ["_law_state", "_law_many"] ["_law_state"] (defScope s__law_some_rows) := ⟨rfl, rfl, rfl, by decide +kernel, rfl, by decide +kernel, by decide +kernel⟩
def g__law_some_rows : GS := (gSeq (gSet 1 (gBin ixD (DL.gLst (gaCons (gCall0 2 sp__law_take (gaCons (gVar 0) (gaCons (gC (.int 5)) gaNil))) (gaCons (gCall0 2 sp__law_take (gaCons (gVar 0) (gaCons (gC (.int 9)) gaNil))) gaNil))) (gCB fInt (gaCons (gBin eqD (gCall0 2 sp__law_take (gaCons (gVar 0) (gaCons (gC (.int 6)) gaNil))) (gC (.int 0))) gaNil))))
  (gRet (gCall0 3 sp__law_rows (gaCons (gVar 0) (gaCons (gCall0 2 sp__law_names (gaCons (gVar 0) (gaCons (gBin addD (gC (.int 1)) (gCall0 2 sp__law_take (gaCons (gVar 0) (gaCons (gC (.int 5)) gaNil)))) gaNil))) (gaCons (gVar 1) gaNil))))))
theorem w__law_some_rows {P : Program} {w : World} {K : PySem.W.Frag} {mg : Str → Option Value} {base : Heap} (T : DefAt K mg "_law_some_rows" s__law_some_rows ["_law_state"]) (B : Blt mg) (F__law_rows : FnAt P w K mg base CX0 4 "_law_rows" 3 sp__law_rows) (F__law_names : FnAt P w K mg base CX0 2 "_law_names" 2 sp__law_names) (F__law_take : FnAt P w K mg base CX0 1 "_law_take" 2 sp__law_take) : FnAt P w K mg base CX0 5 "_law_some_rows" 1 (sem0 2 g__law_some_rows) := by
  have nd := sc__law_some_rows.nd
  exact T.fn0 sc__law_some_rows (fun f cdv A outer s H E hr => (dss_cons (ds_set (i := 1) nd rfl (by first | exact Or.inl rfl | exact Or.inr rfl) (de_ix (de_lst (da_cons (de_call0 F__law_take hr (by rfl) (da_cons (de_var 0) (da_cons de_int da_nil))) (da_cons (de_call0 F__law_take hr (by rfl) (da_cons (de_var 0) (da_cons de_int da_nil))) da_nil))) (de_toint B (by rfl) (da_cons (de_eq hr (de_call0 F__law_take hr (by rfl) (da_cons (de_var 0) (da_cons de_int da_nil))) de_int) da_nil))))
  (dss_one (ds_ret (de_call0 F__law_rows hr (by rfl) (da_cons (de_var 0) (da_cons (de_call0 F__law_names hr (by rfl) (da_cons (de_var 0) (da_cons (de_add de_int (de_call0 F__law_take hr (by rfl) (da_cons (de_var 0) (da_cons de_int da_nil)))) da_nil))) (da_cons (de_var 1) da_nil))))))))

theorem v__law_some_rows : ∀ ds w kx k, sp__law_some_rows ds w kx k → sem0 2 g__law_some_rows ds w kx k := by
  rintro ds w kx k ⟨c, n, rfl, ⟨hn, hc⟩, hk⟩
  have e : rho 2 [D.st] = [some .st, none] := rfl
  simp! only [g__law_some_rows, e, sp__law_take]
  refine take_use (n + 199) hn (by omega) ⟨by decide, log_of (by decide)⟩ fun r1 c1 a0 a1 hc1 => ?_
  refine take_use (n + 198) rfl (by omega) ⟨by decide, log_of (by decide)⟩ fun r2 c2 a2 a3 hc2 => ⟨by decide, take_use (n + 197) rfl (by omega) ⟨by decide, log_of (by decide)⟩ fun r3 c3 a4 a5 hc3 => ?_⟩
  rw [eqD_i, fInt_b]
  have hi : 0 ≤ (if decide (r3 = 0) = true then (1 : Int) else 0) ∧ (if decide (r3 = 0) = true then (1 : Int) else 0) < 2 := by split <;> decide
  refine ix_all (fun d => ∃ b : Int, d = .int b ∧ 0 ≤ b ∧ b ≤ 8) hi.1 hi.2 (all_cons ⟨_, rfl, by omega, by omega⟩ (all_cons ⟨_, rfl, by omega, by omega⟩ all_nil)) ?_
  rintro d ⟨b, rfl, hb0, hb⟩
  refine take_use (n + 196) rfl (by omega) ⟨by decide, log_of (by decide)⟩ fun r4 c4 a6 a7 hc4 => ?_
  rw [addD_i]
  refine names_use (n + 170) rfl (by omega) ⟨by omega, by omega⟩ fun ss c5 b1 b2 hc5 => ?_
  refine ⟨ss, b.toNat, c5, n, by rw [Int.toNat_of_nonneg hb0], ⟨⟨by omega, by omega, by omega, b2.ok⟩, rfl, by omega⟩, fun rs c6 b3 hc6 => hk rs ss c6 ⟨Nat.le_trans b3.len (by omega), b3.ok, b3.nm, b3.w, b3.lf⟩ b2 hc6⟩
theorem some_rows_use {w : Wd} {c : Nat} {kx : KX} {k : KD} (n : Nat) (hn : w.n = some c) (hc : n + 200 ≤ c) (h : ∀ rs ss c', RowsS rs ss 8 → Drawn ss → n ≤ c' → k (.tup (rs.map rowD)) ⟨w.M, some c'⟩) : sp__law_some_rows [.st] w kx k := ⟨c, n, rfl, ⟨hn, hc⟩, h⟩
theorem ok__law_some_rows {P : Program} {w : World} {K : PySem.W.Frag} {mg : Str → Option Value} {base : Heap} (T : DefAt K mg "_law_some_rows" s__law_some_rows ["_law_state"]) (B : Blt mg) (F__law_rows : FnAt P w K mg base CX0 4 "_law_rows" 3 sp__law_rows) (F__law_names : FnAt P w K mg base CX0 2 "_law_names" 2 sp__law_names) (F__law_take : FnAt P w K mg base CX0 1 "_law_take" 2 sp__law_take) : FnAt P w K mg base CX0 5 "_law_some_rows" 1 sp__law_some_rows := (w__law_some_rows T B F__law_rows F__law_names F__law_take).imp v__law_some_rows

theorem pool_nm : ∀ s ∈ pool, Nm s := by
  have : pool.all (fun s => PyData.strOk s && decide (1 ≤ s.length) && decide (s.length ≤ 8) && s.cps.toList.all fun c => decide (97 ≤ c ∧ c ≤ 122)) = true := by decide +kernel
  exact List.all_eq_true.mp this
theorem Drawn.nm {ss : List Str} (h : Drawn ss) : ∀ s ∈ ss, Nm s := fun s hs => by
  obtain ⟨rest, p⟩ := h
  exact pool_nm s (p.mem_iff.mp (List.mem_append_left _ hs))
def sp__law_added : GF := fun ds w _ k => ∃ (i : Nat) (l P : Lds) (m B : Int) (v : Rat), ds = [.rf i, .lst (P.map pairD), .int m] ∧ (w.M[i]? = some (.dk (dkQ l)) ∧ AccOk B v l ∧ (∀ q ∈ P, PairOk B q ∧ vQ q.2 ≤ 1) ∧ (0 ≤ m ∧ m ≤ 100) ∧ v + sumR (P.map (·.2)) * (m : Rat) ≤ 100 ∧ (0 < B ∧ B < 2 ^ 700) ∧ l.length + P.length ≤ 1000) ∧ k (.rf i) ⟨w.M.set i (.dk (dkQ (addL m l P))), w.n⟩
abbrev s__law_added : Stmt := topS 41
theorem sc__law_added : FnScope ["_law_found", "_law_pairs", "_law_many", "_law_name", "_law_part_here"] ["_law_found", "_law_pairs", "_law_many"] (defScope s__law_added) := ⟨rfl, rfl, rfl, by decide +kernel, rfl, by decide +kernel, by decide +kernel⟩
def g__law_added : GS := (gSeq (gFor (giSeq (gVar 1)) (ggTup 2 (ggCons (ggName 3) (ggCons (ggName 4) ggNil))) (gAsg (gCall0 1 sp__law_sum (gaCons (DL.gLst (gaCons (gDGet2 (gVar 0) (gVar 3) (gTup (gaCons (gC (.int 0)) (gaCons (gC (.int 1)) gaNil)))) (gaCons (gCall0 2 sp__law_times (gaCons (gVar 4) (gaCons (gTup (gaCons (gVar 2) (gaCons (gC (.int 1)) gaNil))) gaNil))) gaNil))) gaNil)) (ggDPut (gVar 0) (gVar 3))))
  (gRet (gVar 0)))
theorem w__law_added {P : Program} {w : World} {K : PySem.W.Frag} {mg : Str → Option Value} {base : Heap} (T : DefAt K mg "_law_added" s__law_added ["_law_found", "_law_pairs", "_law_many"]) (B : Blt mg) (F__law_sum : FnAt P w K mg base CX0 2 "_law_sum" 1 sp__law_sum) (F__law_times : FnAt P w K mg base CX0 2 "_law_times" 2 sp__law_times) : FnAt P w K mg base CX0 3 "_law_added" 3 (sem0 5 g__law_added) := by
  have nd := sc__law_added.nd
  exact T.fn0 sc__law_added (fun f cdv A outer s H E hr => (dss_cons (ds_for PassesOwn.never rfl (di_seq (de_var 1)) (dg_tup rfl (dgs_cons (dg_name (i := 3) nd rfl (by first | exact Or.inl rfl | exact Or.inr rfl)) (dgs_cons (dg_name (i := 4) nd rfl (by first | exact Or.inl rfl | exact Or.inr rfl)) dgs_nil))) (dss_one (ds_asg (de_call0 F__law_sum hr (by rfl) (da_cons (de_lst (da_cons (de_dget2 (hu_of hr) (de_var 0) (de_var 3) (de_tup (da_cons de_int (da_cons de_int da_nil)))) (da_cons (de_call0 F__law_times hr (by rfl) (da_cons (de_var 4) (da_cons (de_tup (da_cons (de_var 2) (da_cons de_int da_nil))) da_nil))) da_nil))) da_nil)) (dg_dput (E := E0) (hu_of hr) (de_var 0) (de_var 3)))))
  (dss_one (ds_ret (de_var 0)))))

theorem v__law_added : ∀ ds w kx k, sp__law_added ds w kx k → sem0 5 g__law_added ds w kx k := by
  rintro ds ⟨M, n⟩ kx k ⟨i, l, P, m, B, v, rfl, ⟨hM, hA, hP, hm, hv, hD, hl⟩, hk⟩
  dsimp only at hM hk
  have e : rho 5 [D.rf i, D.lst (P.map pairD), D.int m] = [some (.rf i), some (.lst (P.map pairD)), some (.int m), none, none] := rfl
  have e01 : D.tup [.int 0, .int 1] = fD (0, 1) := rfl
  simp! only [g__law_added, e]
  refine ⟨fun rem ρ w' => ∃ (Q R : Lds) (x y : Option D) (u : Rat) (l' : Lds), addL m l P = addL m l' R ∧ (∀ q ∈ R, q ∈ P) ∧ rem = R.map pairD ∧ ρ = [some (.rf i), some (.lst (P.map pairD)), some (.int m), x, y] ∧ w' = ⟨M.set i (.dk (dkQ l')), n⟩ ∧ AccOk B u l' ∧ u + sumR (R.map (·.2)) * (m : Rat) ≤ 100 ∧ l'.length + R.length ≤ 1000, ⟨[], P, none, none, v, l, rfl, fun q hq => hq, rfl, rfl, by rw [set_sm hM], hA, hv, hl⟩, ?_, ?_⟩
  · rintro ρ w' ⟨Q, R, x, y, u, l', h1, h2, h3, rfl, rfl, h4, h5, h6⟩
    have : R = [] := by simpa using h3.symm
    subst this
    refine ⟨trivial, ?_⟩
    simp! only [id_eq]
    rw [h1] at hk
    exact hk
  · rintro z xs ρ w' ⟨Q, R, x, y, u, l', h1, h2, h3, rfl, rfl, h4, h5, h6⟩
    cases R with
    | nil => cases h3
    | cons q R =>
      rw [List.map_cons] at h3
      injection h3 with h3 h3'
      subst h3
      subst h3'
      refine ⟨trivial, ?_⟩
      obtain ⟨hq, hq1⟩ := hP q (h2 q List.mem_cons_self)
      have hMi : (M.set i (.dk (dkQ l')))[i]? = some (.dk (dkQ l')) := set_eq hM
      obtain ⟨p1, p2, p3, p4⟩ := pair_m hq hm.1
      have u100 : u ≤ 100 := by
        have n1 : 0 ≤ sumR ((q :: R).map (·.2)) := sumR_nn fun a ha => by
          obtain ⟨b, hb, rfl⟩ := List.mem_map.mp ha
          exact (hP b (h2 b hb)).1.2.1
        have := Rat.mul_nonneg n1 (ic_nn hm.1)
        grind
      obtain ⟨s1, s2, s3⟩ := h4.step hq hq1 hm u100 hD.1 hD.2
      simp! only [pairD, gDGet2, ggDPut, rfK_r, keyK_s]
      rw [dkK_at hMi]
      refine ⟨by decide, ?_⟩
      show dkK i _ _
      rw [dkK_at hMi]
      simp only [dkQ_get]
      refine ⟨by decide, q.2, (m, 1), rfl, ⟨hq.1.ne, show (1 : Int) ≠ 0 by decide, s2, s3⟩, ?_⟩
      refine ⟨by decide, [getQ l' q.1, mulQ q.2 (m, 1)], rfl, s1, ?_⟩
      dsimp only
      rw [dkK_at hMi]
      rw [List.length_cons] at h6
      refine ⟨by rw [dkQ_len]; exact lt_sl (by omega), ?_⟩
      rw [dkQ_put, List.set_set]
      refine ⟨[], R, _, _, u + vQ q.2 * (m : Rat), addQ l' q m, h1, fun a ha => h2 a (List.mem_cons_of_mem _ ha), rfl, rfl, rfl, h4.add hq hm.1, ?_, ?_⟩
      · rw [List.map_cons, sumR_cons] at h5
        grind
      · have := putQ_len l' q.1 (sumQ [getQ l' q.1, mulQ q.2 (m, 1)])
        unfold addQ
        omega
theorem ok__law_added {P : Program} {w : World} {K : PySem.W.Frag} {mg : Str → Option Value} {base : Heap} (T : DefAt K mg "_law_added" s__law_added ["_law_found", "_law_pairs", "_law_many"]) (B : Blt mg) (F__law_sum : FnAt P w K mg base CX0 2 "_law_sum" 1 sp__law_sum) (F__law_times : FnAt P w K mg base CX0 2 "_law_times" 2 sp__law_times) : FnAt P w K mg base CX0 3 "_law_added" 3 sp__law_added := (w__law_added T B F__law_sum F__law_times).imp v__law_added


end LW

namespace LW
open PySem PySem.Spec PyProof.Rows L2 RZ DL
local macro_rules | `(tactic| simp! only [$xs,*] $[$loc]?) => `(tactic| simp only [$xs,*, sem0,List.map_cons,List.map_nil,List.length_cons,List.length_nil,gSeq,gNext,gRet,gRetN,gIfS,gSet,gPar,gAsg,gDrop,gVar,gC,gBin,gUn,gB,gTru,gAnd,gOr,gNot,gAndV,gOrV,gNotV,gIf,gChain,gaNil,gaCons,DL.gTup,DL.gLst,gCB,gCall0,gAug,addD_i,addD_s,addD_l,addD_t,subD_i,mulD_i,mulD_l,fdivD_i,modD_i,powD_i,ltD_i,ltD_s,leD_i,gtD_i,geD_i,isD_n,isnotD_n,isNonD_non,isNonD_bl,isNonD_int,isNonD_str,isNonD_lst,isNonD_tup,negD_i,iaddD_i,truD_non,truD_bl,truD_int,truD_str,truD_lst,truD_tup,someK_some,ixD_l,ixD_t,fAbs_i,fInt_i,fInt_b,fMin2_i,fLen_l,fLen_t,fLen_s,fList_l,fList_t,fTuple_l,fTuple_t,optBK_some,fIsi_non,fIsi_bl,fIsi_int,fIsi_str,fIsi_lst,fIsi_tup,List.getElem?_cons_zero,List.getElem?_cons_succ,List.set_cons_zero,List.set_cons_succ,DL.ggName,ggNil0,ggCons1,ggTup2,ggTup3,gFor,giSeq,gLc,gYes,wipeR,true_and,and_true,at_0,at_1,at_2,kit_int_int,kit_bool_int,kit_str_int,kit_non_int,kit_list_int,kit_tuple_int,kit_int_bool,kit_bool_bool,kit_str_bool,kit_non_bool,kit_list_bool,kit_tuple_bool,kit_int_str,kit_bool_str,kit_str_str,kit_non_str,kit_list_str,kit_tuple_str,kit_int_list,kit_bool_list,kit_str_list,kit_non_list,kit_list_list,kit_tuple_list,kit_int_tuple,kit_bool_tuple,kit_str_tuple,kit_non_tuple,kit_list_tuple,kit_tuple_tuple,eqD_i,neD_i,eqD_s,neD_s,eqD_f,neD_f,Nat.zero_add,Nat.reduceAdd,nc0,nc1,nc2,nc3,nc4,nc5,nc6,nc7,nc8,nc9,eq_self,decide_true,decide_false,Int.reduceEq,Int.reduceLT,Int.reduceLE,Int.reduceNeg,Bool.not_true,Bool.not_false,Bool.false_eq_true,if_true,if_false,↓reduceIte,false_and,and_false,List.all_cons,List.all_nil,List.any_cons,List.any_nil,id_eq,Bool.and_true,Bool.true_and,Bool.or_false,Bool.false_or,Bool.and_false,Bool.false_and,gCut,eqD_b,neD_b,giZip,reduceCtorEq,Bool.true_eq_false,Bool.false_eq_true,gRevL,gSl,goNone,goSome,slD_l,ne_eq,not_false_eq_true,not_true_eq_false,gBM,isTy_l,isTy_s,new_at,new_set,isTy_new,cellK_new,append_new,popAt_new,gFrz_eq,frzK_new,fLen_new,fTuple_new,ixD_new,slA_l,slA_t,slA_new,addTD_t,addCD_l,mulCD_l,isbD_b,isnotbD_b,mSplitC_s,gLstC,gTr,ggSub,lstK_l,lstK_r,addLD_eq] $[$loc]?)



def kinds4 : List Str := ["of", "steps", "left", "length"]
def KindsLike (rs os : List Row) : Prop := ∀ s ∈ kinds4, byK s os = byK s rs
theorem kind_in (r : Row) : kindS r ∈ kinds4 := by cases r <;> simp [kinds4, kindS]
theorem byK_byK (s t : Str) (rs : List Row) : byK s (byK t rs) = if s = t then byK t rs else [] := by
  unfold byK
  rw [List.filter_filter]
  by_cases h : s = t
  · subst h
    rw [if_pos rfl]
    exact List.filter_congr fun r _ => by simp
  · rw [if_neg h]
    rw [List.filter_eq_nil_iff]
    intro r _ z
    rw [Bool.and_eq_true, decide_eq_true_iff, decide_eq_true_iff] at z
    exact h (z.1.symm.trans z.2)
def catK (rs : List Row) (dn : List Str) : List Row := dn.flatMap fun s => byK s rs
theorem byK_cat (rs : List Row) (s : Str) : ∀ {dn : List Str}, dn.Nodup → byK s (catK rs dn) = if s ∈ dn then byK s rs else []
  | [], _ => rfl
  | t :: dn, nd => by
    rw [List.nodup_cons] at nd
    have ih := byK_cat rs s nd.2
    have e : byK s (catK rs (t :: dn)) = byK s (byK t rs) ++ byK s (catK rs dn) := by
      unfold catK
      rw [List.flatMap_cons]
      unfold byK
      rw [List.filter_append]
    rw [e, byK_byK, ih]
    by_cases h : s = t
    · subst h
      rw [if_pos rfl, if_neg nd.1, if_pos List.mem_cons_self, List.append_nil]
    · rw [if_neg h, List.nil_append]
      by_cases h2 : s ∈ dn
      · rw [if_pos h2, if_pos (List.mem_cons_of_mem _ h2)]
      · rw [if_neg h2, if_neg fun z => (List.mem_cons.mp z).elim h h2]
theorem kinds_nd : kinds4.Nodup := by decide +kernel
theorem cat_like {rs : List Row} {dn : List Str} (h : dn.Perm kinds4) : KindsLike rs (catK rs dn) := fun s hs => by
  rw [byK_cat rs s (h.nodup_iff.mpr kinds_nd), if_pos (h.mem_iff.mpr hs)]
theorem byK_cons (s : Str) (r : Row) (rs : List Row) : byK s (r :: rs) = if kindS r = s then r :: byK s rs else byK s rs := by
  unfold byK
  rw [List.filter_cons]
  by_cases h : kindS r = s
  · rw [if_pos h, if_pos (decide_eq_true h)]
  · rw [if_neg h, if_neg fun z => h (of_decide_eq_true z)]
theorem len_kinds : ∀ rs : List Row, rs.length = (byK "of" rs).length + (byK "steps" rs).length + (byK "left" rs).length + (byK "length" rs).length
  | [] => rfl
  | r :: rs => by
    have ih := len_kinds rs
    rw [byK_cons, byK_cons, byK_cons, byK_cons]
    cases r with
    | of n p =>
      rw [if_pos (show kindS (Row.of n p) = "of" from rfl), if_neg (show ¬ kindS (Row.of n p) = "steps" from ne_of_steps), if_neg (show ¬ kindS (Row.of n p) = "left" from ne_of_left), if_neg (show ¬ kindS (Row.of n p) = "length" from ne_of_length), List.length_cons, List.length_cons]
      omega
    | steps n p =>
      rw [if_neg (show ¬ kindS (Row.steps n p) = "of" from ne_steps_of), if_pos (show kindS (Row.steps n p) = "steps" from rfl), if_neg (show ¬ kindS (Row.steps n p) = "left" from ne_steps_left), if_neg (show ¬ kindS (Row.steps n p) = "length" from ne_steps_length), List.length_cons, List.length_cons]
      omega
    | left n p =>
      rw [if_neg (show ¬ kindS (Row.left n p) = "of" from ne_left_of), if_neg (show ¬ kindS (Row.left n p) = "steps" from ne_left_steps), if_pos (show kindS (Row.left n p) = "left" from rfl), if_neg (show ¬ kindS (Row.left n p) = "length" from ne_left_length), List.length_cons, List.length_cons]
      omega
    | length n p =>
      rw [if_neg (show ¬ kindS (Row.length n p) = "of" from ne_length_of), if_neg (show ¬ kindS (Row.length n p) = "steps" from ne_length_steps), if_neg (show ¬ kindS (Row.length n p) = "left" from ne_length_left), if_pos (show kindS (Row.length n p) = "length" from rfl), List.length_cons, List.length_cons]
      omega
theorem byK_le (s : Str) (rs : List Row) : (byK s rs).length ≤ rs.length := List.length_filter_le _ _
theorem KindsLike.len {rs os : List Row} (h : KindsLike rs os) : os.length = rs.length := by
  rw [len_kinds os, len_kinds rs, h "of" (by simp [kinds4]), h "steps" (by simp [kinds4]), h "left" (by simp [kinds4]), h "length" (by simp [kinds4])]
theorem KindsLike.mem {rs os : List Row} (h : KindsLike rs os) {r : Row} (hr : r ∈ os) : r ∈ rs := by
  have h1 : r ∈ byK (kindS r) os := List.mem_filter.mpr ⟨hr, decide_eq_true rfl⟩
  rw [h _ (kind_in r)] at h1
  exact (List.mem_filter.mp h1).1
theorem lefts_byK2 (rs : List Row) : lefts rs = (byK "left" rs).length := by
  unfold lefts byK
  rw [List.count_eq_countP, List.countP_map, List.countP_eq_length_filter]
  congr 1
theorem KindsLike.lf {rs os : List Row} (h : KindsLike rs os) : lefts os = lefts rs := by
  rw [lefts_byK2, lefts_byK2, h "left" (by simp [kinds4])]
theorem KindsLike.parts {rs os : List Row} (h : KindsLike rs os) : ofs os = ofs rs ∧ sts os = sts rs := by
  have h1 := h "of" (by simp [kinds4])
  have h2 := h "steps" (by simp [kinds4])
  unfold byK at h1 h2
  exact ⟨by rw [← ofs_flt, ← ofs_flt, h1], by rw [← sts_flt, ← sts_flt, h2]⟩
theorem KindsLike.w {rs os : List Row} (h : KindsLike rs os) {m : Int} (hw : RowsW rs m) : RowsW os m := by
  obtain ⟨h1, h2⟩ := h.parts
  unfold RowsW
  rw [h1, h2]
  exact hw
theorem KindsLike.rows {rs os : List Row} {ss : List Str} {m : Nat} (h : KindsLike rs os) (hr : RowsS rs ss m) : RowsS os ss m := ⟨by rw [h.len]; exact hr.len, fun r h1 => hr.ok r (h.mem h1), fun r h1 => hr.nm r (h.mem h1), h.w hr.w, by rw [h.lf]; exact hr.lf⟩
theorem KindsLike.tell {rs os : List Row} (h : KindsLike rs os) (u : Int) : tellP os u = tellP rs u ∧ restP os u = restP rs u := tell_kinds h u
theorem not_much {rs : List Row} (h : ∀ r ∈ rs, RowS r) (hw : RowsW rs 60) : muchQ rs = false := by
  have h0 : ∀ r ∈ rs, RowOk r := fun r hr => (h r hr).ok
  have hF : ∀ x ∈ partsOf rs, Fr x := fun x hx => (partsOf_ok h0 x hx).1
  have l := parts_le1 h hw
  have fs := fr_sum hF
  rw [← vQ_sum hF, vQ_le1 fs.pos] at l
  unfold muchQ lessQ
  refine decide_eq_false ?_
  show ¬ (1 * (sumQ (partsOf rs)).2 < (sumQ (partsOf rs)).1 * 1)
  omega
def sp__law_by_kinds : GF := fun ds w _ k => ∃ (rs : List Row) (c n : Nat), ds = [.st, .tup (rs.map rowD)] ∧ (rs.length ≤ 8 ∧ w.n = some c ∧ n + 4 ≤ c) ∧ ∀ os c', KindsLike rs os → n ≤ c' → k (.tup (os.map rowD)) ⟨w.M, some c'⟩
theorem deps_of {j : Nat} : ∀ {xs : List D}, (∀ x ∈ xs, dep x ≤ j) → deps xs ≤ j
  | [], _ => Nat.zero_le _
  | x :: xs, h => by
    unfold deps
    exact Nat.max_le.mpr ⟨h x List.mem_cons_self, deps_of fun y hy => h y (List.mem_cons_of_mem _ hy)⟩
theorem ne_cell {w : Wd} {i : Nat} {xs : List D} {k : KD} (h : w.M[i]? = some (.lst xs)) (hl : ∀ x ∈ xs, lay x = true) (hd : ∀ x ∈ xs, dep x ≤ 20) (hk : k (.bl (decide (xs ≠ []))) w) : neCD (.rf i) (.lst []) w k := by
  have l1 : lays xs = true := by
    clear h hd hk
    induction xs with
    | nil => rfl
    | cons x xs ih =>
      unfold lays
      rw [hl x List.mem_cons_self, ih fun y hy => hl y (List.mem_cons_of_mem _ hy)]
      rfl
  have l2 : deps xs ≤ 20 := deps_of hd
  obtain ⟨ps, e1, e2, e3⟩ := lays_pd l1
  have e4 : toPDw w (.rf i) = some (.list ps) := by
    unfold toPDw
    simp only [h, e1]
    rfl
  have e5 : toPD (.lst []) = some (.list []) := rfl
  unfold neCD
  simp only [e4, e5]
  refine ⟨?_, rfl, ?_⟩
  · unfold SeqAt.shaped
    rw [show PyData.canLay0 (.list ps) = PyData.canLayAll0 ps from rfl, e2, show PyData.depth (.list ps) = PyData.depthAll ps + 1 from rfl, e3, decide_eq_true (by omega)]
    rfl
  · cases xs with
    | nil =>
      cases ps with
      | nil => exact hk
      | cons p r => rw [toPDs] at e1; cases e1
    | cons x xs =>
      cases ps with
      | nil =>
        rw [toPDs] at e1
        revert e1
        cases toPD x <;> cases toPDs xs <;> intro e1 <;> cases e1
      | cons p r => exact hk
theorem kinds_ok : ∀ s ∈ kinds4, PyData.strOk s = true := by
  have : kinds4.all (fun s => PyData.strOk s) = true := by decide +kernel
  exact List.all_eq_true.mp this
abbrev s__law_by_kinds : Stmt := topS 42
theorem sc__law_by_kinds : FnScope ["_law_state", "_law_rows_here", "_law_kinds", "_law_found", "_law_kind", "_law_row_here"] ["_law_state", "_law_rows_here"] (defScope s__law_by_kinds) := ⟨rfl, rfl, rfl, by decide +kernel, rfl, by decide +kernel, by decide +kernel⟩
def g__law_by_kinds : GS := (gSeq (gSet 2 (gLstC (gaCons (gC (.str "of")) (gaCons (gC (.str "steps")) (gaCons (gC (.str "left")) (gaCons (gC (.str "length")) gaNil))))))
  (gSeq (gSet 3 (gTup gaNil))
  (gSeq (gWhile (gB (gBin neCD (gVar 2) (DL.gLst gaNil))) (gSeq (gSet 4 (gBM "list" mPopAt (gVar 2) (gaCons (gCall0 2 sp__law_take (gaCons (gVar 0) (gaCons (gCB fLen (gaCons (gVar 2) gaNil)) gaNil))) gaNil)))
  (gSet 3 (gBin addTD (gVar 3) (gCB fTuple (gaCons (gLc (giSeq (gVar 1)) (ggName 5) (gB (gBin eqD (gBin ixD (gVar 5) (gC (.int 0))) (gVar 4))) (gVar 5) [5]) gaNil))))))
  (gRet (gVar 3)))))
theorem w__law_by_kinds {P : Program} {w : World} {K : PySem.W.Frag} {mg : Str → Option Value} {base : Heap} (T : DefAt K mg "_law_by_kinds" s__law_by_kinds ["_law_state", "_law_rows_here"]) (B : Blt mg) (F__law_take : FnAt P w K mg base CX0 1 "_law_take" 2 sp__law_take) : FnAt P w K mg base CX0 2 "_law_by_kinds" 2 (sem0 6 g__law_by_kinds) := by
  have nd := sc__law_by_kinds.nd
  exact T.fn0 sc__law_by_kinds (fun f cdv A outer s H E hr => (dss_cons (ds_set (i := 2) nd rfl (by first | exact Or.inl rfl | exact Or.inr rfl) (de_lstC (da_cons de_str (da_cons de_str (da_cons de_str (da_cons de_str da_nil))))))
  (dss_cons (ds_set (i := 3) nd rfl (by first | exact Or.inl rfl | exact Or.inr rfl) (de_tup da_nil))
  (dss_cons (ds_while PassesOwn.never (dt_neC hr (de_var 2) (de_lst da_nil)) (dss_cons (ds_set (i := 4) nd rfl (by first | exact Or.inl rfl | exact Or.inr rfl) (de_bm PySem.F.plainAttrs_list PySem.F.slot_list_pop (by rfl) mt_popAt ok_popAt (de_var 2) (da_cons (de_call0 F__law_take hr (by rfl) (da_cons (de_var 0) (da_cons (de_len B (by rfl) (da_cons (de_var 2) da_nil)) da_nil))) da_nil) (by rfl) (by rfl) (by rfl) (by rfl) (by rfl)))
  (dss_one (ds_set (i := 3) nd rfl (by first | exact Or.inl rfl | exact Or.inr rfl) (de_addt (de_var 3) (de_tuple B (by rfl) (da_cons (de_lc (own := [("_law_row_here", 5)]) (us := [5]) rfl nd (di_seq (de_var 1)) (blkOk_by (N := ["_law_state", "_law_rows_here", "_law_kinds", "_law_found", "_law_kind", "_law_row_here"]) (sc := defScope s__law_by_kinds) (by decide +kernel)) (by decide) (fun _ _ _ _ _ => (dg_name (i := 5) nd rfl (by first | exact Or.inl rfl | exact Or.inr rfl))) (fun _ _ _ _ _ => (dts_one (dt_eq hr (de_ix (de_var 5) de_int) (de_var 4)))) (fun _ _ _ _ _ => (de_var 5))) da_nil)))))))
  (dss_one (ds_ret (de_var 3)))))))

theorem v__law_by_kinds : ∀ ds w kx k, sp__law_by_kinds ds w kx k → gTr (sem0 6 g__law_by_kinds) ds w kx k := by
  rintro ds w kx k ⟨rs, c, n, rfl, ⟨hl, hn, hc⟩, hk⟩
  have e : rho 6 [D.st, D.tup (rs.map rowD)] = [some .st, some (.tup (rs.map rowD)), none, none, none, none] := rfl
  simp! only [g__law_by_kinds, e, sp__law_take]
  refine ⟨by decide, by decide, ?_⟩
  refine ⟨fun m ρ w' => ∃ (dn rest : List Str) (x4 x5 : Option D) (c' : Nat), rest.length = m ∧ ρ = [some .st, some (.tup (rs.map rowD)), some (.rf w.M.length), some (.tup ((catK rs dn).map rowD)), x4, x5] ∧ w' = ⟨w.M ++ [.lst (rest.map D.str)], some c'⟩ ∧ (dn ++ rest).Perm kinds4 ∧ n + rest.length ≤ c', ⟨4, [], kinds4, none, none, c, rfl, rfl, by rw [hn]; rfl, List.Perm.refl _, hc⟩, ?_⟩
  rintro m ρ w' ⟨dn, rest, x4, x5, c', hm, rfl, rfl, hp, hc'⟩
  have hpl := hp.length_eq
  rw [List.length_append, show kinds4.length = 4 from rfl] at hpl
  simp! only [id_eq]
  refine ⟨by decide, ne_cell (xs := rest.map D.str) new_at (fun x hx => ?_) (fun x hx => ?_) ?_⟩
  · obtain ⟨s, hs, rfl⟩ := List.mem_map.mp hx
    exact kinds_ok s (hp.mem_iff.mp (List.mem_append_right _ hs))
  · obtain ⟨s, hs, rfl⟩ := List.mem_map.mp hx
    exact Nat.zero_le _
  by_cases h0 : rest = []
  · subst h0
    rw [List.append_nil] at hp
    simp! only [List.map_nil, ne_eq, not_true, decide_false]
    exact ⟨⟨_, rfl⟩, low_rows _, hk _ c' (cat_like hp) (by omega)⟩
  · have h1 : ¬ rest.map D.str = [] := fun z => h0 (List.map_eq_nil_iff.mp z)
    have hlen : 0 < rest.length := List.length_pos_iff.mpr h0
    simp! only [ne_eq, h1, not_false_eq_true, decide_true]
    refine take_use (n + rest.length - 1) rfl (by omega) ⟨by rw [List.length_map]; omega, log_of (by rw [List.length_map]; exact Nat.lt_of_le_of_lt (show rest.length ≤ 4 by omega) (by decide))⟩ fun r0 c2 h4 h5 h6 => ?_
    rw [List.length_map] at h5
    have hi : r0.toNat < rest.length := by omega
    rw [popAt_new]
    refine ⟨h4, by rw [List.length_map]; exact h5, by omega, ?_⟩
    rw [List.getElem?_map, List.getElem?_eq_getElem hi]
    show ∃ P, _
    refine lc_tyf rowD rowD (fun r => decide (kindS r = rest[r0.toNat])) rs trivial (by omega) (fun a _ A B q1 q2 => ?_) ?_
    · simp! only [row0]
      exact ite2 (fun h => q1 h) (fun h => q2 (by simpa using h))
    · rw [fTuple_l, addTD_t]
      have hcl : (catK rs dn).length ≤ 1000 := by
        have : ∀ ds : List Str, (catK rs ds).length ≤ 8 * ds.length := fun ds => by
          induction ds with
          | nil => exact Nat.le_refl _
          | cons s ds ih =>
            have e : catK rs (s :: ds) = byK s rs ++ catK rs ds := by
              unfold catK
              rw [List.flatMap_cons]
            have := byK_le s rs
            rw [e, List.length_append, List.length_cons]
            omega
        have := this dn
        omega
      have hfl := byK_le rest[r0.toNat] rs
      unfold byK at hfl
      refine ⟨le_sl (by rw [List.length_map, List.length_map]; omega), rest.length - 1, by omega, dn ++ [rest[r0.toNat]], rest.eraseIdx r0.toNat, some (.str rest[r0.toNat]), x5, c2, ?_, ?_, ?_, ?_, ?_⟩
      · rw [List.length_eraseIdx, if_pos hi]
      · rw [← List.map_append]
        unfold catK
        rw [List.flatMap_append, List.flatMap_cons, List.flatMap_nil, List.append_nil]
        rfl
      · rw [erase_map]
      · rw [List.append_assoc]
        exact ((erase_perm hi).append_left dn).trans hp
      · rw [List.length_eraseIdx, if_pos hi]
        omega
theorem ok__law_by_kinds {P : Program} {w : World} {K : PySem.W.Frag} {mg : Str → Option Value} {base : Heap} (T : DefAt K mg "_law_by_kinds" s__law_by_kinds ["_law_state", "_law_rows_here"]) (B : Blt mg) (F__law_take : FnAt P w K mg base CX0 1 "_law_take" 2 sp__law_take) : FnAt P w K mg base CX0 2 "_law_by_kinds" 2 sp__law_by_kinds := (w__law_by_kinds T B F__law_take).trunc.imp v__law_by_kinds


end LW

namespace LW
open PySem PySem.Spec PyProof.Rows L2 RZ DL



theorem keys_len {T : Told} {ys : List Str} (h : KeysL T ys) : ys.length ≤ T.length := by
  have h1 : ys ⊆ T.map Prod.fst := fun s hs => by
    obtain ⟨p, hp, _⟩ := (h.mem s).mp hs
    exact List.mem_map.mpr ⟨_, hp, rfl⟩
  have := h.nd.length_le_of_subset h1
  rw [List.length_map] at this
  exact this
theorem tell_nm {rs : List Row} {ss : List Str} {m : Nat} {u : Int} (h : RowsS rs ss m) : ∀ x ∈ tellP rs u, x.1 ∈ ss := fun x hx => by
  have hl : ∀ (rs : List Row) (r : Qp), (∀ y ∈ (leftsP rs r).1, ∃ z ∈ rs, nameOf z = y.1) := by
    intro rs
    induction rs with
    | nil => exact fun _ y hy => nomatch hy
    | cons a rs ih =>
      intro r y hy
      have more : ∀ q, y ∈ (leftsP rs q).1 → ∃ z ∈ a :: rs, nameOf z = y.1 := fun q hy => by
        obtain ⟨z, hz, e⟩ := ih q y hy
        exact ⟨z, List.mem_cons_of_mem _ hz, e⟩
      cases a with
      | left n p =>
        have hy : y ∈ (n, mulQ r p) :: (leftsP rs (subQ r (mulQ r p))).1 := hy
        rcases List.mem_cons.mp hy with rfl | hy
        · exact ⟨_, List.mem_cons_self, rfl⟩
        · exact more _ hy
      | of n p => exact more _ hy
      | steps n p => exact more _ hy
      | length n p => exact more _ hy
  have key : ∃ z ∈ rs, nameOf z = x.1 := by
    unfold tellP told0 at hx
    rcases List.mem_append.mp hx with hx | hx
    · rcases List.mem_append.mp hx with hx | hx
      · rcases List.mem_append.mp hx with hx | hx
        · obtain ⟨z, hz, e⟩ := List.mem_filterMap.mp hx
          cases z with
          | of n p =>
            cases e
            exact ⟨_, hz, rfl⟩
          | _ => cases e
        · obtain ⟨z, hz, e⟩ := List.mem_filterMap.mp hx
          cases z with
          | steps n p =>
            cases e
            exact ⟨_, hz, rfl⟩
          | _ => cases e
      · exact hl rs _ x hx
    · obtain ⟨z, hz, rfl⟩ := List.mem_map.mp hx
      obtain ⟨g1, g2⟩ := flt_mem hz
      obtain ⟨s, l, rfl⟩ := kind_len g2
      exact ⟨_, g1, rfl⟩
  obtain ⟨z, hz, e⟩ := key
  rw [← e]
  exact h.nm z hz
theorem ne_self {d : D} {w : Wd} {k : KD} (hs : ∀ s, d ≠ .str s) (hl : lay d = true) (hd : dep d ≤ 20) (hk : k (.bl false) w) : neD d d w k := by
  have h0 : neD0 d d w k := by
    obtain ⟨p, e1, e2, e3⟩ := lay_pd hl
    unfold neD0
    simp only [e1]
    have sh : SeqAt.shaped p = true := by
      unfold SeqAt.shaped
      rw [e2, e3, decide_eq_true (by omega)]
      rfl
    refine ⟨sh, sh, ?_⟩
    rw [SeqAt.eqv_refl p e2]
    exact hk
  cases d with
  | str s => exact absurd rfl (hs s)
  | _ => exact h0
theorem lay_pairs {T : Lds} (h : ∀ q ∈ T, PyData.strOk q.1 = true) : lay (.lst (T.map pairD)) = true ∧ dep (.lst (T.map pairD)) ≤ 3 := by
  have : lays (T.map pairD) = true ∧ deps (T.map pairD) ≤ 2 := by
    induction T with
    | nil => exact ⟨rfl, Nat.zero_le _⟩
    | cons q T ih =>
      obtain ⟨a, b⟩ := ih fun x hx => h x (List.mem_cons_of_mem _ hx)
      have hq := h q List.mem_cons_self
      refine ⟨?_, Nat.max_le.mpr ⟨?_, b⟩⟩
      · show (lay (pairD q) && lays (T.map pairD)) = true
        rw [a, Bool.and_true]
        show (PyData.strOk q.1 && (true && true)) = true
        rw [hq]
        rfl
      · show max 0 (max (dep (fD q.2)) 0) + 1 ≤ 2
        rw [dep_f]
        decide
  refine ⟨this.1, ?_⟩
  show deps (T.map pairD) + 1 ≤ 3
  omega
theorem pairs_nm {rs : List Row} {ss : List Str} {u : Int} {ys : List Str} (hR : RowsS rs ss 8) (hk : IsKeys (tellP rs u) ys) : (∀ q ∈ pairsOf ys (tellP rs u), q.1 ∈ ss) ∧ (pairsOf ys (tellP rs u)).length ≤ 8 := by
  refine ⟨fun q hq => ?_, ?_⟩
  · obtain ⟨s, hs, rfl⟩ := List.mem_map.mp hq
    obtain ⟨p, hp, _⟩ := (hk.mem s).mp hs
    exact tell_nm hR (s, p) hp
  · unfold pairsOf
    rw [List.length_map]
    exact Nat.le_trans (keys_len hk.kl) (tell_ok (u := u) (fun r hr => (hR.ok r hr).ok) hR.len).2
theorem ne_pairs {rs : List Row} {ss : List Str} {u : Int} {ys : List Str} {w : Wd} {k : KD} (hR : RowsS rs ss 8) (hD : Drawn ss) (hk : IsKeys (tellP rs u) ys) (h : k (.bl false) w) : neD (.lst ((pairsOf ys (tellP rs u)).map pairD)) (.lst ((pairsOf ys (tellP rs u)).map pairD)) w k := by
  obtain ⟨a, b⟩ := lay_pairs (T := pairsOf ys (tellP rs u)) fun q hq => hD.ok _ ((pairs_nm hR hk).1 q hq)
  exact ne_self (fun s z => nomatch z) a (by omega) h
theorem ne_intsE {us : List Int} {w : Wd} {k : KD} (hk : k (.bl (decide (us ≠ []))) w) : neD (.lst (us.map D.int)) (.lst []) w k := by
  have l : lays (us.map D.int) = true ∧ deps (us.map D.int) = 0 := by
    clear hk
    induction us with
    | nil => exact ⟨rfl, rfl⟩
    | cons u us ih =>
      obtain ⟨a, b⟩ := ih
      refine ⟨?_, ?_⟩
      · show (true && lays (us.map D.int)) = true
        rw [a]
        rfl
      · show max 0 (deps (us.map D.int)) = 0
        rw [b]
        rfl
  obtain ⟨ps, h1, h2, h3⟩ := lays_pd l.1
  show neD0 _ _ w k
  unfold neD0
  have e1 : toPD (.lst (us.map D.int)) = some (.list ps) := by
    rw [toPD, h1]
    rfl
  have e2 : toPD (.lst []) = some (.list []) := rfl
  rw [e1, e2]
  have d0 : PyData.depth (.list ps) = 1 := by
    show PyData.depthAll ps + 1 = 1
    rw [h3, l.2]
  have s1 : SeqAt.shaped (.list ps) = true := by
    unfold SeqAt.shaped
    rw [show PyData.canLay0 (.list ps) = PyData.canLayAll0 ps from rfl, h2, d0]
    rfl
  refine ⟨s1, rfl, ?_⟩
  cases us with
  | nil =>
    cases ps with
    | nil => exact hk
    | cons p r => cases h1
  | cons u us =>
    cases ps with
    | nil =>
      rw [List.map_cons, toPDs] at h1
      revert h1
      cases toPD (.int u) <;> cases toPDs (us.map D.int) <;> intro h1 <;> cases h1
    | cons p r => exact hk
def itL (l P : Lds) : Nat → Lds
  | 0 => l
  | t + 1 => addL 1 (itL l P t) P
theorem itL_add {D : Int} {v : Rat} {l P : Lds} (h : AccOk D v l) (hP : ∀ q ∈ P, PairOk D q) : ∀ t : Nat, itL l P (t + 1) = addL ((t : Int) + 1) l P
  | 0 => rfl
  | t + 1 => by
    show addL 1 (itL l P (t + 1)) P = _
    rw [itL_add h hP t, add_again h hP (by omega)]
    congr 1
theorem itL_ok {D : Int} {v : Rat} {l P : Lds} (h : AccOk D v l) (hP : ∀ q ∈ P, PairOk D q) (h1 : sumR (P.map (·.2)) = 1) : ∀ t : Nat, AccOk D (v + (((t : Nat) : Int) : Rat)) (itL l P t)
  | 0 => by
    have : v + (((0 : Nat) : Int) : Rat) = v := by
      show v + 0 = v
      grind
    rw [this]
    exact h
  | t + 1 => by
    have := (itL_ok h hP h1 t).addL (m := 1) (by decide) hP
    rw [h1] at this
    have e : v + (((t : Nat) : Int) : Rat) + 1 * ((1 : Int) : Rat) = v + (((t + 1 : Nat) : Int) : Rat) := by
      rw [Int.natCast_add, Rat.intCast_add]
      have : (((1 : Nat) : Int) : Rat) = 1 := rfl
      have : ((1 : Int) : Rat) = 1 := rfl
      grind
    rw [e] at this
    exact this
theorem itL_names (l P : Lds) {U : List Str} (hl : ∀ s ∈ l.map (·.1), s ∈ U) (hP : ∀ s ∈ P.map (·.1), s ∈ U) : ∀ t : Nat, ∀ s ∈ (itL l P t).map (·.1), s ∈ U
  | 0 => hl
  | t + 1 => by
    show ∀ s ∈ (addL 1 (itL l P t) P).map (·.1), s ∈ U
    rw [addL_names]
    exact nmL_le _ _ U hP (itL_names l P hl hP t)
theorem addL_in {m : Int} {l P : Lds} {U : List Str} (hl : ∀ s ∈ l.map (·.1), s ∈ U) (hP : ∀ s ∈ P.map (·.1), s ∈ U) : ∀ s ∈ (addL m l P).map (·.1), s ∈ U := by
  rw [addL_names]
  exact nmL_le _ _ U hP hl
theorem AccOk.len {D : Int} {v : Rat} {l : Lds} {U : List Str} (h : AccOk D v l) (hl : ∀ s ∈ l.map (·.1), s ∈ U) : l.length ≤ U.length := by
  have := h.nd.length_le_of_subset hl
  rw [List.length_map] at this
  exact this
structure CutOk (rs : List Row) (a b : Int) (T : List (Int × Int)) : Prop where
  nn : ∀ p ∈ T, a ≤ p.1 ∧ 0 < p.2 ∧ p.1 + p.2 ≤ b
  same : ∀ p ∈ T, ∀ u, p.1 ≤ u → u < p.1 + p.2 → ∀ up ∈ uptosOf rs, (u < up ↔ p.1 < up)
  sm : (T.map (·.2)).sum = b - a
theorem cuts_ok {rs : List Row} : ∀ {ms : List Int} {a b : Int}, a < b → ms.Pairwise (· < ·) → (∀ u, u ∈ ms ↔ u ∈ uptosOf rs ∧ a < u ∧ u < b) → CutOk rs a b (cuts a b ms)
  | [], a, b, hab, _, h => by
    have e : cuts a b [] = [(a, b - a)] := rfl
    rw [e]
    refine ⟨fun p hp => ?_, fun p hp => ?_, ?_⟩
    · rw [List.mem_singleton.mp hp]
      exact ⟨Int.le_refl _, by show 0 < b - a; omega, by show a + (b - a) ≤ b; omega⟩
    · rw [List.mem_singleton.mp hp]
      intro u h1 h2 up hup
      have h1 : a ≤ u := h1
      have h2 : u < a + (b - a) := h2
      show u < up ↔ a < up
      constructor
      · intro h3
        omega
      · intro h3
        by_cases h4 : up < b
        · exact nomatch (h up).mpr ⟨hup, h3, h4⟩
        · omega
    · show b - a + 0 = b - a
      omega
  | m :: ms, a, b, hab, hp, h => by
    have e : cuts a b (m :: ms) = (a, m - a) :: cuts m b ms := rfl
    obtain ⟨hm1, hm2, hm3⟩ := (h m).mp List.mem_cons_self
    rw [List.pairwise_cons] at hp
    have ih := cuts_ok (rs := rs) (a := m) (b := b) (ms := ms) hm3 hp.2 fun u => by
      constructor
      · intro hu
        obtain ⟨x, _, z⟩ := (h u).mp (List.mem_cons_of_mem _ hu)
        exact ⟨x, hp.1 u hu, z⟩
      · rintro ⟨x, y, z⟩
        rcases List.mem_cons.mp ((h u).mpr ⟨x, by omega, z⟩) with q | q
        · omega
        · exact q
    rw [e]
    refine ⟨fun p hp' => ?_, fun p hp' => ?_, ?_⟩
    · rcases List.mem_cons.mp hp' with rfl | hp'
      · exact ⟨Int.le_refl _, by show 0 < m - a; omega, by show a + (m - a) ≤ b; omega⟩
      · have := ih.nn p hp'
        omega
    · rcases List.mem_cons.mp hp' with rfl | hp'
      · intro u h1 h2 up hup
        have h1 : a ≤ u := h1
        have h2 : u < a + (m - a) := h2
        show u < up ↔ a < up
        constructor
        · intro h3
          omega
        · intro h3
          by_cases h4 : up < b
          · rcases List.mem_cons.mp ((h up).mpr ⟨hup, h3, h4⟩) with q | q
            · omega
            · have := hp.1 up q
              omega
          · omega
      · exact ih.same p hp'
    · rw [List.map_cons, List.sum_cons, ih.sm]
      show m - a + (b - m) = b - a
      omega
def up0 : Row → Int
  | .steps _ ((some u, _) :: _) => u
  | _ => 0
theorem up0_ix {r : Row} (h : RowS r) (hk : kindS r = "steps") : ∃ (n : Str) (p : Qp) (qs : List Rate), r = .steps n ((some (up0 r), p) :: qs) ∧ 0 < up0 r ∧ up0 r ≤ 1000000 := by
  obtain ⟨n, qs, rfl⟩ := kind_st hk
  obtain ⟨l1, l2, _, l4⟩ := h
  cases qs with
  | nil => simp at l1
  | cons q qs =>
    rcases l4 with ⟨_, z⟩ | ⟨u, h1, h2, h3, _⟩
    · rw [z] at l1
      simp at l1
    · obtain ⟨v, p⟩ := q
      have h1 : v = some u := h1
      subst h1
      exact ⟨n, p, qs, rfl, h2, h3⟩
theorem sum_one11 {D : Int} {v : Rat} {m : Int} {l : Lds} (h : AccOk D v l) (hv : v = (m : Rat)) : sumQ (l.map (·.2)) = (m, 1) := by
  have hF : ∀ x ∈ l.map (·.2), Fr x := fun x hx => by
    obtain ⟨q, hq, rfl⟩ := List.mem_map.mp hx
    exact h.fr q hq
  refine vQ_inj (fr_sum hF) (fr_int m) ?_
  rw [vQ_sum hF, h.sm, vQ_int, hv]
theorem AccOk.steps {D : Int} {v : Rat} {l : Lds} (h : AccOk D v l) (hv : v ≤ 100) (h0 : 0 < D) (hD : D < 2 ^ 700) : StepOk (l.map (·.2)) := by
  have c100 : ((100 : Int) : Rat) = 100 := rfl
  refine step_iq (D := D) (M := 100) (n := 707) (fun x hx => ?_) (by rw [h.sm, c100]; exact hv) h0 (by decide) (by omega) (by decide)
  obtain ⟨q, hq, rfl⟩ := List.mem_map.mp hx
  exact ⟨h.fr q hq, h.nn q hq, h.iq q hq⟩
theorem sayR_row (s : Str) {r : Row} (h : RowS r) : RowS (sayR s r) := by cases r <;> exact h
theorem RowsS.say {rs : List Row} {ss : List Str} {m : Nat} (h : RowsS rs ss m) (s : Str) : RowsOk (rs.map (sayR s)) m := ⟨by rw [List.length_map]; exact h.len, fun r hr => by
  obtain ⟨x, hx, rfl⟩ := List.mem_map.mp hr
  exact (sayR_row s (h.ok x hx)).ok⟩

end LW

namespace LW
open PySem PySem.Spec PyProof.Rows L2 RZ DL
local macro_rules | `(tactic| simp! only [$xs,*] $[$loc]?) => `(tactic| simp only [$xs,*, sem0,List.map_cons,List.map_nil,List.length_cons,List.length_nil,gSeq,gNext,gRet,gRetN,gIfS,gSet,gPar,gAsg,gDrop,gVar,gC,gBin,gUn,gB,gTru,gAnd,gOr,gNot,gAndV,gOrV,gNotV,gIf,gChain,gaNil,gaCons,DL.gTup,DL.gLst,gCB,gCall0,gAug,addD_i,addD_s,addD_l,addD_t,subD_i,mulD_i,mulD_l,fdivD_i,modD_i,powD_i,ltD_i,ltD_s,leD_i,gtD_i,geD_i,isD_n,isnotD_n,isNonD_non,isNonD_bl,isNonD_int,isNonD_str,isNonD_lst,isNonD_tup,negD_i,iaddD_i,truD_non,truD_bl,truD_int,truD_str,truD_lst,truD_tup,someK_some,ixD_l,ixD_t,fAbs_i,fInt_i,fInt_b,fMin2_i,fLen_l,fLen_t,fLen_s,fList_l,fList_t,fTuple_l,fTuple_t,optBK_some,fIsi_non,fIsi_bl,fIsi_int,fIsi_str,fIsi_lst,fIsi_tup,List.getElem?_cons_zero,List.getElem?_cons_succ,List.set_cons_zero,List.set_cons_succ,DL.ggName,ggNil0,ggCons1,ggTup2,ggTup3,gFor,giSeq,gLc,gYes,wipeR,true_and,and_true,at_0,at_1,at_2,kit_int_int,kit_bool_int,kit_str_int,kit_non_int,kit_list_int,kit_tuple_int,kit_int_bool,kit_bool_bool,kit_str_bool,kit_non_bool,kit_list_bool,kit_tuple_bool,kit_int_str,kit_bool_str,kit_str_str,kit_non_str,kit_list_str,kit_tuple_str,kit_int_list,kit_bool_list,kit_str_list,kit_non_list,kit_list_list,kit_tuple_list,kit_int_tuple,kit_bool_tuple,kit_str_tuple,kit_non_tuple,kit_list_tuple,kit_tuple_tuple,eqD_i,neD_i,eqD_s,neD_s,eqD_f,neD_f,Nat.zero_add,Nat.reduceAdd,nc0,nc1,nc2,nc3,nc4,nc5,nc6,nc7,nc8,nc9,eq_self,decide_true,decide_false,Int.reduceEq,Int.reduceLT,Int.reduceLE,Int.reduceNeg,Bool.not_true,Bool.not_false,Bool.false_eq_true,if_true,if_false,↓reduceIte,false_and,and_false,List.all_cons,List.all_nil,List.any_cons,List.any_nil,id_eq,Bool.and_true,Bool.true_and,Bool.or_false,Bool.false_or,Bool.and_false,Bool.false_and,gCut,eqD_b,neD_b,giZip,reduceCtorEq,Bool.true_eq_false,Bool.false_eq_true,gRevL,gSl,goNone,goSome,slD_l,ne_eq,not_false_eq_true,not_true_eq_false,gBM,isTy_l,isTy_s,new_at,new_set,isTy_new,cellK_new,append_new,popAt_new,gFrz_eq,frzK_new,fLen_new,fTuple_new,ixD_new,slA_l,slA_t,slA_new,addTD_t,addCD_l,mulCD_l,isbD_b,isnotbD_b,mSplitC_s,gLstC,gTr,ggSub,lstK_l,lstK_r,addLD_eq] $[$loc]?)



theorem sum_nn11 : ∀ {S : List (Int × Int)}, (∀ q ∈ S, 0 < q.2) → 0 ≤ (S.map (·.2)).sum
  | [], _ => Int.le_refl _
  | q :: S, h => by
    have h1 := h q List.mem_cons_self
    have h2 := sum_nn11 fun x hx => h x (List.mem_cons_of_mem _ hx)
    rw [List.map_cons, List.sum_cons]
    omega
theorem Drawn.len {ss : List Str} (h : Drawn ss) : ss.length ≤ 24 := by
  obtain ⟨rest, p⟩ := h
  have := p.length_eq
  rw [List.length_append, pool_len] at this
  omega
theorem ic_le {a b : Int} (h : a ≤ b) : (a : Rat) ≤ (b : Rat) := Rat.intCast_le_intCast.mpr h
theorem itL_all {D : Int} {v : Rat} {l P : Lds} {m : Int} (h : AccOk D v l) (hP : ∀ q ∈ P, PairOk D q) (hm : 0 < m) : itL l P m.toNat = addL m l P := by
  obtain ⟨t, ht⟩ : ∃ t : Nat, m = (t : Int) + 1 := ⟨(m - 1).toNat, by omega⟩
  subst ht
  rw [show ((t : Int) + 1).toNat = t + 1 by omega]
  exact itL_add h hP t
theorem pr_ok (T : Told) : okFs (T.map pairD) = true ∧ DL.plains (T.map pairD) = true ∧ deps (T.map pairD) ≤ 2 ∧ wids (T.map pairD) = true := by
  induction T with
  | nil => exact ⟨rfl, rfl, Nat.zero_le _, rfl⟩
  | cons x T ih =>
    obtain ⟨h1, h2, h3, h4⟩ := ih
    rw [List.map_cons]
    refine ⟨?_, ?_, ?_, ?_⟩
    · unfold okFs
      rw [h1]
      rfl
    · unfold DL.plains
      rw [h2]
      rfl
    · unfold deps
      exact Nat.max_le.mpr ⟨by show max 0 (max (dep (fD x.2)) 0) + 1 ≤ 2; rw [dep_f]; decide, h3⟩
    · unfold wids
      rw [h4, Bool.and_true]
      show (decide (2 ≤ 100000) && (true && (wid (fD x.2) && true))) = true
      rw [wid_f]
      decide
theorem same_pl {T : Told} {w : Wd} {kx : KX} {k : KD} (hl : T.length ≤ 100000) (h : k (.bl true) w) : sp__law_same [.lst (T.map pairD), .lst (T.map pairD)] w kx k := by
  obtain ⟨h1, h2, h3, h4⟩ := pr_ok T
  have hw : wid (.lst (T.map pairD)) = true := by
    unfold wid
    rw [h4, Bool.and_true, List.length_map]
    exact decide_eq_true hl
  exact same_yes h2 (by unfold dep; omega) hw h
def sp_law : GF := gLaw
abbrev s_law : Stmt := topS 43
theorem sc_law : FnScope ["_law_script", "_law_state", "_law_turn", "_law_rows_here", "_law_uptos", "_law_first", "_law_many", "_law_one_by_one", "_law_by_stretches", "_law_begin_here", "_law_size", "_law_other", "_law_alone", "_law_told", "_law_waits", "_law_unit", "_law_row_here"] ["_law_script"] (defScope s_law) := ⟨rfl, rfl, rfl, by decide +kernel, rfl, by decide +kernel, by decide +kernel⟩
def g_law : GS := (gSeq (gSet 1 (gCall0 1 sp__law_begin (gaCons (gVar 0) gaNil)))
  (gSeq (gFor (giRange1 (gaCons (gC (.int 3)) gaNil)) (ggName 2) (gSeq (gSet 3 (gCall0 1 sp__law_some_rows (gaCons (gVar 1) gaNil)))
  (gSeq (gSet 4 (gLc (giSeq (gVar 3)) (ggName 16) (gB (gBin eqD (gBin ixD (gVar 16) (gC (.int 0))) (gC (.str "steps")))) (gBin ixD (gBin ixD (gBin ixD (gVar 16) (gC (.int 2))) (gC (.int 0))) (gC (.int 0))) [16]))
  (gSeq (gPar 5 6 (gaCons (gCall0 2 sp__law_take (gaCons (gVar 1) (gaCons (gC (.int 12)) gaNil))) (gaCons (gBin addD (gC (.int 1)) (gCall0 2 sp__law_take (gaCons (gVar 1) (gaCons (gC (.int 24)) gaNil)))) gaNil)))
  (gCut (gIfS (gAnd (gB (gBin neD (gVar 4) (DL.gLst gaNil))) (gB (gBin eqD (gCall0 2 sp__law_take (gaCons (gVar 1) (gaCons (gC (.int 2)) gaNil))) (gC (.int 0))))) (gSet 5 (gCB fMax2 (gaCons (gC (.int 0)) (gaCons (gBin subD (gBin ixD (gVar 4) (gCall0 2 sp__law_take (gaCons (gVar 1) (gaCons (gCB fLen (gaCons (gVar 4) gaNil)) gaNil)))) (gCall0 2 sp__law_take (gaCons (gVar 1) (gaCons (gC (.int 12)) gaNil)))) gaNil)))) gNext)
  (gSeq (gPar 7 8 (gaCons gDNew (gaCons gDNew gaNil)))
  (gSeq (gFor (giSeq (gCall0 3 sp_unit_stretches (gaCons (gVar 3) (gaCons (gVar 5) (gaCons (gVar 6) gaNil))))) (ggTup 2 (ggCons (ggName 9) (ggCons (ggName 10) ggNil))) (gSeq (gSet 8 (gCall0 3 sp__law_added (gaCons (gVar 8) (gaCons (gCall0 2 sp_parts_at (gaCons (gVar 3) (gaCons (gVar 9) gaNil))) (gaCons (gVar 10) gaNil)))))
  (gSeq (gSet 8 (gCall0 3 sp__law_added (gaCons (gVar 8) (gaCons (DL.gLst (gaCons (gTup (gaCons (gC (.str "")) (gaCons (gCall0 2 sp_waits_at (gaCons (gVar 3) (gaCons (gVar 9) gaNil))) gaNil))) gaNil)) (gaCons (gVar 10) gaNil)))))
  (gFor (giRange2 (gaCons (gVar 9) (gaCons (gBin addD (gVar 9) (gVar 10)) gaNil))) (ggName 15) (gSeq (gIfS (gOr (gB (gBin neD (gCall0 2 sp_parts_at (gaCons (gVar 3) (gaCons (gVar 15) gaNil))) (gCall0 2 sp_parts_at (gaCons (gVar 3) (gaCons (gVar 9) gaNil))))) (gB (gBin neD (gCall0 2 sp_waits_at (gaCons (gVar 3) (gaCons (gVar 15) gaNil))) (gCall0 2 sp_waits_at (gaCons (gVar 3) (gaCons (gVar 9) gaNil)))))) (gRet (gC (.bl false))) gNext)
  (gSet 7 (gCall0 3 sp__law_added (gaCons (gVar 7) (gaCons (gBin addD (gCall0 2 sp_parts_at (gaCons (gVar 3) (gaCons (gVar 15) gaNil))) (DL.gLst (gaCons (gTup (gaCons (gC (.str "")) (gaCons (gCall0 2 sp_waits_at (gaCons (gVar 3) (gaCons (gVar 15) gaNil))) gaNil))) gaNil))) (gaCons (gC (.int 1)) gaNil))))))))))
  (gSeq (gIfS (gOr (gB (gBin neDE (gVar 7) (gVar 8))) (gB (gBin neD (gCall0 1 sp__law_sum (gaCons (gListVals (gVar 8)) gaNil)) (gTup (gaCons (gVar 6) (gaCons (gC (.int 1)) gaNil)))))) (gRet (gC (.bl false))) gNext)
  (gSeq (gSet 11 (gCall0 2 sp__law_by_kinds (gaCons (gVar 1) (gaCons (gVar 3) gaNil))))
  (gSeq (gIfS (gOr (gNot (gTru (gCall0 1 sp_is_rows (gaCons (gVar 11) gaNil)))) (gOr (gTru (gCall0 1 sp_too_much (gaCons (gVar 11) gaNil))) (gB (gBin neD (gCall0 2 sp_parts_at (gaCons (gVar 11) (gaCons (gVar 5) gaNil))) (gCall0 2 sp_parts_at (gaCons (gVar 3) (gaCons (gVar 5) gaNil))))))) (gRet (gC (.bl false))) gNext)
  (gSeq (gSet 12 (gCB fTuple (gaCons (gLc (giSeq (gVar 3)) (ggName 16) gYes (gTup (gaCons (gBin ixD (gVar 16) (gC (.int 0))) (gaCons (gC (.str "say")) (gaCons (gBin ixD (gVar 16) (gC (.int 2))) gaNil)))) [16]) gaNil)))
  (gSeq (gSet 13 (gCall0 2 sp_parts_at (gaCons (gVar 12) (gaCons (gVar 5) gaNil))))
  (gSeq (gSet 14 (gCall0 2 sp_waits_at (gaCons (gVar 12) (gaCons (gVar 5) gaNil))))
  (gSeq (gIfS (gNot (gTru (gCall0 2 sp__law_same (gaCons (gVar 14) (gaCons (gCall0 2 sp_waits_at (gaCons (gVar 3) (gaCons (gVar 5) gaNil))) gaNil))))) (gRet (gC (.bl false))) gNext)
  (gIfS (gNot (gTru (gCall0 2 sp__law_same (gaCons (gVar 13) (gaCons (gBin mulD (DL.gLst (gaCons (gTup (gaCons (gC (.str "say")) (gaCons (gCall0 1 sp__law_sum (gaCons (DL.gLst (gaCons (gTup (gaCons (gC (.int 1)) (gaCons (gC (.int 1)) gaNil))) (gaCons (gTup (gaCons (gUn negD (gBin ixD (gVar 14) (gC (.int 0)))) (gaCons (gBin ixD (gVar 14) (gC (.int 1))) gaNil))) gaNil))) gaNil)) gaNil))) gaNil)) (gCB fInt (gaCons (gBin neD (gVar 14) (gTup (gaCons (gC (.int 1)) (gaCons (gC (.int 1)) gaNil)))) gaNil))) gaNil))))) (gRet (gC (.bl false))) gNext)))))))))))))))
  (gRet (gC (.bl true)))))
theorem w_law {P : Program} {w : World} {K : PySem.W.Frag} {mg : Str → Option Value} {base : Heap} {f : Addr} {fd : FuncData} (T : Fun K "law" "law" s_law f fd) (B : Blt mg) (F__law_begin : FnAt P w K mg base CX0 1 "_law_begin" 1 sp__law_begin) (F__law_some_rows : FnAt P w K mg base CX0 5 "_law_some_rows" 1 sp__law_some_rows) (F_unit_stretches : FnAt P w K mg base CX0 2 "unit_stretches" 3 sp_unit_stretches) (F__law_by_kinds : FnAt P w K mg base CX0 2 "_law_by_kinds" 2 sp__law_by_kinds) (F_parts_at : FnAt P w K mg base CX0 8 "parts_at" 2 sp_parts_at) (F_waits_at : FnAt P w K mg base CX0 8 "waits_at" 2 sp_waits_at) (F__law_take : FnAt P w K mg base CX0 1 "_law_take" 2 sp__law_take) (F__law_added : FnAt P w K mg base CX0 3 "_law_added" 3 sp__law_added) (F_too_much : FnAt P w K mg base CX0 4 "too_much" 1 sp_too_much) (F__law_same : FnAt P w K mg base CX0 8 "_law_same" 2 sp__law_same) (F__law_sum : FnAt P w K mg base CX0 2 "_law_sum" 1 sp__law_sum) (F_is_rows : FnAt P w K mg base CX0 7 "is_rows" 1 sp_is_rows) : FnOk P w K mg base CX0 9 f fd ["_law_script"] (upF 1 K (sem0 17 g_law)) := by
  have nd := sc_law.nd
  exact fun_fn0 T sc_law (fun f cdv A outer s H E hr => (dss_cons (ds_set (i := 1) nd rfl (by first | exact Or.inl rfl | exact Or.inr rfl) (de_call0 F__law_begin hr (by rfl) (da_cons (de_var 0) da_nil)))
  (dss_cons (ds_for PassesOwn.never rfl (di_range1 B (by rfl) (da_cons de_int da_nil)) (dg_name (i := 2) nd rfl (by first | exact Or.inl rfl | exact Or.inr rfl)) (dss_cons (ds_set (i := 3) nd rfl (by first | exact Or.inl rfl | exact Or.inr rfl) (de_call0 F__law_some_rows hr (by rfl) (da_cons (de_var 1) da_nil)))
  (dss_cons (ds_setLc (i := 4) (own := [("_law_row_here", 16)]) (us := [16]) rfl nd rfl rfl (sw_true rfl rfl rfl (by decide +kernel)) (di_seq (de_var 3)) (blkOk_by (N := ["_law_script", "_law_state", "_law_turn", "_law_rows_here", "_law_uptos", "_law_first", "_law_many", "_law_one_by_one", "_law_by_stretches", "_law_begin_here", "_law_size", "_law_other", "_law_alone", "_law_told", "_law_waits", "_law_unit", "_law_row_here"]) (sc := defScope s_law) (by decide +kernel)) (by decide) (fun _ _ _ _ _ => (dg_name (i := 16) nd rfl (by first | exact Or.inl rfl | exact Or.inr rfl))) (fun _ _ _ _ _ => (dts_one (dt_eq hr (de_ix (de_var 16) de_int) de_str))) (fun _ _ _ _ _ => (de_ix (de_ix (de_ix (de_var 16) de_int) de_int) de_int)))
  (dss_cons (ds_par (i := 5) (j := 6) rfl nd rfl rfl (by decide) rfl rfl (da_cons (de_call0 F__law_take hr (by rfl) (da_cons (de_var 1) (da_cons de_int da_nil))) (da_cons (de_add de_int (de_call0 F__law_take hr (by rfl) (da_cons (de_var 1) (da_cons de_int da_nil)))) da_nil)) (by rfl))
  (dss_cut (ds_if (dt_w (dw_and (dt_ne hr (de_var 4) (de_lst da_nil)) (dw_and1 (dt_eq hr (de_call0 F__law_take hr (by rfl) (da_cons (de_var 1) (da_cons de_int da_nil))) de_int)))) (dss_one (ds_set (i := 5) nd rfl (by first | exact Or.inl rfl | exact Or.inr rfl) (de_max2 B rfl (by rfl) (da_cons de_int (da_cons (de_sub (de_ix (de_var 4) (de_call0 F__law_take hr (by rfl) (da_cons (de_var 1) (da_cons (de_len B (by rfl) (da_cons (de_var 4) da_nil)) da_nil)))) (de_call0 F__law_take hr (by rfl) (da_cons (de_var 1) (da_cons de_int da_nil)))) da_nil))))) dss_nil)
  (dss_cons (ds_par (i := 7) (j := 8) rfl nd rfl rfl (by decide) rfl rfl (da_cons de_dnew (da_cons de_dnew da_nil)) (by rfl))
  (dss_cons (ds_for PassesOwn.never rfl (di_seq (de_call0 F_unit_stretches hr (by rfl) (da_cons (de_var 3) (da_cons (de_var 5) (da_cons (de_var 6) da_nil))))) (dg_tup rfl (dgs_cons (dg_name (i := 9) nd rfl (by first | exact Or.inl rfl | exact Or.inr rfl)) (dgs_cons (dg_name (i := 10) nd rfl (by first | exact Or.inl rfl | exact Or.inr rfl)) dgs_nil))) (dss_cons (ds_set (i := 8) nd rfl (by first | exact Or.inl rfl | exact Or.inr rfl) (de_call0 F__law_added hr (by rfl) (da_cons (de_var 8) (da_cons (de_call0 F_parts_at hr (by rfl) (da_cons (de_var 3) (da_cons (de_var 9) da_nil))) (da_cons (de_var 10) da_nil)))))
  (dss_cons (ds_set (i := 8) nd rfl (by first | exact Or.inl rfl | exact Or.inr rfl) (de_call0 F__law_added hr (by rfl) (da_cons (de_var 8) (da_cons (de_lst (da_cons (de_tup (da_cons de_str (da_cons (de_call0 F_waits_at hr (by rfl) (da_cons (de_var 3) (da_cons (de_var 9) da_nil))) da_nil))) da_nil)) (da_cons (de_var 10) da_nil)))))
  (dss_one (ds_for PassesOwn.never rfl (di_range2 B (by rfl) (da_cons (de_var 9) (da_cons (de_add (de_var 9) (de_var 10)) da_nil))) (dg_name (i := 15) nd rfl (by first | exact Or.inl rfl | exact Or.inr rfl)) (dss_cons (ds_if (dt_w (dw_or (dt_ne hr (de_call0 F_parts_at hr (by rfl) (da_cons (de_var 3) (da_cons (de_var 15) da_nil))) (de_call0 F_parts_at hr (by rfl) (da_cons (de_var 3) (da_cons (de_var 9) da_nil)))) (dw_or1 (dt_ne hr (de_call0 F_waits_at hr (by rfl) (da_cons (de_var 3) (da_cons (de_var 15) da_nil))) (de_call0 F_waits_at hr (by rfl) (da_cons (de_var 3) (da_cons (de_var 9) da_nil))))))) (dss_one (ds_ret de_bl)) dss_nil)
  (dss_one (ds_set (i := 7) nd rfl (by first | exact Or.inl rfl | exact Or.inr rfl) (de_call0 F__law_added hr (by rfl) (da_cons (de_var 7) (da_cons (de_add (de_call0 F_parts_at hr (by rfl) (da_cons (de_var 3) (da_cons (de_var 15) da_nil))) (de_lst (da_cons (de_tup (da_cons de_str (da_cons (de_call0 F_waits_at hr (by rfl) (da_cons (de_var 3) (da_cons (de_var 15) da_nil))) da_nil))) da_nil))) (da_cons de_int da_nil))))))))))))
  (dss_cons (ds_if (dt_w (dw_or (dt_neDE hr (de_var 7) (de_var 8)) (dw_or1 (dt_ne hr (de_call0 F__law_sum hr (by rfl) (da_cons (de_listVals rfl B (by rfl) (de_var 8)) da_nil)) (de_tup (da_cons (de_var 6) (da_cons de_int da_nil))))))) (dss_one (ds_ret de_bl)) dss_nil)
  (dss_cons (ds_set (i := 11) nd rfl (by first | exact Or.inl rfl | exact Or.inr rfl) (de_call0 F__law_by_kinds hr (by rfl) (da_cons (de_var 1) (da_cons (de_var 3) da_nil))))
  (dss_cons (ds_if (dt_w (dw_or (dt_not (dt_truth (de_call0 F_is_rows hr (by rfl) (da_cons (de_var 11) da_nil)))) (dw_or (dt_truth (de_call0 F_too_much hr (by rfl) (da_cons (de_var 11) da_nil))) (dw_or1 (dt_ne hr (de_call0 F_parts_at hr (by rfl) (da_cons (de_var 11) (da_cons (de_var 5) da_nil))) (de_call0 F_parts_at hr (by rfl) (da_cons (de_var 3) (da_cons (de_var 5) da_nil)))))))) (dss_one (ds_ret de_bl)) dss_nil)
  (dss_cons (ds_set (i := 12) nd rfl (by first | exact Or.inl rfl | exact Or.inr rfl) (de_tuple B (by rfl) (da_cons (de_lc (own := [("_law_row_here", 16)]) (us := [16]) rfl nd (di_seq (de_var 3)) (blkOk_by (N := ["_law_script", "_law_state", "_law_turn", "_law_rows_here", "_law_uptos", "_law_first", "_law_many", "_law_one_by_one", "_law_by_stretches", "_law_begin_here", "_law_size", "_law_other", "_law_alone", "_law_told", "_law_waits", "_law_unit", "_law_row_here"]) (sc := defScope s_law) (by decide +kernel)) (by decide) (fun _ _ _ _ _ => (dg_name (i := 16) nd rfl (by first | exact Or.inl rfl | exact Or.inr rfl))) (fun _ _ _ _ _ => dts_nil) (fun _ _ _ _ _ => (de_tup (da_cons (de_ix (de_var 16) de_int) (da_cons de_str (da_cons (de_ix (de_var 16) de_int) da_nil)))))) da_nil)))
  (dss_cons (ds_set (i := 13) nd rfl (by first | exact Or.inl rfl | exact Or.inr rfl) (de_call0 F_parts_at hr (by rfl) (da_cons (de_var 12) (da_cons (de_var 5) da_nil))))
  (dss_cons (ds_set (i := 14) nd rfl (by first | exact Or.inl rfl | exact Or.inr rfl) (de_call0 F_waits_at hr (by rfl) (da_cons (de_var 12) (da_cons (de_var 5) da_nil))))
  (dss_cons (ds_if (dt_not (dt_truth (de_call0 F__law_same hr (by rfl) (da_cons (de_var 14) (da_cons (de_call0 F_waits_at hr (by rfl) (da_cons (de_var 3) (da_cons (de_var 5) da_nil))) da_nil))))) (dss_one (ds_ret de_bl)) dss_nil)
  (dss_one (ds_if (dt_not (dt_truth (de_call0 F__law_same hr (by rfl) (da_cons (de_var 13) (da_cons (de_mul (de_lst (da_cons (de_tup (da_cons de_str (da_cons (de_call0 F__law_sum hr (by rfl) (da_cons (de_lst (da_cons (de_tup (da_cons de_int (da_cons de_int da_nil))) (da_cons (de_tup (da_cons (de_neg (de_ix (de_var 14) de_int)) (da_cons (de_ix (de_var 14) de_int) da_nil))) da_nil))) da_nil)) da_nil))) da_nil)) (de_toint B (by rfl) (da_cons (de_ne hr (de_var 14) (de_tup (da_cons de_int (da_cons de_int da_nil)))) da_nil))) da_nil))))) (dss_one (ds_ret de_bl)) dss_nil))))))))))))))))
  (dss_one (ds_ret de_bl)))))

theorem v_law : ∀ ds w kx k, sp_law ds w kx k → sem0 17 g_law ds w kx k := by
  rintro ds w kx k ⟨ns, rfl, hl, rfl, hk⟩
  have e : rho 17 [D.scr ns] = [some (.scr ns), none, none, none, none, none, none, none, none, none, none, none, none, none, none, none, none] := rfl
  simp! only [g_law, e, sp__law_begin]
  refine ⟨ns, rfl, rfl, ?_⟩
  simp! only [giRange1, sp__law_take]
  refine ⟨by decide, fun xs ρ w => ∃ a2 a3 a4 a5 a6 a7 a8 a9 a10 a11 a12 a13 a14 a15 a16 M n, ρ = [some (.scr ns), some .st, a2, a3, a4, a5, a6, a7, a8, a9, a10, a11, a12, a13, a14, a15, a16] ∧ w = ⟨M, some n⟩ ∧ 300 * xs.length + 10 ≤ n, ⟨none, none, none, none, none, none, none, none, none, none, none, none, none, none, none, _, _, rfl, rfl, ?_⟩, ?_, ?_⟩
  · rw [range_len]
    decide
  · rintro ρ w ⟨a2, a3, a4, a5, a6, a7, a8, a9, a10, a11, a12, a13, a14, a15, a16, M, n, rfl, rfl, _⟩
    refine ⟨trivial, ?_⟩
    simp! only [id_eq]
    exact hk _
  · rintro z xs ρ w ⟨a2, a3, a4, a5, a6, a7, a8, a9, a10, a11, a12, a13, a14, a15, a16, M, n, rfl, rfl, hn⟩
    rw [List.length_cons] at hn
    refine ⟨trivial, ?_⟩
    simp! only [id_eq]
    refine some_rows_use (300 * xs.length + 100) rfl (by omega) fun rs ss c1 hR hD hc1 => ?_
    obtain ⟨N, hN⟩ : ∃ N, N = 300 * xs.length + 10 := ⟨_, rfl⟩
    rw [← hN]
    have hrl := hR.len
    refine lc_tyf rowD (fun r => D.int (up0 r)) (fun r => decide (kindS r = "steps")) rs trivial (by omega) (fun r hr A B q1 q2 => ?_) ?_
    · simp! only [row0]
      refine ite2 (fun h => ?_) (fun h => q2 (by simpa using h))
      obtain ⟨nm, p, qs, e1, _⟩ := up0_ix (hR.ok r hr) (of_decide_eq_true h)
      have q1 := q1 h
      rw [e1] at q1 ⊢
      simp! only [row2_st]
      rw [← e1] at q1
      exact q1
    · obtain ⟨us, hus, hub⟩ : ∃ us : List Int, us = (rs.filter fun r => decide (kindS r = "steps")).map up0 ∧ us.length ≤ 8 ∧ ∀ u ∈ us, 0 < u ∧ u ≤ 1000000 := by
        refine ⟨_, rfl, ?_, fun u hu => ?_⟩
        · rw [List.length_map]
          exact Nat.le_trans (flt_len rs "steps") hrl
        · obtain ⟨r, hr, rfl⟩ := List.mem_map.mp hu
          obtain ⟨h1, h2⟩ := flt_mem hr
          obtain ⟨_, _, _, _, h3⟩ := up0_ix (hR.ok r h1) h2
          exact h3
      have eu : ((rs.filter fun r => decide (kindS r = "steps")).map fun r => D.int (up0 r)) = us.map D.int := by rw [hus, List.map_map]; rfl
      rw [eu]
      refine take_use (N + 89) rfl (by omega) ⟨by decide, log_of (by decide)⟩ fun r1 c2 a0 a1 hc2 => ?_
      refine take_use (N + 88) rfl (by omega) ⟨by decide, log_of (by decide)⟩ fun r2 c3 b0 b1 hc3 => ?_
      simp! only [id_eq]
      refine ⟨fun ρ w => ∃ (first : Int) (c4 : Nat), ρ = [some (.scr ns), some .st, some z, some (.tup (rs.map rowD)), some (.lst (us.map D.int)), some (.int first), some (.int (1 + r2)), a7, a8, a9, a10, a11, a12, a13, a14, a15, a16] ∧ w = ⟨M, some c4⟩ ∧ (0 ≤ first ∧ first ≤ 2000000) ∧ N + 80 ≤ c4, ?_, ?_⟩
      · have done : ∀ (f0 : Int) (c4 : Nat), (0 ≤ f0 ∧ f0 ≤ 2000000) → N + 80 ≤ c4 → ∃ (first : Int) (c4' : Nat), ([some (.scr ns), some .st, some z, some (.tup (rs.map rowD)), some (.lst (us.map D.int)), some (.int f0), some (.int (1 + r2)), a7, a8, a9, a10, a11, a12, a13, a14, a15, a16] : Rho) = [some (.scr ns), some .st, some z, some (.tup (rs.map rowD)), some (.lst (us.map D.int)), some (.int first), some (.int (1 + r2)), a7, a8, a9, a10, a11, a12, a13, a14, a15, a16] ∧ (⟨M, some c4⟩ : Wd) = ⟨M, some c4'⟩ ∧ (0 ≤ first ∧ first ≤ 2000000) ∧ N + 80 ≤ c4' := fun f0 c4 h1 h2 => ⟨f0, c4, rfl, rfl, h1, h2⟩
        refine ⟨by decide, ne_intsE ?_⟩
        by_cases hu0 : us = []
        · rw [decide_eq_false (fun z => z hu0)]
          exact done _ _ ⟨by omega, by omega⟩ (by omega)
        · rw [decide_eq_true hu0]
          have ul : 0 < us.length := List.length_pos_iff.mpr hu0
          simp! only [id_eq]
          refine take_use (N + 87) rfl (by omega) ⟨by decide, log_of (by decide)⟩ fun r3 c4 d0 d1 hc4 => ?_
          rw [eqD_i]
          refine ite2 (fun _ => ?_) (fun _ => done _ _ ⟨by omega, by omega⟩ (by omega))
          refine take_use (N + 86) rfl (by omega) ⟨by rw [List.length_map]; omega, log_int (by rw [List.length_map]; omega) (by rw [List.length_map]; omega)⟩ fun r4 c5 d2 d3 hc5 => ?_
          refine ix_all (fun d => ∃ b : Int, d = .int b ∧ 0 < b ∧ b ≤ 1000000) d2 d3 (fun x hx => ?_) ?_
          · obtain ⟨u, hu, rfl⟩ := List.mem_map.mp hx
            exact ⟨u, rfl, hub.2 u hu⟩
          rintro d ⟨b, rfl, hb0, hb⟩
          refine take_use (N + 85) rfl (by omega) ⟨by decide, log_of (by decide)⟩ fun r5 c6 d4 d5 hc6 => ?_
          rw [subD_i, fMax2_i]
          exact done _ _ ⟨by split <;> omega, by split <;> omega⟩ (by omega)
      · rintro ρ w ⟨first, c4, rfl, rfl, hf, hc4⟩
        obtain ⟨many, hmany⟩ : ∃ many, many = 1 + r2 := ⟨_, rfl⟩
        rw [← hmany]
        have hm : 1 ≤ many ∧ many ≤ 24 := by omega
        simp! only [gDNew]
        refine ⟨rs, first, many, rfl, hR.rows (Nat.le_refl _), fun ms R k1 k2 k3 => ?_⟩
        obtain ⟨T, hT⟩ : ∃ T, T = cuts first (first + many) ms := ⟨_, rfl⟩
        have hC : CutOk rs first (first + many) T := by
          rw [hT]
          exact cuts_ok (by omega) k1 k2
        have hTl : T.length ≤ 57 := by
          rw [hT]
          unfold cuts
          rw [List.length_map, List.length_zip, List.length_cons]
          omega
        rw [← hT]
        dsimp only
        obtain ⟨M0, hM0⟩ : ∃ M0, M0 = M ++ [Cell.dk []] ++ [Cell.dk []] ++ R ++ [Cell.lst (T.map ipD)] := ⟨_, rfl⟩
        obtain ⟨i, hi⟩ : ∃ i, i = M.length := ⟨_, rfl⟩
        obtain ⟨j, hj⟩ : ∃ j, j = (M ++ [Cell.dk []]).length := ⟨_, rfl⟩
        obtain ⟨p, hp⟩ : ∃ p, p = (M ++ [Cell.dk []] ++ [Cell.dk []] ++ R).length := ⟨_, rfl⟩
        have mi : M0[i]? = some (.dk []) := by
          rw [hM0, hi]
          exact app_at (app_at (app_at new_at))
        have mj : M0[j]? = some (.dk []) := by
          rw [hM0, hj]
          exact app_at (app_at new_at)
        have mp : M0[p]? = some (.lst (T.map ipD)) := by
          rw [hM0, hp]
          exact new_at
        rw [← hM0, ← hi, ← hj, ← hp]
        simp only [List.length_append, List.length_singleton] at hj hp
        have hij : i ≠ j := by omega
        have hip : i ≠ p := by omega
        have hjp : j ≠ p := by omega
        clear hM0 hi hj hp
        simp! only [mp]
        have hU := denU_bd hR.ok hrl
        have hs0 := hD.len
        refine ⟨fun rem ρ w' => ∃ (S : List (Int × Int)) (L : Lds) (dn : Int) (x9 x10 x15 : Option D) (M' : List Cell), rem = S.map ipD ∧ (∀ q ∈ S, q ∈ T) ∧ ρ = [some (.scr ns), some .st, some z, some (.tup (rs.map rowD)), some (.lst (us.map D.int)), some (.int first), some (.int many), some (.rf i), some (.rf j), x9, x10, a11, a12, a13, a14, x15, a16] ∧ w' = ⟨M', some c4⟩ ∧ (M'[i]? = some (.dk (dkQ L)) ∧ M'[j]? = some (.dk (dkQ L)) ∧ M'[p]? = some (.lst (T.map ipD))) ∧ AccOk (denU rs) (dn : Rat) L ∧ (∀ s ∈ L.map (·.1), s ∈ ("" : Str) :: ss) ∧ dn + (S.map (·.2)).sum = many ∧ 0 ≤ dn,
          ⟨T, [], 0, a9, a10, a15, M0, rfl, fun q hq => hq, rfl, rfl, ⟨mi, mj, mp⟩, AccOk.nil _, (fun s hs => nomatch hs), by rw [hC.sm]; omega, Int.le_refl _⟩, ?_, ?_⟩
        · rintro ρ w' ⟨S, L, dn, x9, x10, x15, M', h1, h2, rfl, rfl, ⟨h3, h4, h5⟩, hA, hLn, hsum, hdn⟩
          have : S = [] := by simpa using h1.symm
          subst this
          refine ⟨h5, ?_⟩
          have hdm : dn = many := by
            have : dn + 0 = many := hsum
            omega
          clear h1 h2 hsum
          subst hdm
          obtain ⟨kw, hkw⟩ : ∃ kw : Wd, kw = ⟨M', some c4⟩ := ⟨_, rfl⟩
          have hv : (dn : Rat) ≤ 100 := Rat.le_trans (ic_le hm.2) (by decide +kernel)
          have w3 : kw.M[i]? = some (.dk (dkQ L)) := by rw [hkw]; exact h3
          have w4 : kw.M[j]? = some (.dk (dkQ L)) := by rw [hkw]; exact h4
          have w6 : kw.n = some c4 := by rw [hkw]
          rw [← hkw]
          clear hkw
          have kn : ((dkQ L).map (·.1)).Nodup := by
            have e0 : (dkQ L).map (·.1) = (L.map (·.1)).map kS := by
              unfold dkQ sK
              rw [List.map_map, List.map_map, List.map_map]
              rfl
            rw [e0]
            exact hA.nd.map kS fun a b hab h => hab (kS_inj.mp h)
          have vals : (dkQ L).map (·.2) = (L.map (·.2)).map fD := by
            unfold dkQ sK
            rw [List.map_map, List.map_map, List.map_map]
            rfl
          have flat : ∀ y ∈ dkQ L, ∃ q, toPD y.2 = some q ∧ (q.canLay0 = true ∧ q.depth ≤ 20) := fun y hy => by
            obtain ⟨b, hb, rfl⟩ := List.mem_map.mp hy
            obtain ⟨q, hq, rfl⟩ := List.mem_map.mp hb
            refine ⟨.tuple [.int q.2.1, .int q.2.2], by simp [qD, fD, toPD, toPDs], rfl, by simp [PyData.depth, PyData.depthAll]⟩
          simp! only [gListVals, rfK_r, dkK_at w4]
          refine ⟨dkQ L, w3, w4, kn, flat, ?_⟩
          simp! only [dkK_at w4]
          rw [vals]
          refine ⟨L.map (·.2), rfl, hA.steps hv hU.1 hU.2, ?_⟩
          have e11 : ∀ m : Int, D.tup [.int m, .int 1] = fD (m, 1) := fun m => rfl
          refine ⟨by decide, ?_⟩
          rw [sum_one11 hA rfl, e11, neD_ff, decide_eq_true rfl]
          simp! only [Bool.not_true]
          have hRo : RowsOk rs 8 := hR.rows (Nat.le_refl _)
          refine ⟨rs, c4, N + 70, rfl, ⟨hrl, w6, by omega⟩, fun os c5 hK hc5 => ?_⟩
          have hO : RowsS os ss 8 := hK.rows hR
          have hOo : RowsOk os 8 := hO.rows (Nat.le_refl _)
          refine ⟨os, rfl, ⟨hO.len, fun r hr => ⟨hO.ok r hr, hD.nm _ (hO.nm r hr)⟩, hO.lf⟩, ?_⟩
          simp! only [id_eq]
          refine ⟨os, rfl, hO.rows (by decide), ?_⟩
          rw [not_much hO.ok hO.w]
          simp! only [id_eq]
          refine ⟨os, first, rfl, hOo, fun ys1 hy1 => ⟨rs, first, rfl, hRo, fun ys2 hy2 => ?_⟩⟩
          obtain ⟨eo1, eo2⟩ := hK.tell first
          rw [eo1] at hy1 ⊢
          have q1 := keys_uniq hy1 hy2
          subst q1
          refine ne_pairs hR hD hy1 ?_
          simp! only [id_eq]
          refine lc_ty rowD (fun r => rowD (sayR "say" r)) rs trivial (by omega) (fun r hr k' hk' => ?_) ?_
          · cases r with
            | of nm q =>
              simp! only [row0, row2_of]
              exact ⟨by decide, hk'⟩
            | steps nm q =>
              simp! only [row0, row2_st]
              exact ⟨by decide, hk'⟩
            | left nm q =>
              simp! only [row0, row2_left]
              exact ⟨by decide, hk'⟩
            | length nm q =>
              simp! only [row0, row2_len]
              exact ⟨by decide, hk'⟩
          have esay : (rs.map fun r => rowD (sayR "say" r)) = (rs.map (sayR "say")).map rowD := by rw [List.map_map]; rfl
          rw [esay]
          have hSo : RowsOk (rs.map (sayR "say")) 8 := hR.say "say"
          obtain ⟨et1, et2⟩ := tell_say "say" rs first
          simp! only [fTuple_l]
          refine ⟨_, first, rfl, hSo, fun ys3 hy3 => ?_⟩
          rw [et1] at hy3 ⊢
          refine ⟨_, first, rfl, hSo, ?_⟩
          rw [et2]
          refine ⟨rs, first, rfl, hRo, ?_⟩
          refine same_yes rfl (by rw [dep_f]; decide) (wid_f _) ?_
          have tr := tell_u (u := first) hR.ok hR.w hrl
          have r1le : vQ (restP rs first) ≤ 1 := by
            have s0 := tr.sm
            have s2 : 0 ≤ sumR ((tellP rs first).map Prod.snd) := sumR_nn fun x hx => by
              obtain ⟨b, hb, rfl⟩ := List.mem_map.mp hx
              exact tr.nn b hb
            grind
          have lr := tr.ri.lt2 tr.rf hU.1 hU.2 tr.rn r1le
          have ln : Lt2 700 (negQ (restP rs first)) := ⟨by show (-(restP rs first).1).natAbs < _; rw [Int.natAbs_neg]; exact lr.1, lr.2⟩
          have l1 : Lt2 1 (1, 1) := ⟨by decide, by decide⟩
          simp! only [ixD_f0, ixD_f1, ggTup_f, fIsi_f, fLen_f, eqD_ff, neD_ff]
          refine ⟨by decide, by decide, by decide, [(1, 1), negQ (restP rs first)], rfl, step_two fr11 (fr_neg tr.rf) l1 ln (by decide), ?_⟩
          refine ⟨by decide, by decide, by decide, ?_⟩
          rw [e11, neD_ff, fInt_b, mulD_l]
          rcases say_keys tr hy3 with ⟨y1, y2⟩ | ⟨y1, y2⟩
          · rw [y2, y1, decide_eq_true rfl]
            refine ⟨by decide, by decide, by decide, ?_⟩
            show sp__law_same [.lst (([] : Told).map pairD), .lst (([] : Told).map pairD)] _ _ _
            refine same_pl (by decide) ?_
            simp! only [id_eq]
            exact ⟨_, _, _, _, _, _, _, _, _, _, _, _, _, _, _, _, _, rfl, rfl, by omega⟩
          · rw [y2, decide_eq_false y1]
            refine ⟨by decide, by decide, show 1 * 1 ≤ sizeLine by decide, ?_⟩
            show sp__law_same [.lst ([(("say" : Str), sumQ [(1, 1), negQ (restP rs first)])].map pairD), .lst ([(("say" : Str), sumQ [(1, 1), negQ (restP rs first)])].map pairD)] _ _ _
            refine same_pl (show 1 ≤ 100000 by decide) ?_
            simp! only [id_eq]
            exact ⟨_, _, _, _, _, _, _, _, _, _, _, _, _, _, _, _, _, rfl, rfl, by omega⟩
        · rintro y rem ρ w' ⟨S, L, dn, x9, x10, x15, M', h1, h2, rfl, rfl, ⟨h3, h4, h5⟩, hA, hLn, hsum, hdn⟩
          cases S with
          | nil => cases h1
          | cons q S =>
            rw [List.map_cons] at h1
            injection h1 with h1 h1'
            subst h1
            subst h1'
            refine ⟨h5, ?_⟩
            obtain ⟨a, size⟩ := q
            obtain ⟨c1', c2', c3'⟩ := hC.nn _ (h2 _ List.mem_cons_self)
            have csame := hC.same _ (h2 _ List.mem_cons_self)
            dsimp only at c1' c2' c3' csame
            have hSn : 0 ≤ (S.map (·.2)).sum := sum_nn11 fun x hx => (hC.nn x (h2 x (List.mem_cons_of_mem _ hx))).2.1
            rw [List.map_cons, List.sum_cons] at hsum
            dsimp only at hsum
            simp! only [ipD]
            have hRo : RowsOk rs 8 := hR.rows (Nat.le_refl _)
            refine ⟨rs, a, rfl, hRo, fun ys hys => ?_⟩
            obtain ⟨hPall, hP1⟩ := unit_pairs (u := a) hR.ok hR.w hrl hys
            obtain ⟨hYn, hYl⟩ := pairs_nm hR hys
            obtain ⟨P1, hP1d⟩ : ∃ P1, P1 = pairsOf ys (tellP rs a) := ⟨_, rfl⟩
            obtain ⟨Pw, hPw⟩ : ∃ Pw : Lds, Pw = [(("" : Str), restP rs a)] := ⟨_, rfl⟩
            rw [← hP1d, ← hPw] at hPall hP1
            rw [← hP1d] at hYn hYl
            have hPa : ∀ q ∈ P1, PairOk (denU rs) q ∧ vQ q.2 ≤ 1 := fun q hq => hPall q (List.mem_append_left _ hq)
            have hPb : ∀ q ∈ Pw, PairOk (denU rs) q ∧ vQ q.2 ≤ 1 := fun q hq => hPall q (List.mem_append_right _ hq)
            have hsr : sumR (P1.map (·.2)) + sumR (Pw.map (·.2)) = 1 := by
              rw [← hP1, List.map_append, sumR_app]
            have s1n : 0 ≤ sumR (P1.map (·.2)) := sumR_nn fun x hx => by
              obtain ⟨b, hb, rfl⟩ := List.mem_map.mp hx
              exact (hPa b hb).1.2.1
            have s2n : 0 ≤ sumR (Pw.map (·.2)) := sumR_nn fun x hx => by
              obtain ⟨b, hb, rfl⟩ := List.mem_map.mp hx
              exact (hPb b hb).1.2.1
            have hsz : size ≤ 24 := by omega
            have szR : (0 : Rat) ≤ (size : Rat) := ic_nn (by omega)
            have sz24 : (size : Rat) ≤ 24 := ic_le hsz
            have dn24 : (dn : Rat) ≤ 24 := ic_le (by omega : dn ≤ 24)
            have m1 := Rat.mul_nonneg s1n szR
            have m2 := Rat.mul_nonneg s2n szR
            have m3 : sumR (P1.map (·.2)) * (size : Rat) + sumR (Pw.map (·.2)) * (size : Rat) = (size : Rat) := by
              rw [← Rat.add_mul, hsr, Rat.one_mul]
            have hLl := hA.len hLn
            rw [List.length_cons] at hLl
            refine ⟨j, L, P1, size, denU rs, (dn : Rat), by rw [hP1d], ⟨h4, hA, hPa, ⟨by omega, by omega⟩, by grind, hU, by omega⟩, ?_⟩
            have hA1 := AccOk.addL (m := size) (by omega) hA fun q hq => (hPa q hq).1
            have hNa : ∀ s ∈ P1.map (·.1), s ∈ ("" : Str) :: ss := fun s hs => by
              obtain ⟨q, hq, rfl⟩ := List.mem_map.mp hs
              exact List.mem_cons_of_mem _ (hYn q hq)
            have hNb : ∀ s ∈ Pw.map (·.1), s ∈ ("" : Str) :: ss := fun s hs => by
              rw [hPw] at hs
              rw [List.mem_singleton.mp hs]
              exact List.mem_cons_self
            have hL1 := addL_in (m := size) hLn hNa
            have hL1l := hA1.len hL1
            rw [List.length_cons] at hL1l
            simp! only [id_eq]
            obtain ⟨M1, hM1⟩ : ∃ M1, M1 = M'.set j (.dk (dkQ (addL size L P1))) := ⟨_, rfl⟩
            rw [← hM1]
            have g3 : M1[i]? = some (.dk (dkQ L)) := by rw [hM1, set_ne (Ne.symm hij)]; exact h3
            have g4 : M1[j]? = some (.dk (dkQ (addL size L P1))) := by rw [hM1]; exact set_eq h4
            have g5 : M1[p]? = some (.lst (T.map ipD)) := by rw [hM1, set_ne hjp]; exact h5
            clear hM1
            refine ⟨rs, a, rfl, hRo, ?_⟩
            simp! only [id_eq]
            refine ⟨by decide, by decide, j, addL size L P1, Pw, size, denU rs, _, by rw [hPw]; rfl, ⟨g4, hA1, hPb, ⟨by omega, by omega⟩, by grind, hU, by rw [hPw, List.length_singleton]; omega⟩, ?_⟩
            have eL : addL size (addL size L P1) Pw = addL size L (P1 ++ Pw) := (addL_app size P1 Pw L).symm
            rw [eL]
            simp! only [giRange2]
            obtain ⟨M2, hM2⟩ : ∃ M2, M2 = M1.set j (.dk (dkQ (addL size L (P1 ++ Pw)))) := ⟨_, rfl⟩
            rw [← hM2]
            have k3 : M2[i]? = some (.dk (dkQ L)) := by rw [hM2, set_ne (Ne.symm hij)]; exact g3
            have k4 : M2[j]? = some (.dk (dkQ (addL size L (P1 ++ Pw)))) := by rw [hM2]; exact set_eq g4
            have k5 : M2[p]? = some (.lst (T.map ipD)) := by rw [hM2, set_ne hjp]; exact g5
            clear hM2
            have hPk : ∀ q ∈ P1 ++ Pw, PairOk (denU rs) q := fun q hq => (hPall q hq).1
            have hNc : ∀ s ∈ (P1 ++ Pw).map (·.1), s ∈ ("" : Str) :: ss := fun s hs => by
              rw [List.map_append] at hs
              exact (List.mem_append.mp hs).elim (hNa s) (hNb s)
            have hPl : (P1 ++ Pw).length ≤ 9 := by
              rw [List.length_append, hPw, List.length_singleton]
              omega
            refine ⟨⟨by omega, by omega, by omega, by omega⟩, fun rem ρ w' => ∃ (t : Nat) (x15 : Option D) (M' : List Cell), rem = ((List.range size.toNat).drop t).map (fun n => D.int (a + ((n : Nat) : Int))) ∧ t ≤ size.toNat ∧ ρ = [some (.scr ns), some .st, some z, some (.tup (rs.map rowD)), some (.lst (us.map D.int)), some (.int first), some (.int many), some (.rf i), some (.rf j), some (.int a), some (.int size), a11, a12, a13, a14, x15, a16] ∧ w' = ⟨M', some c4⟩ ∧ (M'[i]? = some (.dk (dkQ (itL L (P1 ++ Pw) t))) ∧ M'[j]? = some (.dk (dkQ (addL size L (P1 ++ Pw)))) ∧ M'[p]? = some (.lst (T.map ipD))), ⟨0, x15, M2, ?_, Nat.zero_le _, rfl, rfl, ⟨k3, k4, k5⟩⟩, ?_, ?_⟩
            · rw [show a + size - a = size by omega]
              rfl
            · rintro ρ w' ⟨t, x15, M', e1, e2, rfl, rfl, ⟨n3, n4, n5⟩⟩
              have et : t = size.toNat := by
                have := List.map_eq_nil_iff.mp e1.symm
                rw [List.drop_eq_nil_iff, List.length_range] at this
                omega
              rw [et, itL_all hA hPk c2'] at n3
              refine ⟨trivial, S, addL size L (P1 ++ Pw), dn + size, _, _, _, M', rfl, fun x hx => h2 x (List.mem_cons_of_mem _ hx), rfl, rfl, ⟨n3, n4, n5⟩, ?_, addL_in hLn hNc, by omega, by omega⟩
              have := AccOk.addL (m := size) (by omega) hA hPk
              rw [hP1, Rat.one_mul, ← Rat.intCast_add] at this
              exact this
            · rintro y rem ρ w' ⟨t, x15, M', e1, e2, rfl, rfl, ⟨n3, n4, n5⟩⟩
              have ht : t < size.toNat := by
                rcases Nat.lt_or_ge t size.toNat with h | h
                · exact h
                · rw [List.drop_eq_nil_iff.mpr (by rw [List.length_range]; exact h)] at e1
                  cases e1
              rw [List.drop_eq_getElem_cons (by rw [List.length_range]; exact ht), List.getElem_range, List.map_cons] at e1
              injection e1 with e1 e1'
              subst e1
              obtain ⟨u, hu⟩ : ∃ u : Int, u = a + (t : Int) := ⟨_, rfl⟩
              rw [← hu]
              obtain ⟨et1, et2⟩ := tell_same (rs := rs) (u := u) (v := a) (csame u (by omega) (by omega))
              refine ⟨trivial, ?_⟩
              simp! only [id_eq]
              refine ⟨rs, u, rfl, hRo, fun ys1 hy1 => ⟨rs, a, rfl, hRo, fun ys2 hy2 => ?_⟩⟩
              rw [et1] at hy1 ⊢
              have q1 := keys_uniq hy1 hys
              have q2 := keys_uniq hy2 hys
              subst q1
              subst q2
              refine ne_pairs hR hD hys ?_
              simp! only [id_eq]
              refine ⟨rs, u, rfl, hRo, rs, a, rfl, hRo, ?_⟩
              rw [et2]
              dsimp only
              rw [neD_ff, decide_eq_true rfl]
              simp! only [Bool.not_true]
              refine ⟨rs, u, rfl, hRo, fun ys3 hy3 => ⟨rs, u, rfl, hRo, ?_⟩⟩
              rw [et1] at hy3 ⊢
              have q3 := keys_uniq hy3 hys
              subst q3
              rw [et2]
              have ePw : (D.lst [D.tup [D.str ("" : Str), fD (restP rs a)]]) = .lst (Pw.map pairD) := by rw [hPw]; rfl
              refine ⟨by decide, by decide, ?_⟩
              rw [ePw, ← hP1d, addD_l, ← List.map_append]
              have hAt := itL_ok hA hPk hP1 t
              have hNt := itL_names L (P1 ++ Pw) hLn hNc t
              have hLt := hAt.len hNt
              rw [List.length_cons] at hLt
              have t24 : (((t : Nat) : Int) : Rat) ≤ 24 := ic_le (by omega : ((t : Nat) : Int) ≤ 24)
              have i1 : ((1 : Int) : Rat) = 1 := rfl
              refine ⟨by rw [List.length_map, List.length_map, ← List.length_append]; exact le_sl (by omega), i, itL L (P1 ++ Pw) t, P1 ++ Pw, 1, denU rs, _, rfl, ⟨n3, hAt, hPall, ⟨by decide, by decide⟩, by rw [hP1, i1]; grind, hU, by omega⟩, ?_⟩
              refine ⟨t + 1, _, _, e1', by omega, rfl, rfl, ?_, ?_, ?_⟩
              · exact set_eq n3
              · rw [set_ne hij]
                exact n4
              · rw [set_ne hip]
                exact n5
theorem ok_law {P : Program} {w : World} {K : PySem.W.Frag} {mg : Str → Option Value} {base : Heap} {f : Addr} {fd : FuncData} (T : Fun K "law" "law" s_law f fd) (B : Blt mg) (F__law_begin : FnAt P w K mg base CX0 1 "_law_begin" 1 sp__law_begin) (F__law_some_rows : FnAt P w K mg base CX0 5 "_law_some_rows" 1 sp__law_some_rows) (F_unit_stretches : FnAt P w K mg base CX0 2 "unit_stretches" 3 sp_unit_stretches) (F__law_by_kinds : FnAt P w K mg base CX0 2 "_law_by_kinds" 2 sp__law_by_kinds) (F_parts_at : FnAt P w K mg base CX0 8 "parts_at" 2 sp_parts_at) (F_waits_at : FnAt P w K mg base CX0 8 "waits_at" 2 sp_waits_at) (F__law_take : FnAt P w K mg base CX0 1 "_law_take" 2 sp__law_take) (F__law_added : FnAt P w K mg base CX0 3 "_law_added" 3 sp__law_added) (F_too_much : FnAt P w K mg base CX0 4 "too_much" 1 sp_too_much) (F__law_same : FnAt P w K mg base CX0 8 "_law_same" 2 sp__law_same) (F__law_sum : FnAt P w K mg base CX0 2 "_law_sum" 1 sp__law_sum) (F_is_rows : FnAt P w K mg base CX0 7 "is_rows" 1 sp_is_rows) : FnOk P w K mg base CX0 9 f fd ["_law_script"] (upF 1 K sp_law) := (w_law T B F__law_begin F__law_some_rows F_unit_stretches F__law_by_kinds F_parts_at F_waits_at F__law_take F__law_added F_too_much F__law_same F__law_sum F_is_rows).imp (up_imp v_law)


end LW

namespace LW
open PySem PySem.Spec PyProof.Rows L2 RZ DL



set_option maxHeartbeats 0 in
theorem all_mk {l : PySem.W.OpenLaw} {w : World} {K : PySem.W.Frag} {h : Heap} {mg : Str → Option Value} {fa : Addr} (X : K.In h) (G : h.Ns mainGlobals mg) (hfa : mg "law" = some (.ref fa))
    {C_Parting : Addr} (aC0 : PySem.W.nsIn K mainGlobals "Parting" = some (some (.ref C_Parting))) (pg0 : PySem.W.plainGet K C_Parting Str.empty = true) (hd0 : PySem.W.hasDictIn K C_Parting = true) (po0 : PySem.W.plainOver K C_Parting = true) (sa0 : PySem.W.findIn K (.ref C_Parting) "__setattr__" = some (some (.builtin "object.__setattr__"))) (mk0 : PySem.W.makesIn K C_Parting = true) (kc0 : PySem.W.keepIn K (.ref C_Parting) = true)
    (n0_0 : PySem.W.findIn K (.ref C_Parting) "told" = some none)
    (n0_1 : PySem.W.findIn K (.ref C_Parting) "rest" = some none)
    {f0 : Addr} {od0 an0 : Option Addr} {sl0 : Array (Option Value)} {oc0 kV0 dc0 pm0 cd0 ct0 : Value}
    (a0 : PySem.W.nsIn K mainGlobals "_law_begin" = some (some (.ref f0)))
    (l0 : K.lookup f0 = some ⟨oc0, od0, .func (PySem.W.fnOf "_law_begin" "_law_begin" (defArgs s__law_begin) (defBody s__law_begin) (defScope s__law_begin) .none kV0 dc0 pm0 an0 cd0 ct0), sl0⟩) (c0 : PySem.W.codeIn K cd0 "_law_begin" = true) (k0 : PySem.W.keepIn K (.ref f0) = true)
    {f1 : Addr} {od1 an1 : Option Addr} {sl1 : Array (Option Value)} {oc1 kV1 dc1 pm1 cd1 ct1 : Value}
    (a1 : PySem.W.nsIn K mainGlobals "_law_take" = some (some (.ref f1)))
    (l1 : K.lookup f1 = some ⟨oc1, od1, .func (PySem.W.fnOf "_law_take" "_law_take" (defArgs s__law_take) (defBody s__law_take) (defScope s__law_take) .none kV1 dc1 pm1 an1 cd1 ct1), sl1⟩) (c1 : PySem.W.codeIn K cd1 "_law_take" = true) (k1 : PySem.W.keepIn K (.ref f1) = true)
    {f2 : Addr} {od2 an2 : Option Addr} {sl2 : Array (Option Value)} {oc2 kV2 dc2 pm2 cd2 ct2 : Value}
    (a2 : PySem.W.nsIn K mainGlobals "_law_lowest" = some (some (.ref f2)))
    (l2 : K.lookup f2 = some ⟨oc2, od2, .func (PySem.W.fnOf "_law_lowest" "_law_lowest" (defArgs s__law_lowest) (defBody s__law_lowest) (defScope s__law_lowest) .none kV2 dc2 pm2 an2 cd2 ct2), sl2⟩) (c2 : PySem.W.codeIn K cd2 "_law_lowest" = true) (k2 : PySem.W.keepIn K (.ref f2) = true)
    {f3 : Addr} {od3 an3 : Option Addr} {sl3 : Array (Option Value)} {oc3 kV3 dc3 pm3 cd3 ct3 : Value}
    (a3 : PySem.W.nsIn K mainGlobals "_law_part" = some (some (.ref f3)))
    (l3 : K.lookup f3 = some ⟨oc3, od3, .func (PySem.W.fnOf "_law_part" "_law_part" (defArgs s__law_part) (defBody s__law_part) (defScope s__law_part) .none kV3 dc3 pm3 an3 cd3 ct3), sl3⟩) (c3 : PySem.W.codeIn K cd3 "_law_part" = true) (k3 : PySem.W.keepIn K (.ref f3) = true)
    {f4 : Addr} {od4 an4 : Option Addr} {sl4 : Array (Option Value)} {oc4 kV4 dc4 pm4 cd4 ct4 : Value}
    (a4 : PySem.W.nsIn K mainGlobals "_law_row" = some (some (.ref f4)))
    (l4 : K.lookup f4 = some ⟨oc4, od4, .func (PySem.W.fnOf "_law_row" "_law_row" (defArgs s__law_row) (defBody s__law_row) (defScope s__law_row) .none kV4 dc4 pm4 an4 cd4 ct4), sl4⟩) (c4 : PySem.W.codeIn K cd4 "_law_row" = true) (k4 : PySem.W.keepIn K (.ref f4) = true)
    {f5 : Addr} {od5 an5 : Option Addr} {sl5 : Array (Option Value)} {oc5 kV5 dc5 pm5 cd5 ct5 : Value}
    (a5 : PySem.W.nsIn K mainGlobals "_law_rows" = some (some (.ref f5)))
    (l5 : K.lookup f5 = some ⟨oc5, od5, .func (PySem.W.fnOf "_law_rows" "_law_rows" (defArgs s__law_rows) (defBody s__law_rows) (defScope s__law_rows) .none kV5 dc5 pm5 an5 cd5 ct5), sl5⟩) (c5 : PySem.W.codeIn K cd5 "_law_rows" = true) (k5 : PySem.W.keepIn K (.ref f5) = true)
    {f6 : Addr} {od6 an6 : Option Addr} {sl6 : Array (Option Value)} {oc6 kV6 dc6 pm6 cd6 ct6 : Value}
    (a6 : PySem.W.nsIn K mainGlobals "_law_names" = some (some (.ref f6)))
    (l6 : K.lookup f6 = some ⟨oc6, od6, .func (PySem.W.fnOf "_law_names" "_law_names" (defArgs s__law_names) (defBody s__law_names) (defScope s__law_names) .none kV6 dc6 pm6 an6 cd6 ct6), sl6⟩) (c6 : PySem.W.codeIn K cd6 "_law_names" = true) (k6 : PySem.W.keepIn K (.ref f6) = true)
    {f7 : Addr} {od7 an7 : Option Addr} {sl7 : Array (Option Value)} {oc7 kV7 dc7 pm7 cd7 ct7 : Value}
    (a7 : PySem.W.nsIn K mainGlobals "_law_some_rows" = some (some (.ref f7)))
    (l7 : K.lookup f7 = some ⟨oc7, od7, .func (PySem.W.fnOf "_law_some_rows" "_law_some_rows" (defArgs s__law_some_rows) (defBody s__law_some_rows) (defScope s__law_some_rows) .none kV7 dc7 pm7 an7 cd7 ct7), sl7⟩) (c7 : PySem.W.codeIn K cd7 "_law_some_rows" = true) (k7 : PySem.W.keepIn K (.ref f7) = true)
    {f8 : Addr} {od8 an8 : Option Addr} {sl8 : Array (Option Value)} {oc8 kV8 dc8 pm8 cd8 ct8 : Value}
    (a8 : PySem.W.nsIn K mainGlobals "rows_by" = some (some (.ref f8)))
    (l8 : K.lookup f8 = some ⟨oc8, od8, .func (PySem.W.fnOf "rows_by" "rows_by" (defArgs s_rows_by) (defBody s_rows_by) (defScope s_rows_by) .none kV8 dc8 pm8 an8 cd8 ct8), sl8⟩) (c8 : PySem.W.codeIn K cd8 "rows_by" = true) (k8 : PySem.W.keepIn K (.ref f8) = true)
    {f9 : Addr} {od9 an9 : Option Addr} {sl9 : Array (Option Value)} {oc9 kV9 dc9 pm9 cd9 ct9 : Value}
    (a9 : PySem.W.nsIn K mainGlobals "unit_stretches" = some (some (.ref f9)))
    (l9 : K.lookup f9 = some ⟨oc9, od9, .func (PySem.W.fnOf "unit_stretches" "unit_stretches" (defArgs s_unit_stretches) (defBody s_unit_stretches) (defScope s_unit_stretches) .none kV9 dc9 pm9 an9 cd9 ct9), sl9⟩) (c9 : PySem.W.codeIn K cd9 "unit_stretches" = true) (k9 : PySem.W.keepIn K (.ref f9) = true)
    {f10 : Addr} {od10 an10 : Option Addr} {sl10 : Array (Option Value)} {oc10 kV10 dc10 pm10 cd10 ct10 : Value}
    (a10 : PySem.W.nsIn K mainGlobals "_law_by_kinds" = some (some (.ref f10)))
    (l10 : K.lookup f10 = some ⟨oc10, od10, .func (PySem.W.fnOf "_law_by_kinds" "_law_by_kinds" (defArgs s__law_by_kinds) (defBody s__law_by_kinds) (defScope s__law_by_kinds) .none kV10 dc10 pm10 an10 cd10 ct10), sl10⟩) (c10 : PySem.W.codeIn K cd10 "_law_by_kinds" = true) (k10 : PySem.W.keepIn K (.ref f10) = true)
    {f11 : Addr} {od11 an11 : Option Addr} {sl11 : Array (Option Value)} {oc11 kV11 dc11 pm11 cd11 ct11 : Value}
    (a11 : PySem.W.nsIn K mainGlobals "is_less" = some (some (.ref f11)))
    (l11 : K.lookup f11 = some ⟨oc11, od11, .func (PySem.W.fnOf "is_less" "is_less" (defArgs s_is_less) (defBody s_is_less) (defScope s_is_less) .none kV11 dc11 pm11 an11 cd11 ct11), sl11⟩) (c11 : PySem.W.codeIn K cd11 "is_less" = true) (k11 : PySem.W.keepIn K (.ref f11) = true)
    {f12 : Addr} {od12 an12 : Option Addr} {sl12 : Array (Option Value)} {oc12 kV12 dc12 pm12 cd12 ct12 : Value}
    (a12 : PySem.W.nsIn K mainGlobals "divisor_of" = some (some (.ref f12)))
    (l12 : K.lookup f12 = some ⟨oc12, od12, .func (PySem.W.fnOf "divisor_of" "divisor_of" (defArgs s_divisor_of) (defBody s_divisor_of) (defScope s_divisor_of) .none kV12 dc12 pm12 an12 cd12 ct12), sl12⟩) (c12 : PySem.W.codeIn K cd12 "divisor_of" = true) (k12 : PySem.W.keepIn K (.ref f12) = true)
    {f13 : Addr} {od13 an13 : Option Addr} {sl13 : Array (Option Value)} {oc13 kV13 dc13 pm13 cd13 ct13 : Value}
    (a13 : PySem.W.nsIn K mainGlobals "fraction_of" = some (some (.ref f13)))
    (l13 : K.lookup f13 = some ⟨oc13, od13, .func (PySem.W.fnOf "fraction_of" "fraction_of" (defArgs s_fraction_of) (defBody s_fraction_of) (defScope s_fraction_of) .none kV13 dc13 pm13 an13 cd13 ct13), sl13⟩) (c13 : PySem.W.codeIn K cd13 "fraction_of" = true) (k13 : PySem.W.keepIn K (.ref f13) = true)
    {f14 : Addr} {od14 an14 : Option Addr} {sl14 : Array (Option Value)} {oc14 kV14 dc14 pm14 cd14 ct14 : Value}
    (a14 : PySem.W.nsIn K mainGlobals "sum_of" = some (some (.ref f14)))
    (l14 : K.lookup f14 = some ⟨oc14, od14, .func (PySem.W.fnOf "sum_of" "sum_of" (defArgs s_sum_of) (defBody s_sum_of) (defScope s_sum_of) .none kV14 dc14 pm14 an14 cd14 ct14), sl14⟩) (c14 : PySem.W.codeIn K cd14 "sum_of" = true) (k14 : PySem.W.keepIn K (.ref f14) = true)
    {f15 : Addr} {od15 an15 : Option Addr} {sl15 : Array (Option Value)} {oc15 kV15 dc15 pm15 cd15 ct15 : Value}
    (a15 : PySem.W.findIn K (.ref C_Parting) "pairs" = some (some (.ref f15))) (i15 : PySem.W.isFn K (.ref f15) = true)
    (l15 : K.lookup f15 = some ⟨oc15, od15, .func (PySem.W.fnOf "pairs" "Parting.pairs" (defArgs s_Parting_pairs) (defBody s_Parting_pairs) (defScope s_Parting_pairs) .none kV15 dc15 pm15 an15 cd15 ct15), sl15⟩) (c15 : PySem.W.codeIn K cd15 "Parting.pairs" = true) (k15 : PySem.W.keepIn K (.ref f15) = true)
    {f16 : Addr} {od16 an16 : Option Addr} {sl16 : Array (Option Value)} {oc16 kV16 dc16 pm16 cd16 ct16 : Value}
    (a16 : PySem.W.nsIn K mainGlobals "taken_from" = some (some (.ref f16)))
    (l16 : K.lookup f16 = some ⟨oc16, od16, .func (PySem.W.fnOf "taken_from" "taken_from" (defArgs s_taken_from) (defBody s_taken_from) (defScope s_taken_from) .none kV16 dc16 pm16 an16 cd16 ct16), sl16⟩) (c16 : PySem.W.codeIn K cd16 "taken_from" = true) (k16 : PySem.W.keepIn K (.ref f16) = true)
    {f17 : Addr} {od17 an17 : Option Addr} {sl17 : Array (Option Value)} {oc17 kV17 dc17 pm17 cd17 ct17 : Value}
    (a17 : PySem.W.findIn K (.ref C_Parting) "give" = some (some (.ref f17))) (i17 : PySem.W.isFn K (.ref f17) = true)
    (l17 : K.lookup f17 = some ⟨oc17, od17, .func (PySem.W.fnOf "give" "Parting.give" (defArgs s_Parting_give) (defBody s_Parting_give) (defScope s_Parting_give) .none kV17 dc17 pm17 an17 cd17 ct17), sl17⟩) (c17 : PySem.W.codeIn K cd17 "Parting.give" = true) (k17 : PySem.W.keepIn K (.ref f17) = true)
    {f18 : Addr} {od18 an18 : Option Addr} {sl18 : Array (Option Value)} {oc18 kV18 dc18 pm18 cd18 ct18 : Value}
    (a18 : PySem.W.nsIn K mainGlobals "product_of" = some (some (.ref f18)))
    (l18 : K.lookup f18 = some ⟨oc18, od18, .func (PySem.W.fnOf "product_of" "product_of" (defArgs s_product_of) (defBody s_product_of) (defScope s_product_of) .none kV18 dc18 pm18 an18 cd18 ct18), sl18⟩) (c18 : PySem.W.codeIn K cd18 "product_of" = true) (k18 : PySem.W.keepIn K (.ref f18) = true)
    {f19 : Addr} {od19 an19 : Option Addr} {sl19 : Array (Option Value)} {oc19 kV19 dc19 pm19 cd19 ct19 : Value}
    (a19 : PySem.W.findIn K (.ref C_Parting) "by_lengths" = some (some (.ref f19))) (i19 : PySem.W.isFn K (.ref f19) = true)
    (l19 : K.lookup f19 = some ⟨oc19, od19, .func (PySem.W.fnOf "by_lengths" "Parting.by_lengths" (defArgs s_Parting_by_lengths) (defBody s_Parting_by_lengths) (defScope s_Parting_by_lengths) .none kV19 dc19 pm19 an19 cd19 ct19), sl19⟩) (c19 : PySem.W.codeIn K cd19 "Parting.by_lengths" = true) (k19 : PySem.W.keepIn K (.ref f19) = true)
    {f20 : Addr} {od20 an20 : Option Addr} {sl20 : Array (Option Value)} {oc20 kV20 dc20 pm20 cd20 ct20 : Value}
    (a20 : PySem.W.nsIn K mainGlobals "part_at" = some (some (.ref f20)))
    (l20 : K.lookup f20 = some ⟨oc20, od20, .func (PySem.W.fnOf "part_at" "part_at" (defArgs s_part_at) (defBody s_part_at) (defScope s_part_at) .none kV20 dc20 pm20 an20 cd20 ct20), sl20⟩) (c20 : PySem.W.codeIn K cd20 "part_at" = true) (k20 : PySem.W.keepIn K (.ref f20) = true)
    {f21 : Addr} {od21 an21 : Option Addr} {sl21 : Array (Option Value)} {oc21 kV21 dc21 pm21 cd21 ct21 : Value}
    (a21 : PySem.W.findIn K (.ref C_Parting) "__init__" = some (some (.ref f21))) (i21 : PySem.W.isFn K (.ref f21) = true)
    (l21 : K.lookup f21 = some ⟨oc21, od21, .func (PySem.W.fnOf "__init__" "Parting.__init__" (defArgs s_Parting___init__) (defBody s_Parting___init__) (defScope s_Parting___init__) .none kV21 dc21 pm21 an21 cd21 ct21), sl21⟩) (c21 : PySem.W.codeIn K cd21 "Parting.__init__" = true) (k21 : PySem.W.keepIn K (.ref f21) = true)
    {f22 : Addr} {od22 an22 : Option Addr} {sl22 : Array (Option Value)} {oc22 kV22 dc22 pm22 cd22 ct22 : Value}
    (a22 : PySem.W.nsIn K mainGlobals "parts_at" = some (some (.ref f22)))
    (l22 : K.lookup f22 = some ⟨oc22, od22, .func (PySem.W.fnOf "parts_at" "parts_at" (defArgs s_parts_at) (defBody s_parts_at) (defScope s_parts_at) .none kV22 dc22 pm22 an22 cd22 ct22), sl22⟩) (c22 : PySem.W.codeIn K cd22 "parts_at" = true) (k22 : PySem.W.keepIn K (.ref f22) = true)
    {f23 : Addr} {od23 an23 : Option Addr} {sl23 : Array (Option Value)} {oc23 kV23 dc23 pm23 cd23 ct23 : Value}
    (a23 : PySem.W.nsIn K mainGlobals "waits_at" = some (some (.ref f23)))
    (l23 : K.lookup f23 = some ⟨oc23, od23, .func (PySem.W.fnOf "waits_at" "waits_at" (defArgs s_waits_at) (defBody s_waits_at) (defScope s_waits_at) .none kV23 dc23 pm23 an23 cd23 ct23), sl23⟩) (c23 : PySem.W.codeIn K cd23 "waits_at" = true) (k23 : PySem.W.keepIn K (.ref f23) = true)
    {f24 : Addr} {od24 an24 : Option Addr} {sl24 : Array (Option Value)} {oc24 kV24 dc24 pm24 cd24 ct24 : Value}
    (a24 : PySem.W.nsIn K mainGlobals "_law_sum" = some (some (.ref f24)))
    (l24 : K.lookup f24 = some ⟨oc24, od24, .func (PySem.W.fnOf "_law_sum" "_law_sum" (defArgs s__law_sum) (defBody s__law_sum) (defScope s__law_sum) .none kV24 dc24 pm24 an24 cd24 ct24), sl24⟩) (c24 : PySem.W.codeIn K cd24 "_law_sum" = true) (k24 : PySem.W.keepIn K (.ref f24) = true)
    {f25 : Addr} {od25 an25 : Option Addr} {sl25 : Array (Option Value)} {oc25 kV25 dc25 pm25 cd25 ct25 : Value}
    (a25 : PySem.W.nsIn K mainGlobals "_law_times" = some (some (.ref f25)))
    (l25 : K.lookup f25 = some ⟨oc25, od25, .func (PySem.W.fnOf "_law_times" "_law_times" (defArgs s__law_times) (defBody s__law_times) (defScope s__law_times) .none kV25 dc25 pm25 an25 cd25 ct25), sl25⟩) (c25 : PySem.W.codeIn K cd25 "_law_times" = true) (k25 : PySem.W.keepIn K (.ref f25) = true)
    {f26 : Addr} {od26 an26 : Option Addr} {sl26 : Array (Option Value)} {oc26 kV26 dc26 pm26 cd26 ct26 : Value}
    (a26 : PySem.W.nsIn K mainGlobals "_law_added" = some (some (.ref f26)))
    (l26 : K.lookup f26 = some ⟨oc26, od26, .func (PySem.W.fnOf "_law_added" "_law_added" (defArgs s__law_added) (defBody s__law_added) (defScope s__law_added) .none kV26 dc26 pm26 an26 cd26 ct26), sl26⟩) (c26 : PySem.W.codeIn K cd26 "_law_added" = true) (k26 : PySem.W.keepIn K (.ref f26) = true)
    {f27 : Addr} {od27 an27 : Option Addr} {sl27 : Array (Option Value)} {oc27 kV27 dc27 pm27 cd27 ct27 : Value}
    (a27 : PySem.W.nsIn K mainGlobals "greatest_part" = some (some (.ref f27)))
    (l27 : K.lookup f27 = some ⟨oc27, od27, .func (PySem.W.fnOf "greatest_part" "greatest_part" (defArgs s_greatest_part) (defBody s_greatest_part) (defScope s_greatest_part) .none kV27 dc27 pm27 an27 cd27 ct27), sl27⟩) (c27 : PySem.W.codeIn K cd27 "greatest_part" = true) (k27 : PySem.W.keepIn K (.ref f27) = true)
    {f28 : Addr} {od28 an28 : Option Addr} {sl28 : Array (Option Value)} {oc28 kV28 dc28 pm28 cd28 ct28 : Value}
    (a28 : PySem.W.nsIn K mainGlobals "too_much" = some (some (.ref f28)))
    (l28 : K.lookup f28 = some ⟨oc28, od28, .func (PySem.W.fnOf "too_much" "too_much" (defArgs s_too_much) (defBody s_too_much) (defScope s_too_much) .none kV28 dc28 pm28 an28 cd28 ct28), sl28⟩) (c28 : PySem.W.codeIn K cd28 "too_much" = true) (k28 : PySem.W.keepIn K (.ref f28) = true)
    {f29 : Addr} {od29 an29 : Option Addr} {sl29 : Array (Option Value)} {oc29 kV29 dc29 pm29 cd29 ct29 : Value}
    (a29 : PySem.W.nsIn K mainGlobals "_law_same" = some (some (.ref f29)))
    (l29 : K.lookup f29 = some ⟨oc29, od29, .func (PySem.W.fnOf "_law_same" "_law_same" (defArgs s__law_same) (defBody s__law_same) (defScope s__law_same) .none kV29 dc29 pm29 an29 cd29 ct29), sl29⟩) (c29 : PySem.W.codeIn K cd29 "_law_same" = true) (k29 : PySem.W.keepIn K (.ref f29) = true)
    {f30 : Addr} {od30 an30 : Option Addr} {sl30 : Array (Option Value)} {oc30 kV30 dc30 pm30 cd30 ct30 : Value}
    (a30 : PySem.W.nsIn K mainGlobals "is_number" = some (some (.ref f30)))
    (l30 : K.lookup f30 = some ⟨oc30, od30, .func (PySem.W.fnOf "is_number" "is_number" (defArgs s_is_number) (defBody s_is_number) (defScope s_is_number) .none kV30 dc30 pm30 an30 cd30 ct30), sl30⟩) (c30 : PySem.W.codeIn K cd30 "is_number" = true) (k30 : PySem.W.keepIn K (.ref f30) = true)
    {f31 : Addr} {od31 an31 : Option Addr} {sl31 : Array (Option Value)} {oc31 kV31 dc31 pm31 cd31 ct31 : Value}
    (a31 : PySem.W.nsIn K mainGlobals "is_part" = some (some (.ref f31)))
    (l31 : K.lookup f31 = some ⟨oc31, od31, .func (PySem.W.fnOf "is_part" "is_part" (defArgs s_is_part) (defBody s_is_part) (defScope s_is_part) .none kV31 dc31 pm31 an31 cd31 ct31), sl31⟩) (c31 : PySem.W.codeIn K cd31 "is_part" = true) (k31 : PySem.W.keepIn K (.ref f31) = true)
    {f32 : Addr} {od32 an32 : Option Addr} {sl32 : Array (Option Value)} {oc32 kV32 dc32 pm32 cd32 ct32 : Value}
    (a32 : PySem.W.nsIn K mainGlobals "is_rate" = some (some (.ref f32)))
    (l32 : K.lookup f32 = some ⟨oc32, od32, .func (PySem.W.fnOf "is_rate" "is_rate" (defArgs s_is_rate) (defBody s_is_rate) (defScope s_is_rate) .none kV32 dc32 pm32 an32 cd32 ct32), sl32⟩) (c32 : PySem.W.codeIn K cd32 "is_rate" = true) (k32 : PySem.W.keepIn K (.ref f32) = true)
    {f33 : Addr} {od33 an33 : Option Addr} {sl33 : Array (Option Value)} {oc33 kV33 dc33 pm33 cd33 ct33 : Value}
    (a33 : PySem.W.nsIn K mainGlobals "are_rates" = some (some (.ref f33)))
    (l33 : K.lookup f33 = some ⟨oc33, od33, .func (PySem.W.fnOf "are_rates" "are_rates" (defArgs s_are_rates) (defBody s_are_rates) (defScope s_are_rates) .none kV33 dc33 pm33 an33 cd33 ct33), sl33⟩) (c33 : PySem.W.codeIn K cd33 "are_rates" = true) (k33 : PySem.W.keepIn K (.ref f33) = true)
    {f34 : Addr} {od34 an34 : Option Addr} {sl34 : Array (Option Value)} {oc34 kV34 dc34 pm34 cd34 ct34 : Value}
    (a34 : PySem.W.nsIn K mainGlobals "is_name" = some (some (.ref f34)))
    (l34 : K.lookup f34 = some ⟨oc34, od34, .func (PySem.W.fnOf "is_name" "is_name" (defArgs s_is_name) (defBody s_is_name) (defScope s_is_name) .none kV34 dc34 pm34 an34 cd34 ct34), sl34⟩) (c34 : PySem.W.codeIn K cd34 "is_name" = true) (k34 : PySem.W.keepIn K (.ref f34) = true)
    {f35 : Addr} {od35 an35 : Option Addr} {sl35 : Array (Option Value)} {oc35 kV35 dc35 pm35 cd35 ct35 : Value}
    (a35 : PySem.W.nsIn K mainGlobals "is_row" = some (some (.ref f35)))
    (l35 : K.lookup f35 = some ⟨oc35, od35, .func (PySem.W.fnOf "is_row" "is_row" (defArgs s_is_row) (defBody s_is_row) (defScope s_is_row) .none kV35 dc35 pm35 an35 cd35 ct35), sl35⟩) (c35 : PySem.W.codeIn K cd35 "is_row" = true) (k35 : PySem.W.keepIn K (.ref f35) = true)
    {f36 : Addr} {od36 an36 : Option Addr} {sl36 : Array (Option Value)} {oc36 kV36 dc36 pm36 cd36 ct36 : Value}
    (a36 : PySem.W.nsIn K mainGlobals "is_rows" = some (some (.ref f36)))
    (l36 : K.lookup f36 = some ⟨oc36, od36, .func (PySem.W.fnOf "is_rows" "is_rows" (defArgs s_is_rows) (defBody s_is_rows) (defScope s_is_rows) .none kV36 dc36 pm36 an36 cd36 ct36), sl36⟩) (c36 : PySem.W.codeIn K cd36 "is_rows" = true) (k36 : PySem.W.keepIn K (.ref f36) = true)
    {f37 : Addr} {od37 an37 : Option Addr} {sl37 : Array (Option Value)} {oc37 kV37 dc37 pm37 cd37 ct37 : Value}
    (a37 : PySem.W.nsIn K mainGlobals "law" = some (some (.ref f37)))
    (l37 : K.lookup f37 = some ⟨oc37, od37, .func (PySem.W.fnOf "law" "law" (defArgs s_law) (defBody s_law) (defScope s_law) .none kV37 dc37 pm37 an37 cd37 ct37), sl37⟩) (c37 : PySem.W.codeIn K cd37 "law" = true) (k37 : PySem.W.keepIn K (.ref f37) = true)
    (z0 : PySem.W.nsIn K mainGlobals "abs" = some none)
    (z1 : PySem.W.nsIn K mainGlobals "len" = some none)
    (z2 : PySem.W.nsIn K mainGlobals "isinstance" = some none)
    (z3 : PySem.W.nsIn K mainGlobals "all" = some none)
    (z4 : PySem.W.nsIn K mainGlobals "any" = some none)
    (z5 : PySem.W.nsIn K mainGlobals "sum" = some none)
    (z6 : PySem.W.nsIn K mainGlobals "list" = some none)
    (z7 : PySem.W.nsIn K mainGlobals "tuple" = some none)
    (z8 : PySem.W.nsIn K mainGlobals "int" = some none)
    (z9 : PySem.W.nsIn K mainGlobals "bool" = some none)
    (z10 : PySem.W.nsIn K mainGlobals "str" = some none)
    (z11 : PySem.W.nsIn K mainGlobals "min" = some none)
    (z12 : PySem.W.nsIn K mainGlobals "max" = some none)
    (z13 : PySem.W.nsIn K mainGlobals "range" = some none)
    (z14 : PySem.W.nsIn K mainGlobals "zip" = some none)
    (z15 : PySem.W.nsIn K mainGlobals "sorted" = some none)
    (z16 : PySem.W.nsIn K mainGlobals "enumerate" = some none)
    (z17 : PySem.W.nsIn K mainGlobals "divmod" = some none)
    {tk0 : Tok} (m0 : PySem.W.nsIn K mainGlobals "MOST_BELOW" = some (some (.int (60) tk0)))
    {tk1 : Tok} (m1 : PySem.W.nsIn K mainGlobals "MOST_UNITS" = some (some (.int (1000000) tk1)))
    {tk2 : Tok} (m2 : PySem.W.nsIn K mainGlobals "LETTERS" = some (some (.str "abcdefghijklmnopqrstuvwxyz" tk2)))
    {tk3 : Tok} (m3 : PySem.W.nsIn K mainGlobals "MOST_LENGTH" = some (some (.int (1000) tk3)))
    {tk4 : Tok} (m4 : PySem.W.nsIn K mainGlobals "MOST_LEFT" = some (some (.int (3) tk4)))
    {tk5 : Tok} (m5 : PySem.W.nsIn K mainGlobals "MOST_ROWS" = some (some (.int (8) tk5)))
    : ∃ fd : FuncData, (∀ (s : Shared) (v : Value), BindsTo s fd ⟨[v], []⟩ [("_law_script", v)]) ∧ ∀ base : Heap, K.In base → base.Ns mainGlobals mg → FnOk l.prog w K mg base CX0 9 fa fd ["_law_script"] (upF 1 K sp_law) := by
  have e := hfa.symm.trans (PySem.W.mg_of X G a37)
  cases e
  have B : Blt mg := ⟨PySem.W.mg_none_of X G z0, PySem.W.mg_none_of X G z1, PySem.W.mg_none_of X G z2, PySem.W.mg_none_of X G z3, PySem.W.mg_none_of X G z4, PySem.W.mg_none_of X G z5, PySem.W.mg_none_of X G z6, PySem.W.mg_none_of X G z7, PySem.W.mg_none_of X G z8, PySem.W.mg_none_of X G z9, PySem.W.mg_none_of X G z10, PySem.W.mg_none_of X G z11, PySem.W.mg_none_of X G z12, PySem.W.mg_none_of X G z13, PySem.W.mg_none_of X G z14, PySem.W.mg_none_of X G z15, PySem.W.mg_none_of X G z16, PySem.W.mg_none_of X G z17⟩
  have CL_Parting : ClsAt K mg "Parting" C_Parting ["told", "rest"] := ⟨⟨pg0, hd0, po0, sa0⟩, PySem.W.mg_of X G aC0, (List.forall_mem_cons.mpr ⟨n0_0, (List.forall_mem_cons.mpr ⟨n0_1, (fun _ h => nomatch h)⟩)⟩)⟩
  have U0 := fun_mk (st := s__law_begin) l0 c0 k0
  have T0 : DefAt K mg "_law_begin" s__law_begin ["_law_script"] := ⟨_, _, U0, PySem.W.mg_of X G a0, U0.binds (ps := ["_law_script"]) fun _ _ _ _ _ _ us hl => match us, hl with | [_], _ => rfl⟩
  have U1 := fun_mk (st := s__law_take) l1 c1 k1
  have T1 : DefAt K mg "_law_take" s__law_take ["_law_state", "_law_many"] := ⟨_, _, U1, PySem.W.mg_of X G a1, U1.binds (ps := ["_law_state", "_law_many"]) fun _ _ _ _ _ _ us hl => match us, hl with | [_, _], _ => rfl⟩
  have U2 := fun_mk (st := s__law_lowest) l2 c2 k2
  have T2 : DefAt K mg "_law_lowest" s__law_lowest ["_law_top", "_law_below"] := ⟨_, _, U2, PySem.W.mg_of X G a2, U2.binds (ps := ["_law_top", "_law_below"]) fun _ _ _ _ _ _ us hl => match us, hl with | [_, _], _ => rfl⟩
  have U3 := fun_mk (st := s__law_part) l3 c3 k3
  have T3 : DefAt K mg "_law_part" s__law_part ["_law_state"] := ⟨_, _, U3, PySem.W.mg_of X G a3, U3.binds (ps := ["_law_state"]) fun _ _ _ _ _ _ us hl => match us, hl with | [_], _ => rfl⟩
  have U4 := fun_mk (st := s__law_row) l4 c4 k4
  have T4 : DefAt K mg "_law_row" s__law_row ["_law_state", "_law_name", "_law_room"] := ⟨_, _, U4, PySem.W.mg_of X G a4, U4.binds (ps := ["_law_state", "_law_name", "_law_room"]) fun _ _ _ _ _ _ us hl => match us, hl with | [_, _, _], _ => rfl⟩
  have U5 := fun_mk (st := s__law_rows) l5 c5 k5
  have T5 : DefAt K mg "_law_rows" s__law_rows ["_law_state", "_law_names_here", "_law_many"] := ⟨_, _, U5, PySem.W.mg_of X G a5, U5.binds (ps := ["_law_state", "_law_names_here", "_law_many"]) fun _ _ _ _ _ _ us hl => match us, hl with | [_, _, _], _ => rfl⟩
  have U6 := fun_mk (st := s__law_names) l6 c6 k6
  have T6 : DefAt K mg "_law_names" s__law_names ["_law_state", "_law_many"] := ⟨_, _, U6, PySem.W.mg_of X G a6, U6.binds (ps := ["_law_state", "_law_many"]) fun _ _ _ _ _ _ us hl => match us, hl with | [_, _], _ => rfl⟩
  have U7 := fun_mk (st := s__law_some_rows) l7 c7 k7
  have T7 : DefAt K mg "_law_some_rows" s__law_some_rows ["_law_state"] := ⟨_, _, U7, PySem.W.mg_of X G a7, U7.binds (ps := ["_law_state"]) fun _ _ _ _ _ _ us hl => match us, hl with | [_], _ => rfl⟩
  have U8 := fun_mk (st := s_rows_by) l8 c8 k8
  have T8 : DefAt K mg "rows_by" s_rows_by ["rows", "kind"] := ⟨_, _, U8, PySem.W.mg_of X G a8, U8.binds (ps := ["rows", "kind"]) fun _ _ _ _ _ _ us hl => match us, hl with | [_, _], _ => rfl⟩
  have U9 := fun_mk (st := s_unit_stretches) l9 c9 k9
  have T9 : DefAt K mg "unit_stretches" s_unit_stretches ["rows", "first", "many"] := ⟨_, _, U9, PySem.W.mg_of X G a9, U9.binds (ps := ["rows", "first", "many"]) fun _ _ _ _ _ _ us hl => match us, hl with | [_, _, _], _ => rfl⟩
  have U10 := fun_mk (st := s__law_by_kinds) l10 c10 k10
  have T10 : DefAt K mg "_law_by_kinds" s__law_by_kinds ["_law_state", "_law_rows_here"] := ⟨_, _, U10, PySem.W.mg_of X G a10, U10.binds (ps := ["_law_state", "_law_rows_here"]) fun _ _ _ _ _ _ us hl => match us, hl with | [_, _], _ => rfl⟩
  have U11 := fun_mk (st := s_is_less) l11 c11 k11
  have T11 : DefAt K mg "is_less" s_is_less ["one", "other"] := ⟨_, _, U11, PySem.W.mg_of X G a11, U11.binds (ps := ["one", "other"]) fun _ _ _ _ _ _ us hl => match us, hl with | [_, _], _ => rfl⟩
  have U12 := fun_mk (st := s_divisor_of) l12 c12 k12
  have T12 : DefAt K mg "divisor_of" s_divisor_of ["one", "other"] := ⟨_, _, U12, PySem.W.mg_of X G a12, U12.binds (ps := ["one", "other"]) fun _ _ _ _ _ _ us hl => match us, hl with | [_, _], _ => rfl⟩
  have U13 := fun_mk (st := s_fraction_of) l13 c13 k13
  have T13 : DefAt K mg "fraction_of" s_fraction_of ["top", "below"] := ⟨_, _, U13, PySem.W.mg_of X G a13, U13.binds (ps := ["top", "below"]) fun _ _ _ _ _ _ us hl => match us, hl with | [_, _], _ => rfl⟩
  have U14 := fun_mk (st := s_sum_of) l14 c14 k14
  have T14 : DefAt K mg "sum_of" s_sum_of ["parts"] := ⟨_, _, U14, PySem.W.mg_of X G a14, U14.binds (ps := ["parts"]) fun _ _ _ _ _ _ us hl => match us, hl with | [_], _ => rfl⟩
  have U15 := fun_mk (st := s_Parting_pairs) l15 c15 k15
  have T15 : MethAt K C_Parting "pairs" "Parting.pairs" s_Parting_pairs ["self"] := ⟨_, _, U15, ⟨a15, i15, k15⟩, U15.binds (ps := ["self"]) fun _ _ _ _ _ _ us hl => match us, hl with | [_], _ => rfl⟩
  have U16 := fun_mk (st := s_taken_from) l16 c16 k16
  have T16 : DefAt K mg "taken_from" s_taken_from ["one", "other"] := ⟨_, _, U16, PySem.W.mg_of X G a16, U16.binds (ps := ["one", "other"]) fun _ _ _ _ _ _ us hl => match us, hl with | [_, _], _ => rfl⟩
  have U17 := fun_mk (st := s_Parting_give) l17 c17 k17
  have T17 : MethAt K C_Parting "give" "Parting.give" s_Parting_give ["self", "name", "part"] := ⟨_, _, U17, ⟨a17, i17, k17⟩, U17.binds (ps := ["self", "name", "part"]) fun _ _ _ _ _ _ us hl => match us, hl with | [_, _, _], _ => rfl⟩
  have U18 := fun_mk (st := s_product_of) l18 c18 k18
  have T18 : DefAt K mg "product_of" s_product_of ["one", "other"] := ⟨_, _, U18, PySem.W.mg_of X G a18, U18.binds (ps := ["one", "other"]) fun _ _ _ _ _ _ us hl => match us, hl with | [_, _], _ => rfl⟩
  have U19 := fun_mk (st := s_Parting_by_lengths) l19 c19 k19
  have T19 : MethAt K C_Parting "by_lengths" "Parting.by_lengths" s_Parting_by_lengths ["self", "rows"] := ⟨_, _, U19, ⟨a19, i19, k19⟩, U19.binds (ps := ["self", "rows"]) fun _ _ _ _ _ _ us hl => match us, hl with | [_, _], _ => rfl⟩
  have U20 := fun_mk (st := s_part_at) l20 c20 k20
  have T20 : DefAt K mg "part_at" s_part_at ["rates", "unit"] := ⟨_, _, U20, PySem.W.mg_of X G a20, U20.binds (ps := ["rates", "unit"]) fun _ _ _ _ _ _ us hl => match us, hl with | [_, _], _ => rfl⟩
  have U21 := fun_mk (st := s_Parting___init__) l21 c21 k21
  have T21 : InitAt K C_Parting "Parting.__init__" s_Parting___init__ ["self", "rows", "unit"] := ⟨_, _, U21, ⟨mk0, a21, i21, kc0⟩, U21.binds (ps := ["self", "rows", "unit"]) fun _ _ _ _ _ _ us hl => match us, hl with | [_, _, _], _ => rfl⟩
  have U22 := fun_mk (st := s_parts_at) l22 c22 k22
  have T22 : DefAt K mg "parts_at" s_parts_at ["rows", "unit"] := ⟨_, _, U22, PySem.W.mg_of X G a22, U22.binds (ps := ["rows", "unit"]) fun _ _ _ _ _ _ us hl => match us, hl with | [_, _], _ => rfl⟩
  have U23 := fun_mk (st := s_waits_at) l23 c23 k23
  have T23 : DefAt K mg "waits_at" s_waits_at ["rows", "unit"] := ⟨_, _, U23, PySem.W.mg_of X G a23, U23.binds (ps := ["rows", "unit"]) fun _ _ _ _ _ _ us hl => match us, hl with | [_, _], _ => rfl⟩
  have U24 := fun_mk (st := s__law_sum) l24 c24 k24
  have T24 : DefAt K mg "_law_sum" s__law_sum ["_law_parts"] := ⟨_, _, U24, PySem.W.mg_of X G a24, U24.binds (ps := ["_law_parts"]) fun _ _ _ _ _ _ us hl => match us, hl with | [_], _ => rfl⟩
  have U25 := fun_mk (st := s__law_times) l25 c25 k25
  have T25 : DefAt K mg "_law_times" s__law_times ["_law_one", "_law_other"] := ⟨_, _, U25, PySem.W.mg_of X G a25, U25.binds (ps := ["_law_one", "_law_other"]) fun _ _ _ _ _ _ us hl => match us, hl with | [_, _], _ => rfl⟩
  have U26 := fun_mk (st := s__law_added) l26 c26 k26
  have T26 : DefAt K mg "_law_added" s__law_added ["_law_found", "_law_pairs", "_law_many"] := ⟨_, _, U26, PySem.W.mg_of X G a26, U26.binds (ps := ["_law_found", "_law_pairs", "_law_many"]) fun _ _ _ _ _ _ us hl => match us, hl with | [_, _, _], _ => rfl⟩
  have U27 := fun_mk (st := s_greatest_part) l27 c27 k27
  have T27 : DefAt K mg "greatest_part" s_greatest_part ["rates"] := ⟨_, _, U27, PySem.W.mg_of X G a27, U27.binds (ps := ["rates"]) fun _ _ _ _ _ _ us hl => match us, hl with | [_], _ => rfl⟩
  have U28 := fun_mk (st := s_too_much) l28 c28 k28
  have T28 : DefAt K mg "too_much" s_too_much ["rows"] := ⟨_, _, U28, PySem.W.mg_of X G a28, U28.binds (ps := ["rows"]) fun _ _ _ _ _ _ us hl => match us, hl with | [_], _ => rfl⟩
  have U29 := fun_mk (st := s__law_same) l29 c29 k29
  have T29 : DefAt K mg "_law_same" s__law_same ["_law_found", "_law_due"] := ⟨_, _, U29, PySem.W.mg_of X G a29, U29.binds (ps := ["_law_found", "_law_due"]) fun _ _ _ _ _ _ us hl => match us, hl with | [_, _], _ => rfl⟩
  have U30 := fun_mk (st := s_is_number) l30 c30 k30
  have T30 : DefAt K mg "is_number" s_is_number ["thing", "least", "most"] := ⟨_, _, U30, PySem.W.mg_of X G a30, U30.binds (ps := ["thing", "least", "most"]) fun _ _ _ _ _ _ us hl => match us, hl with | [_, _, _], _ => rfl⟩
  have U31 := fun_mk (st := s_is_part) l31 c31 k31
  have T31 : DefAt K mg "is_part" s_is_part ["thing"] := ⟨_, _, U31, PySem.W.mg_of X G a31, U31.binds (ps := ["thing"]) fun _ _ _ _ _ _ us hl => match us, hl with | [_], _ => rfl⟩
  have U32 := fun_mk (st := s_is_rate) l32 c32 k32
  have T32 : DefAt K mg "is_rate" s_is_rate ["thing", "ahead", "is_last"] := ⟨_, _, U32, PySem.W.mg_of X G a32, U32.binds (ps := ["thing", "ahead", "is_last"]) fun _ _ _ _ _ _ us hl => match us, hl with | [_, _, _], _ => rfl⟩
  have U33 := fun_mk (st := s_are_rates) l33 c33 k33
  have T33 : DefAt K mg "are_rates" s_are_rates ["thing"] := ⟨_, _, U33, PySem.W.mg_of X G a33, U33.binds (ps := ["thing"]) fun _ _ _ _ _ _ us hl => match us, hl with | [_], _ => rfl⟩
  have U34 := fun_mk (st := s_is_name) l34 c34 k34
  have T34 : DefAt K mg "is_name" s_is_name ["thing"] := ⟨_, _, U34, PySem.W.mg_of X G a34, U34.binds (ps := ["thing"]) fun _ _ _ _ _ _ us hl => match us, hl with | [_], _ => rfl⟩
  have U35 := fun_mk (st := s_is_row) l35 c35 k35
  have T35 : DefAt K mg "is_row" s_is_row ["thing"] := ⟨_, _, U35, PySem.W.mg_of X G a35, U35.binds (ps := ["thing"]) fun _ _ _ _ _ _ us hl => match us, hl with | [_], _ => rfl⟩
  have U36 := fun_mk (st := s_is_rows) l36 c36 k36
  have T36 : DefAt K mg "is_rows" s_is_rows ["thing"] := ⟨_, _, U36, PySem.W.mg_of X G a36, U36.binds (ps := ["thing"]) fun _ _ _ _ _ _ us hl => match us, hl with | [_], _ => rfl⟩
  have U37 := fun_mk (st := s_law) l37 c37 k37
  refine ⟨PySem.W.fnOf "law" "law" (defArgs s_law) (defBody s_law) (defScope s_law) .none kV37 dc37 pm37 an37 cd37 ct37, fun s v => .of_eq rfl, fun base _ _ => ?_⟩
  have R0 : FnAt l.prog w K mg base CX0 1 "_law_begin" 1 sp__law_begin := ok__law_begin T0 B 
  have R1 : FnAt l.prog w K mg base CX0 1 "_law_take" 2 sp__law_take := ok__law_take T1 B 
  have R2 : FnAt l.prog w K mg base CX0 1 "_law_lowest" 2 sp__law_lowest := ok__law_lowest T2 B 
  have R3 : FnAt l.prog w K mg base CX0 2 "_law_part" 1 sp__law_part := ok__law_part T3 B R2 R1
  have R4 : FnAt l.prog w K mg base CX0 3 "_law_row" 3 sp__law_row := ok__law_row T4 B R1 R2 R3
  have R5 : FnAt l.prog w K mg base CX0 4 "_law_rows" 3 sp__law_rows := ok__law_rows T5 B R4 R1
  have R6 : FnAt l.prog w K mg base CX0 2 "_law_names" 2 sp__law_names := ok__law_names T6 B R1
  have R7 : FnAt l.prog w K mg base CX0 5 "_law_some_rows" 1 sp__law_some_rows := ok__law_some_rows T7 B R5 R6 R1
  have R8 : FnAt l.prog w K mg base CX0 1 "rows_by" 2 sp_rows_by := ok_rows_by T8 B 
  have R9 : FnAt l.prog w K mg base CX0 2 "unit_stretches" 3 sp_unit_stretches := ok_unit_stretches T9 B R8
  have R10 : FnAt l.prog w K mg base CX0 2 "_law_by_kinds" 2 sp__law_by_kinds := ok__law_by_kinds T10 B R1
  have R11 : FnAt l.prog w K mg base CX0 1 "is_less" 2 sp_is_less := ok_is_less T11 B 
  have R12 : FnAt l.prog w K mg base CX0 1 "divisor_of" 2 sp_divisor_of := ok_divisor_of T12 B 
  have R13 : FnAt l.prog w K mg base CX0 2 "fraction_of" 2 sp_fraction_of := ok_fraction_of T13 B R12
  have R14 : FnAt l.prog w K mg base CX0 3 "sum_of" 1 sp_sum_of := ok_sum_of T14 B R13
  have R15 : MtAt l.prog w K mg base CX0 4 C_Parting "pairs" 1 (sp_Parting_pairs C_Parting) := ok_Parting_pairs CL_Parting R11 R14 T15 B
  have R16 : FnAt l.prog w K mg base CX0 3 "taken_from" 2 sp_taken_from := ok_taken_from T16 B R13
  have R17 : MtAt l.prog w K mg base CX0 4 C_Parting "give" 3 (sp_Parting_give C_Parting) := ok_Parting_give CL_Parting R16 T17 B
  have R18 : FnAt l.prog w K mg base CX0 3 "product_of" 2 sp_product_of := ok_product_of T18 B R13
  have R19 : MtAt l.prog w K mg base CX0 5 C_Parting "by_lengths" 2 (sp_Parting_by_lengths C_Parting) := ok_Parting_by_lengths CL_Parting R17 R18 R13 T19 B
  have R20 : FnAt l.prog w K mg base CX0 1 "part_at" 2 sp_part_at := ok_part_at T20 B 
  have R21 : InAt l.prog w K mg base CX0 6 C_Parting 3 (sp_Parting___init__ C_Parting) := ok_Parting___init__ CL_Parting R16 R8 R19 R14 R17 R18 R20 T21 B
  have R22 : FnAt l.prog w K mg base CX0 8 "parts_at" 2 sp_parts_at := ok_parts_at T22 B CL_Parting R15 R21
  have R23 : FnAt l.prog w K mg base CX0 8 "waits_at" 2 sp_waits_at := ok_waits_at T23 B CL_Parting R21
  have R24 : FnAt l.prog w K mg base CX0 2 "_law_sum" 1 sp__law_sum := ok__law_sum T24 B R2
  have R25 : FnAt l.prog w K mg base CX0 2 "_law_times" 2 sp__law_times := ok__law_times T25 B R2
  have R26 : FnAt l.prog w K mg base CX0 3 "_law_added" 3 sp__law_added := ok__law_added T26 B R24 R25
  have R27 : FnAt l.prog w K mg base CX0 2 "greatest_part" 1 sp_greatest_part := ok_greatest_part T27 B R11
  have R28 : FnAt l.prog w K mg base CX0 4 "too_much" 1 sp_too_much := ok_too_much T28 B R11 R14 R27 R8
  have R29 : FnAt l.prog w K mg base CX0 8 "_law_same" 2 sp__law_same := ok__law_same T29 B 
  have R30 : FnAt l.prog w K mg base CX0 1 "is_number" 3 sp_is_number := ok_is_number T30 B 
  have R31 : FnAt l.prog w K mg base CX0 3 "is_part" 1 sp_is_part := ok_is_part T31 B R13 R30 (PySem.W.mg_of X G m0)
  have R32 : FnAt l.prog w K mg base CX0 4 "is_rate" 3 sp_is_rate := ok_is_rate T32 B R30 R31 (PySem.W.mg_of X G m1)
  have R33 : FnAt l.prog w K mg base CX0 5 "are_rates" 1 sp_are_rates := ok_are_rates T33 B R32
  have R34 : FnAt l.prog w K mg base CX0 1 "is_name" 1 sp_is_name := ok_is_name T34 B  (PySem.W.mg_of X G m2)
  have R35 : FnAt l.prog w K mg base CX0 6 "is_row" 1 sp_is_row := ok_is_row T35 B R31 R33 R30 R34 (PySem.W.mg_of X G m3)
  have R36 : FnAt l.prog w K mg base CX0 7 "is_rows" 1 sp_is_rows := ok_is_rows T36 B R8 R35 (PySem.W.mg_of X G m4) (PySem.W.mg_of X G m5)
  exact ok_law U37 B R0 R7 R9 R10 R22 R23 R1 R26 R28 R29 R24 R36
end LW

open PySem PySem.W PyProof.Rows
section
set_option hygiene false in
local macro_rules | `(tactic| kernel_rfl) => `(tactic| (with_reducible refine DL.run3 ?a ?b ?c; (case a => rename_i w os; exact DL.castE (DL.RE1 w os) (by kernel_rfl)); (case b => unfold openGood; with_reducible refine DL.run2 ?_ (DL.run2 ?_ (DL.run2 ?_ (DL.run2 ?_ (DL.run2 ?_ (DL.run2 ?_ (DL.run2 ?_ (DL.run2 ?_ ?_))))))); (rename_i w os; exact DL.castE (DL.RE2 w os) (by kernel_rfl)); (rename_i w os; exact DL.castE (DL.RE3 w os) (by kernel_rfl)); (rename_i w os; exact DL.castE (DL.RE4 w os) (by kernel_rfl)); (rename_i w os; exact DL.castE (DL.RE5 w os) (by kernel_rfl)); (rename_i w os; exact DL.castE (DL.RE6 w os) (by kernel_rfl)); (rename_i w os; exact DL.castE (DL.RE7 w os) (by kernel_rfl)); (rename_i w os; exact DL.castE (DL.RE8 w os) (by kernel_rfl)); (rename_i w os; exact DL.castE (DL.RE9 w os) (by kernel_rfl)); (rename_i w os; exact DL.castE (DL.RE10 w os) (by kernel_rfl))); (case c => rename_i w os; revert w os; exact h1)))
set_option maxHeartbeats 0 in
noncomputable def DL.Head : (A1 : Prop) ×' (A1 → PySem.Challenge.rw_royaltree_k11_whole_units_parted.Holds) := by
  refine' ⟨_, fun h1 => ?z⟩
  case z =>
    w_on; o_law; k_headL; (case hw => w_witness2)
    k_fill
    refine L2.walk_of (l := PySem.Challenge.rw_royaltree_k11_whole_units_parted) (n := 63) (k := 9) (x := "_law_script") (CX := fun _ => L2.CX0) (sp := fun w => DL.upF 1 _ LW.sp_law) rfl (by decide) rfl ⟨rfl, by decide, by decide⟩ (fun w h Y => PySem.W.kIn_of Y) ?F (fun _ _ a ns hl _ hS => DL.law_start hl hS) (fun _ _ _ _ _ h => h)
    case F =>
      intro w mg fa h KX G hmg
      refine' LW.all_mk KX G hmg ?aC0 ?pg0 ?hd0 ?po0 ?sa0 ?mk0 ?kc0 ?n0_0 ?n0_1 ?a0 ?l0 ?c0 ?k0 ?a1 ?l1 ?c1 ?k1 ?a2 ?l2 ?c2 ?k2 ?a3 ?l3 ?c3 ?k3 ?a4 ?l4 ?c4 ?k4 ?a5 ?l5 ?c5 ?k5 ?a6 ?l6 ?c6 ?k6 ?a7 ?l7 ?c7 ?k7 ?a8 ?l8 ?c8 ?k8 ?a9 ?l9 ?c9 ?k9 ?a10 ?l10 ?c10 ?k10 ?a11 ?l11 ?c11 ?k11 ?a12 ?l12 ?c12 ?k12 ?a13 ?l13 ?c13 ?k13 ?a14 ?l14 ?c14 ?k14 ?a15 ?i15 ?l15 ?c15 ?k15 ?a16 ?l16 ?c16 ?k16 ?a17 ?i17 ?l17 ?c17 ?k17 ?a18 ?l18 ?c18 ?k18 ?a19 ?i19 ?l19 ?c19 ?k19 ?a20 ?l20 ?c20 ?k20 ?a21 ?i21 ?l21 ?c21 ?k21 ?a22 ?l22 ?c22 ?k22 ?a23 ?l23 ?c23 ?k23 ?a24 ?l24 ?c24 ?k24 ?a25 ?l25 ?c25 ?k25 ?a26 ?l26 ?c26 ?k26 ?a27 ?l27 ?c27 ?k27 ?a28 ?l28 ?c28 ?k28 ?a29 ?l29 ?c29 ?k29 ?a30 ?l30 ?c30 ?k30 ?a31 ?l31 ?c31 ?k31 ?a32 ?l32 ?c32 ?k32 ?a33 ?l33 ?c33 ?k33 ?a34 ?l34 ?c34 ?k34 ?a35 ?l35 ?c35 ?k35 ?a36 ?l36 ?c36 ?k36 ?a37 ?l37 ?c37 ?k37 ?z0 ?z1 ?z2 ?z3 ?z4 ?z5 ?z6 ?z7 ?z8 ?z9 ?z10 ?z11 ?z12 ?z13 ?z14 ?z15 ?z16 ?z17 ?m0 ?m1 ?m2 ?m3 ?m4 ?m5
      (case aC0 => k_is); (case pg0 => k_is); (case hd0 => k_is); (case po0 => k_is); (case sa0 => k_is); (case mk0 => k_is); (case kc0 => k_is); (case n0_0 => k_is); (case n0_1 => k_is); (case a0 => k_is); (case l0 => k_is); (case c0 => k_is); (case k0 => k_is); (case a1 => k_is); (case l1 => k_is); (case c1 => k_is); (case k1 => k_is); (case a2 => k_is); (case l2 => k_is); (case c2 => k_is); (case k2 => k_is); (case a3 => k_is); (case l3 => k_is); (case c3 => k_is); (case k3 => k_is); (case a4 => k_is); (case l4 => k_is); (case c4 => k_is); (case k4 => k_is); (case a5 => k_is); (case l5 => k_is); (case c5 => k_is); (case k5 => k_is); (case a6 => k_is); (case l6 => k_is); (case c6 => k_is); (case k6 => k_is); (case a7 => k_is); (case l7 => k_is); (case c7 => k_is); (case k7 => k_is); (case a8 => k_is); (case l8 => k_is); (case c8 => k_is); (case k8 => k_is); (case a9 => k_is); (case l9 => k_is); (case c9 => k_is); (case k9 => k_is); (case a10 => k_is); (case l10 => k_is); (case c10 => k_is); (case k10 => k_is); (case a11 => k_is); (case l11 => k_is); (case c11 => k_is); (case k11 => k_is); (case a12 => k_is); (case l12 => k_is); (case c12 => k_is); (case k12 => k_is); (case a13 => k_is); (case l13 => k_is); (case c13 => k_is); (case k13 => k_is); (case a14 => k_is); (case l14 => k_is); (case c14 => k_is); (case k14 => k_is); (case a15 => k_is); (case i15 => k_is); (case l15 => k_is); (case c15 => k_is); (case k15 => k_is); (case a16 => k_is); (case l16 => k_is); (case c16 => k_is); (case k16 => k_is); (case a17 => k_is); (case i17 => k_is); (case l17 => k_is); (case c17 => k_is); (case k17 => k_is); (case a18 => k_is); (case l18 => k_is); (case c18 => k_is); (case k18 => k_is); (case a19 => k_is); (case i19 => k_is); (case l19 => k_is); (case c19 => k_is); (case k19 => k_is); (case a20 => k_is); (case l20 => k_is); (case c20 => k_is); (case k20 => k_is); (case a21 => k_is); (case i21 => k_is); (case l21 => k_is); (case c21 => k_is); (case k21 => k_is); (case a22 => k_is); (case l22 => k_is); (case c22 => k_is); (case k22 => k_is); (case a23 => k_is); (case l23 => k_is); (case c23 => k_is); (case k23 => k_is); (case a24 => k_is); (case l24 => k_is); (case c24 => k_is); (case k24 => k_is); (case a25 => k_is); (case l25 => k_is); (case c25 => k_is); (case k25 => k_is); (case a26 => k_is); (case l26 => k_is); (case c26 => k_is); (case k26 => k_is); (case a27 => k_is); (case l27 => k_is); (case c27 => k_is); (case k27 => k_is); (case a28 => k_is); (case l28 => k_is); (case c28 => k_is); (case k28 => k_is); (case a29 => k_is); (case l29 => k_is); (case c29 => k_is); (case k29 => k_is); (case a30 => k_is); (case l30 => k_is); (case c30 => k_is); (case k30 => k_is); (case a31 => k_is); (case l31 => k_is); (case c31 => k_is); (case k31 => k_is); (case a32 => k_is); (case l32 => k_is); (case c32 => k_is); (case k32 => k_is); (case a33 => k_is); (case l33 => k_is); (case c33 => k_is); (case k33 => k_is); (case a34 => k_is); (case l34 => k_is); (case c34 => k_is); (case k34 => k_is); (case a35 => k_is); (case l35 => k_is); (case c35 => k_is); (case k35 => k_is); (case a36 => k_is); (case l36 => k_is); (case c36 => k_is); (case k36 => k_is); (case a37 => k_is); (case l37 => k_is); (case c37 => k_is); (case k37 => k_is); (case z0 => k_is); (case z1 => k_is); (case z2 => k_is); (case z3 => k_is); (case z4 => k_is); (case z5 => k_is); (case z6 => k_is); (case z7 => k_is); (case z8 => k_is); (case z9 => k_is); (case z10 => k_is); (case z11 => k_is); (case z12 => k_is); (case z13 => k_is); (case z14 => k_is); (case z15 => k_is); (case z16 => k_is); (case z17 => k_is); (case m0 => k_is); (case m1 => k_is); (case m2 => k_is); (case m3 => k_is); (case m4 => k_is); (case m5 => k_is)
end
theorem DL.R1 : DL.Head.1 := by
  intro w os
  kernel_rfl
theorem PySem.Challenge.cw_royaltree_k11_whole_units_parted_holds : PySem.Challenge.rw_royaltree_k11_whole_units_parted.Holds := by
  exact DL.Head.2 DL.R1


