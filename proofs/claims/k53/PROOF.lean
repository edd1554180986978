import PyProof.Rows.All
import Wide.All
import OpenK.AllK
import Wide.FinOn
import HandS.Exc
import HandS.ExcOwn
import HandS.ExcValue
import HandS.WordsExc
import HandS.IsInst
import HandS.ExcIs
import HandS.ForMost
import HandS.Wide
import HandS.WideBits
import HandS.Lambda
import HandS.Zip
import HandS.Style
import HandS.TupAny
import HandS.List
import HandS.Text
import HandS.SetFor
import HandS.Dict
import HandS.SetKeys
import HandS.Small
import HandS.More
import KE.KLam
import KE.SortKeyHeap
import KE.SortData
import HandS.Iter
import KE.KNestM
import HandS.EndTab
import HandS.ListItems
import HandS.Deep
import KE.DatumOrd
import HandS.Strs
import KE.KDictPairs
import PyProof.FactsAll.dict_3
import HandS.Sort
import HandS.HeadHook2
import HandS.ExcInit
import KE.KExcIs
import HandS.ExcField
import HandS.RaiseMore
import PySem.Challenge.RW_royaltree_k53_refusals_stand_apart
import KE.KIntText
set_option Elab.async false
set_option linter.all false
set_option maxRecDepth 100000
namespace L2
open PySem PySem.Spec PyProof.Rows
def ExcAt (a : Addr) (cls : Value) (dx : Option Addr) : HO := .ext fun h => ∃ o, h.get? a = some o ∧ Zc cls dx o ∧ ∃ vs, o.data = .fields vs
theorem excAt_ok {P : Program} {w : World} {H : Hp} {h : Heap} {a : Addr} {cls : Value} {dx : Option Addr} {o : Obj} {vs : Array Value} (e : h.get? a = some o) (c : Zc cls dx o) (d : o.data = .fields vs) : ObjOk P w H h a (ExcAt a cls dx) :=
  ⟨⟨o, e, c, vs, d⟩, ⟨o, e⟩, fun _ _ ⟨q, e1, r⟩ k => ⟨q, k q e1, r⟩⟩
section
variable {X : Cx} {pins : List (Addr × Obj)} {σ σ' : St} {H H' : Hp} {s sI : Shared}
end
def wNote (K : PySem.W.Frag) (c : Value) (i : Nat) (ts : Addr → Value → Option Addr → TS) (Wout : WX) (D : Ends) : WX := fun cls d σ H =>
  ∃ b, PySem.W.exmOne K cls c = some b ∧ (b = true → ∀ a, H a = none → ts a cls d { nx := fun σ' H' => H' a = none → D.nx (σ'.set i none) (upd H' a (ExcAt a cls d)), rt := fun _ _ => False } (σ.set i (some (.ref a))) H) ∧ (b = false → Wout cls d σ H)
section
variable {X : Cx} {x n : Str} {c : Value} {i : Nat} {body suite : List Stmt} {b₀ : Stmt} {np pos pos' : Pos} {tb : WX → TS} {ts : Addr → Value → Option Addr → TS} {Wout : WX}
end
def rIsiE (K : PySem.W.Frag) : List V → Hp → VK → Prop := fun xs H Q => ∃ (a D : Addr) (c : V) (u : Value) (b : Bool), xs = [.ref a, c] ∧ ExcC K D ∧ H a = some (ExcAt a (.ref D) none) ∧ ClsV c u ∧ PySem.W.kitOne K (.ref D) u = some b ∧ Q (.bl b) H
def rIsiTE (K : PySem.W.Frag) : List V → Hp → VK → Prop := fun xs H Q => ∃ (a D tp : Addr) (cs : List V) (us : List Value) (b : Bool), xs = [.ref a, .ref tp] ∧ ExcC K D ∧ H a = some (ExcAt a (.ref D) none) ∧ SqT K H tp cs ∧ Paired ClsV cs us ∧ PySem.W.kitAny K (.ref D) us = some b ∧ Q (.bl b) H
section
variable {X : Cx} {pins : List (Addr × Obj)} {σ : St} {H : Hp} {s : Shared}
theorem excAt_inst (I : Inv X pins σ H s) {a D : Addr} (h : H a = some (ExcAt a (.ref D) none)) : ∃ oe, PySem.W.InstAt s.heap a oe D none := by
  obtain ⟨⟨oc, od, oda, osl⟩, e, ⟨z1, z2⟩, vs, v⟩ := (I.hok a _ h).1
  dsimp only at z1 z2 v
  subst z1 z2 v
  exact ⟨_, e, rfl, rfl, trivial⟩
theorem call_isiE : CallR X (.builtin "isinstance") (rIsiE X.K) := by
  intro pins s σ H xs us Q I r h
  obtain ⟨a, D, c, u, b, rfl, C, hH, k, e, q⟩ := h
  obtain ⟨u1, u2, rfl, r1, r2⟩ := vals2 r
  cases (show u1 = Value.ref a from r1)
  have e2 := k.eq r2
  subst e2
  obtain ⟨oe, J⟩ := excAt_inst I hH
  exact PySem.W.kia_one (PySem.W.handS_kitx_exc C.hg C.hk C.hs C.hd C.ha C.hn C.ht C.hm) I.kIn J e (fun z => nomatch z) fun tk => ⟨.bl b, H, I.tok tk, rfl, q⟩
end
end L2

namespace DL
open PySem PySem.Spec PyProof.Rows L2

inductive D where
  | non | bl (b : Bool) | int (i : Int) | str (x : Str)
  | lst (xs : List D) | tup (xs : List D)
  | rf (i : Nat) | st | ob (v : V) | scr (ns : List Int)

inductive Cell where
  | dead | lst (xs : List D) | dk (kvs : List (Key × D)) | ins (C : Addr) (fs : List (Str × D))
  /-- a caught exception of the class at C, without fields -/
  | exc (C : Addr)
  /-- a caught exception of the class at C, with fields -/
  | exf (C : Addr) (fs : List (Str × D))
  /-- the table at P of code objects of the name q -/
  | tbl (P : Addr) (q : Str)
  /-- a dict that is walked -/
  | lk (o : Obj) (ks : List (Key × V)) (kvs : List (Key × D))

structure Wd where
  M : List Cell
  n : Option Nat

structure Gh where
  al : List Addr
  st : Option (Addr × Addr)
  fr : List (Addr × HO)

def isOb : V → Bool
  | .ty _ => true
  | .ref _ => true
  | _ => false

mutual
inductive Rep (K : PySem.W.Frag) (G : Gh) (S : Hp) : V → D → Prop
  | non : Rep K G S .non .non
  | bl (b : Bool) : Rep K G S (.bl b) (.bl b)
  | int (i : Int) : Rep K G S (.int i) (.int i)
  | str (x : Str) : Rep K G S (.str x) (.str x)
  | lst {a : Addr} {xs : List V} {ds : List D} : S a = some (.lst xs) → RepAll K G S xs ds → Rep K G S (.ref a) (.lst ds)
  | tup {a : Addr} {xs : List V} {ds : List D} : SqT K S a xs → RepAll K G S xs ds → Rep K G S (.ref a) (.tup ds)
  | rf {a : Addr} {i : Nat} : G.al[i]? = some a → Rep K G S (.ref a) (.rf i)
  | st {a c : Addr} : G.st = some (a, c) → Rep K G S (.ref a) .st
  | ob {v : V} : isOb v = true → Rep K G S v (.ob v)
  | scr {a : Addr} {ns : List Int} : SqL K S a (ns.map V.int) → Rep K G S (.ref a) (.scr ns)
inductive RepAll (K : PySem.W.Frag) (G : Gh) (S : Hp) : List V → List D → Prop
  | nil : RepAll K G S [] []
  | cons {v : V} {vs : List V} {d : D} {ds : List D} : Rep K G S v d → RepAll K G S vs ds → RepAll K G S (v :: vs) (d :: ds)
end

theorem sqT_up {K : PySem.W.Frag} {H H' : Hp} (e : ∀ b o, H b = some o → H' b = some o) {a : Addr} {xs : List V} (h : SqT K H a xs) : SqT K H' a xs := by
  unfold SqT at h ⊢
  rcases h with (h | ⟨o, h⟩) | h
  · exact .inl (.inl (e _ _ h))
  · exact .inl (.inr ⟨o, e _ _ h⟩)
  · exact .inr h
structure Ext (G : Gh) (S : Hp) (G' : Gh) (S' : Hp) : Prop where
  al : ∃ r, G'.al = G.al ++ r
  st : ∀ p, G.st = some p → G'.st = some p
  fr : ∀ p ∈ G.fr, p ∈ G'.fr
  same : Same S S'
theorem Ext.refl (G : Gh) (S : Hp) : Ext G S G S := ⟨⟨[], by simp⟩, fun _ h => h, fun _ h => h, Same.refl S⟩
theorem Ext.trans {G G1 G2 : Gh} {S S1 S2 : Hp} (a : Ext G S G1 S1) (b : Ext G1 S1 G2 S2) : Ext G S G2 S2 := by
  obtain ⟨r1, e1⟩ := a.al
  obtain ⟨r2, e2⟩ := b.al
  exact ⟨⟨r1 ++ r2, by rw [e2, e1, List.append_assoc]⟩, fun p h => b.st p (a.st p h), fun p h => b.fr p (a.fr p h), a.same.trans b.same⟩
theorem Ext.alGet {G G' : Gh} {S S' : Hp} (x : Ext G S G' S') {i : Nat} {a : Addr} (h : G.al[i]? = some a) : G'.al[i]? = some a := by
  obtain ⟨r, e⟩ := x.al
  rw [e, List.getElem?_append_left (List.getElem?_eq_some_iff.mp h).1]
  exact h

section
variable {K : PySem.W.Frag} {G G' : Gh} {S S' : Hp}
mutual
theorem Rep.mono (x : Ext G S G' S') : ∀ {v : V} {d : D}, Rep K G S v d → Rep K G' S' v d
  | _, _, .non => .non
  | _, _, .bl b => .bl b
  | _, _, .int i => .int i
  | _, _, .str i => .str i
  | _, _, .lst h r => .lst (x.same _ _ h) (RepAll.mono x r)
  | _, _, .tup h r => .tup (sqT_up x.same h) (RepAll.mono x r)
  | _, _, .rf h => .rf (x.alGet h)
  | _, _, .st h => .st (x.st _ h)
  | _, _, .ob h => .ob h
  | _, _, .scr h => .scr (x.same.seq h)
theorem RepAll.mono (x : Ext G S G' S') : ∀ {v : List V} {d : List D}, RepAll K G S v d → RepAll K G' S' v d
  | _, _, .nil => .nil
  | _, _, .cons h r => .cons (Rep.mono x h) (RepAll.mono x r)
end
theorem RepAll.length : ∀ {vs : List V} {ds : List D}, RepAll K G S vs ds → vs.length = ds.length
  | _, _, .nil => rfl
  | _, _, .cons _ r => congrArg (· + 1) (RepAll.length r)
theorem RepAll.get : ∀ {vs : List V} {ds : List D} {i : Nat} {d : D}, RepAll K G S vs ds → ds[i]? = some d → ∃ v, vs[i]? = some v ∧ Rep K G S v d
  | _, _, _, _, .nil, h => by simp at h
  | _, _, 0, _, .cons h _, e => by
    simp at e
    subst e
    exact ⟨_, rfl, h⟩
  | _, _, i + 1, d, .cons _ r, e => by
    obtain ⟨v, h1, h2⟩ := RepAll.get (i := i) (d := d) r (by simpa using e)
    exact ⟨v, by simpa using h1, h2⟩
theorem RepAll.append : ∀ {vs ws : List V} {ds es : List D}, RepAll K G S vs ds → RepAll K G S ws es → RepAll K G S (vs ++ ws) (ds ++ es)
  | _, _, _, _, .nil, h => h
  | _, _, _, _, .cons h r, q => .cons h (RepAll.append r q)
theorem RepAll.set {v : V} {d : D} (h : Rep K G S v d) : ∀ {vs : List V} {ds : List D} (i : Nat), RepAll K G S vs ds → RepAll K G S (vs.set i v) (ds.set i d)
  | _, _, _, .nil => .nil
  | _, _, 0, .cons _ r => .cons h r
  | _, _, i + 1, .cons q r => .cons q (RepAll.set h i r)
theorem RepAll.drop : ∀ {vs : List V} {ds : List D} (i : Nat), RepAll K G S vs ds → RepAll K G S (vs.drop i) (ds.drop i)
  | _, _, 0, h => h
  | _, _, _ + 1, .nil => .nil
  | _, _, i + 1, .cons _ r => RepAll.drop i r
theorem RepAll.take : ∀ {vs : List V} {ds : List D} (i : Nat), RepAll K G S vs ds → RepAll K G S (vs.take i) (ds.take i)
  | _, _, 0, _ => .nil
  | _, _, _ + 1, .nil => .nil
  | _, _, i + 1, .cons h r => .cons h (RepAll.take i r)
theorem RepAll.eraseIdx : ∀ {vs : List V} {ds : List D} (i : Nat), RepAll K G S vs ds → RepAll K G S (vs.eraseIdx i) (ds.eraseIdx i)
  | _, _, _, .nil => .nil
  | _, _, 0, .cons _ r => r
  | _, _, i + 1, .cons h r => .cons h (RepAll.eraseIdx i r)
theorem RepAll.reverse {vs : List V} {ds : List D} (h : RepAll K G S vs ds) : RepAll K G S vs.reverse ds.reverse := by
  induction h using RepAll.rec (motive_1 := fun _ _ _ => True) with
  | nil => exact .nil
  | cons h r _ ih =>
    rw [List.reverse_cons, List.reverse_cons]
    exact RepAll.append ih (.cons h .nil)
  | _ => trivial
end

section
variable {K : PySem.W.Frag} {S : Hp} {al : List Addr} {st : Option (Addr × Addr)} {f f' : List (Addr × HO)}
mutual
theorem Rep.refr : ∀ {v : V} {d : D}, Rep K ⟨al, st, f⟩ S v d → Rep K ⟨al, st, f'⟩ S v d
  | _, _, .non => .non
  | _, _, .bl b => .bl b
  | _, _, .int i => .int i
  | _, _, .str i => .str i
  | _, _, .lst h r => .lst h (RepAll.refr r)
  | _, _, .tup h r => .tup h (RepAll.refr r)
  | _, _, .rf h => .rf h
  | _, _, .st h => .st h
  | _, _, .ob h => .ob h
  | _, _, .scr h => .scr h
theorem RepAll.refr : ∀ {v : List V} {d : List D}, RepAll K ⟨al, st, f⟩ S v d → RepAll K ⟨al, st, f'⟩ S v d
  | _, _, .nil => .nil
  | _, _, .cons h r => .cons (Rep.refr h) (RepAll.refr r)
end
end

def FsRep (K : PySem.W.Frag) (G : Gh) (S : Hp) {κ : Type} : List (κ × V) → List (κ × D) → Prop := Paired fun p q => p.1 = q.1 ∧ Rep K G S p.2 q.2
def CellOk (K : PySem.W.Frag) (G : Gh) (S H : Hp) (a : Addr) : Cell → Prop
  | .dead => H a ≠ none
  | .lst ds => S a = none ∧ ∃ xs, H a = some (.lst xs) ∧ RepAll K G S xs ds
  | .dk kvs => S a = none ∧ ∃ ks, H a = some (.dK ks) ∧ FsRep K G S ks kvs
  | .ins C fs => S a = none ∧ ∃ dx gs, H a = some (.ins C dx gs) ∧ FsRep K G S gs fs
  | .exc C => S a = none ∧ H a = some (ExcAt a (.ref C) none)
  | .exf C fs => S a = none ∧ ∃ dx gs, H a = some (ExcAt a (.ref C) (some dx)) ∧ S dx = some (.xd gs) ∧ FsRep K G S gs fs
  | .tbl P q => a = P ∧ S a = none ∧ ∃ ps : Array Value, H a = some (.tbl ps) ∧ TriplesOk ps.toList ∧ ∀ (pos : Pos) (cv : Value), codeAmong pos ps.toList = some cv → ∃ c, cv = .ref c ∧ S c = some (LamX.CodeO c q)
  | .lk o ks kvs => S a = none ∧ H a = some (.frz o (.dK ks)) ∧ FsRep K G S ks kvs
theorem CellOk.some {K : PySem.W.Frag} {G : Gh} {S H : Hp} {a : Addr} {c : Cell} (h : CellOk K G S H a c) : H a ≠ none := by
  cases c with
  | dead => exact h
  | lst ds => obtain ⟨_, xs, e, _⟩ := h; rw [e]; exact fun z => nomatch z
  | dk ds => obtain ⟨_, xs, e, _⟩ := h; rw [e]; exact fun z => nomatch z
  | ins C ds => obtain ⟨_, xs, _, e, _⟩ := h; rw [e]; exact fun z => nomatch z
  | exc C => rw [h.2]; exact fun z => nomatch z
  | exf C fs => obtain ⟨_, dx, gs, e, _⟩ := h; rw [e]; exact fun z => nomatch z
  | tbl P q => obtain ⟨_, _, ps, e, _⟩ := h; rw [e]; exact fun z => nomatch z
  | lk o ks kvs => rw [h.2.1]; exact fun z => nomatch z

def StOk (G : Gh) (S : Hp) (n : Option Nat) (H : Hp) : Prop := (n = none → G.st = none) ∧ ∀ a c, G.st = some (a, c) → S a = none ∧ S c = none ∧ a ≠ c ∧ a ∉ G.al ∧ c ∉ G.al ∧ (∀ p ∈ G.fr, p.1 ≠ a ∧ p.1 ≠ c) ∧
  ∃ (cells : List Int) (turn : Int), H a = some (.dK [(.inr "cells", .ref c), (.inr "turn", .int turn)]) ∧ H c = some (.lst (cells.map V.int)) ∧ cells ≠ [] ∧ cells.length ≤ 63 ∧ 0 ≤ turn ∧ turn + (n.getD 0 : Nat) ≤ 1000000000

structure HR (K : PySem.W.Frag) (G : Gh) (S : Hp) (w : Wd) (H : Hp) : Prop where
  same : Same S H
  len : G.al.length = w.M.length
  nod : G.al.Nodup
  cell : ∀ (i : Nat) (a : Addr) (c : Cell), G.al[i]? = some a → w.M[i]? = some c → CellOk K G S H a c
  st : StOk G S w.n H
  fr : ∀ p ∈ G.fr, S p.1 = none ∧ p.1 ∉ G.al ∧ H p.1 = some p.2

end DL

namespace DL
open PySem PySem.Spec PyProof.Rows L2
section
variable {K : PySem.W.Frag} {G G' : Gh} {S S' H : Hp} {w : Wd}

theorem HR.alSome (h : HR K G S w H) {a : Addr} (ha : a ∈ G.al) : H a ≠ none := by
  obtain ⟨i, hi⟩ := List.getElem?_of_mem ha
  have l : i < w.M.length := by
    rw [← h.len]
    exact (List.getElem?_eq_some_iff.mp hi).1
  exact (h.cell i a _ hi (List.getElem?_eq_getElem l)).some
theorem HR.freshAl (h : HR K G S w H) {p : Addr} (hp : H p = none) : p ∉ G.al := fun z => h.alSome z hp
theorem HR.freshS (h : HR K G S w H) {p : Addr} (hp : H p = none) : S p = none := h.same.free hp
theorem HR.freshSt (h : HR K G S w H) {p : Addr} (hp : H p = none) {a c : Addr} (e : G.st = some (a, c)) : p ≠ a ∧ p ≠ c := by
  obtain ⟨_, _, _, _, _, _, cells, turn, h1, h2, _⟩ := h.st.2 a c e
  exact ⟨fun z => (by rw [← z, hp] at h1; cases h1), fun z => (by rw [← z, hp] at h2; cases h2)⟩
theorem HR.freshFr (h : HR K G S w H) {p : Addr} (hp : H p = none) : ∀ q ∈ G.fr, q.1 ≠ p := fun q hq z => by
  have e := (h.fr q hq).2.2
  rw [z, hp] at e
  cases e
theorem CellOk.mono {a : Addr} {c : Cell} {H H' : Hp} (x : Ext G S G' S') (h : CellOk K G S H a c) (e : H' a = H a) (n : S' a = none ∨ c = .dead) : CellOk K G' S' H' a c := by
  cases c with
  | dead =>
    show H' a ≠ none
    rw [e]
    exact h
  | exc C => exact ⟨n.elim id (fun z => nomatch z), by rw [e]; exact h.2⟩
  | exf C fs =>
    obtain ⟨_, dx, gs, h1, h2, r⟩ := h
    exact ⟨n.elim id (fun z => nomatch z), dx, gs, by rw [e]; exact h1, x.same _ _ h2, Paired.mapP r fun p q z => ⟨z.1, z.2.mono x⟩⟩
  | tbl P q =>
    obtain ⟨e0, _, ps, e1, e2, e3⟩ := h
    refine ⟨e0, n.elim id (fun z => nomatch z), ps, by rw [e]; exact e1, e2, fun pos cv hc => ?_⟩
    obtain ⟨c, r1, r2⟩ := e3 pos cv hc
    exact ⟨c, r1, x.same _ _ r2⟩
  | lk o ks kvs =>
    obtain ⟨_, e1, r⟩ := h
    exact ⟨n.elim id (fun z => nomatch z), by rw [e]; exact e1, Paired.mapP r fun p q z => ⟨z.1, z.2.mono x⟩⟩
  | lst ds =>
    obtain ⟨_, xs, e1, r⟩ := h
    exact ⟨n.elim id (fun z => nomatch z), xs, by rw [e]; exact e1, r.mono x⟩
  | dk ds =>
    obtain ⟨_, xs, e1, r⟩ := h
    exact ⟨n.elim id (fun z => nomatch z), xs, by rw [e]; exact e1, Paired.mapP r fun p q z => ⟨z.1, z.2.mono x⟩⟩
  | ins C ds =>
    obtain ⟨_, dx, xs, e1, r⟩ := h
    exact ⟨n.elim id (fun z => nomatch z), dx, xs, by rw [e]; exact e1, Paired.mapP r fun p q z => ⟨z.1, z.2.mono x⟩⟩
theorem CellOk.sNone {a : Addr} {c : Cell} {H : Hp} (h : CellOk K G S H a c) : S a = none ∨ c = .dead := by
  cases c with
  | dead => exact .inr rfl
  | exc C => exact .inl h.1
  | exf C fs => exact .inl h.1
  | tbl P q => exact .inl h.2.1
  | lk o ks kvs => exact .inl h.1
  | lst ds => exact .inl h.1
  | dk ds => exact .inl h.1
  | ins C ds => exact .inl h.1

theorem HR.newS (h : HR K G S w H) {p : Addr} (hp : H p = none) (o : HO) : HR K G (upd S p o) w (upd H p o) ∧ Ext G S G (upd S p o) := by
  have sp := h.freshS hp
  have x : Ext G S G (upd S p o) := ⟨⟨[], by simp⟩, fun _ z => z, fun _ z => z, fun b u e => by rw [upd_ne (ne_of_none e sp)]; exact e⟩
  refine ⟨⟨fun b u e => ?_, h.len, h.nod, fun i a c e1 e2 => ?_, ⟨h.st.1, fun a c e => ?_⟩, fun q hq => ?_⟩, x⟩
  · by_cases hb : b = p
    · subst hb
      rw [upd_same] at e ⊢
      exact e
    · rw [upd_ne hb] at e ⊢
      exact h.same _ _ e
  · have ne : a ≠ p := fun z => h.freshAl hp (z ▸ List.mem_of_getElem? e1)
    have q := h.cell i a c e1 e2
    exact q.mono x (upd_ne ne) (by rw [upd_ne ne]; exact q.sNone)
  · obtain ⟨n1, n2⟩ := h.freshSt hp e
    obtain ⟨z1, z2, z3, z4, z5, z6, cells, turn, z7, z8, z9⟩ := h.st.2 a c e
    exact ⟨by rw [upd_ne n1.symm]; exact z1, by rw [upd_ne n2.symm]; exact z2, z3, z4, z5, z6, cells, turn, by rw [upd_ne n1.symm]; exact z7, by rw [upd_ne n2.symm]; exact z8, z9⟩
  · obtain ⟨z1, z2, z3⟩ := h.fr q hq
    have ne := h.freshFr hp q hq
    exact ⟨by rw [upd_ne ne]; exact z1, z2, by rw [upd_ne ne]; exact z3⟩

theorem HR.newC (h : HR K G S w H) {p : Addr} (hp : H p = none) (o : HO) (c : Cell) (hc : CellOk K ⟨G.al ++ [p], G.st, G.fr⟩ S (upd H p o) p c) :
    HR K ⟨G.al ++ [p], G.st, G.fr⟩ S ⟨w.M ++ [c], w.n⟩ (upd H p o) ∧ Ext G S ⟨G.al ++ [p], G.st, G.fr⟩ S := by
  have sp := h.freshS hp
  have x : Ext G S ⟨G.al ++ [p], G.st, G.fr⟩ S := ⟨⟨[p], rfl⟩, fun _ z => z, fun _ z => z, Same.refl S⟩
  refine ⟨⟨fun b u e => ?_, by simp [h.len], ?_, fun i a c' e1 e2 => ?_, ⟨h.st.1, fun a c' e => ?_⟩, fun q hq => ?_⟩, x⟩
  · rw [upd_ne (ne_of_none e sp)]
    exact h.same _ _ e
  · show (G.al ++ [p]).Nodup
    rw [List.nodup_append]
    refine ⟨h.nod, by simp, fun a ha b hb z => ?_⟩
    rw [List.mem_singleton] at hb
    exact h.freshAl hp (by rw [← hb, ← z]; exact ha)
  · have e1 : (G.al ++ [p])[i]? = some a := e1
    have e2 : (w.M ++ [c])[i]? = some c' := e2
    by_cases hi : i < G.al.length
    · rw [List.getElem?_append_left hi] at e1
      rw [List.getElem?_append_left (by rw [← h.len]; exact hi)] at e2
      have ne : a ≠ p := fun z => h.freshAl hp (z ▸ List.mem_of_getElem? e1)
      have q := h.cell i a c' e1 e2
      exact q.mono x (upd_ne ne) q.sNone
    · have hi2 : G.al.length ≤ i := Nat.le_of_not_lt hi
      rw [List.getElem?_append_right hi2] at e1
      rw [List.getElem?_append_right (by rw [← h.len]; exact hi2), ← h.len] at e2
      have l := (List.getElem?_eq_some_iff.mp e1).1
      have l0 : i - G.al.length = 0 := by
        rw [List.length_singleton] at l
        omega
      rw [l0] at e1 e2
      have e1' : p = a := by simpa using e1
      have e2' : c = c' := by simpa using e2
      subst e1'
      subst e2'
      exact hc
  · obtain ⟨n1, n2⟩ := h.freshSt hp e
    obtain ⟨z1, z2, z3, z4, z5, z6, cells, turn, z7, z8, z9⟩ := h.st.2 a c' e
    refine ⟨z1, z2, z3, fun hm => ?_, fun hm => ?_, z6, cells, turn, by rw [upd_ne n1.symm]; exact z7, by rw [upd_ne n2.symm]; exact z8, z9⟩
    · rcases List.mem_append.mp hm with hm | hm
      · exact z4 hm
      · exact n1 (List.mem_singleton.mp hm).symm
    · rcases List.mem_append.mp hm with hm | hm
      · exact z5 hm
      · exact n2 (List.mem_singleton.mp hm).symm
  · obtain ⟨z1, z2, z3⟩ := h.fr q hq
    have ne := h.freshFr hp q hq
    refine ⟨z1, fun hm => ?_, by rw [upd_ne ne]; exact z3⟩
    rcases List.mem_append.mp hm with hm | hm
    · exact z2 hm
    · exact ne (List.mem_singleton.mp hm)

theorem HR.setC (h : HR K G S w H) {i : Nat} {a : Addr} {c0 c : Cell} {o : HO} (e1 : G.al[i]? = some a) (e2 : w.M[i]? = some c0) (hs : S a = none) (hc : CellOk K G S (upd H a o) a c) : HR K G S ⟨w.M.set i c, w.n⟩ (upd H a o) := by
  have il : i < w.M.length := (List.getElem?_eq_some_iff.mp e2).1
  refine ⟨fun b u e => ?_, by simp [h.len], h.nod, fun j b c' f1 f2 => ?_, ⟨h.st.1, fun b c' e => ?_⟩, fun q hq => ?_⟩
  · rw [upd_ne (ne_of_none e hs)]
    exact h.same _ _ e
  · have f2 : (w.M.set i c)[j]? = some c' := f2
    by_cases hj : j = i
    · subst hj
      rw [List.getElem?_set_self il] at f2
      cases f2
      rw [e1] at f1
      cases f1
      exact hc
    · rw [List.getElem?_set_ne (Ne.symm hj)] at f2
      have ne : b ≠ a := fun z => by
        subst z
        exact hj ((List.getElem?_inj (List.getElem?_eq_some_iff.mp f1).1 h.nod).mp (f1.trans e1.symm))
      have q := h.cell j b c' f1 f2
      exact q.mono (Ext.refl _ _) (upd_ne ne) q.sNone
  · obtain ⟨z1, z2, z3, z4, z5, z6, cells, turn, z7, z8, z9⟩ := h.st.2 b c' e
    have n1 : b ≠ a := fun z => z4 (z ▸ List.mem_of_getElem? e1)
    have n2 : c' ≠ a := fun z => z5 (z ▸ List.mem_of_getElem? e1)
    exact ⟨z1, z2, z3, z4, z5, z6, cells, turn, by rw [upd_ne n1]; exact z7, by rw [upd_ne n2]; exact z8, z9⟩
  · obtain ⟨z1, z2, z3⟩ := h.fr q hq
    have ne : q.1 ≠ a := fun z => z2 (z ▸ List.mem_of_getElem? e1)
    exact ⟨z1, z2, by rw [upd_ne ne]; exact z3⟩

theorem HR.push (h : HR K G S w H) {p : Addr} {o : HO} (hp : H p = none) : HR K ⟨G.al, G.st, (p, o) :: G.fr⟩ S w (upd H p o) ∧ Ext G S ⟨G.al, G.st, (p, o) :: G.fr⟩ S := by
  have sp := h.freshS hp
  have x : Ext G S ⟨G.al, G.st, (p, o) :: G.fr⟩ S := ⟨⟨[], by simp⟩, fun _ z => z, fun _ z => List.mem_cons_of_mem _ z, Same.refl S⟩
  refine ⟨⟨fun b u e => ?_, h.len, h.nod, fun i a c e1 e2 => ?_, ⟨h.st.1, fun a c e => ?_⟩, fun q hq => ?_⟩, x⟩
  · rw [upd_ne (ne_of_none e sp)]
    exact h.same _ _ e
  · have ne : a ≠ p := fun z => h.freshAl hp (z ▸ List.mem_of_getElem? e1)
    have q := h.cell i a c e1 e2
    exact q.mono x (upd_ne ne) q.sNone
  · obtain ⟨n1, n2⟩ := h.freshSt hp e
    obtain ⟨z1, z2, z3, z4, z5, z6, cells, turn, z7, z8, z9⟩ := h.st.2 a c e
    refine ⟨z1, z2, z3, z4, z5, fun q hq => ?_, cells, turn, by rw [upd_ne n1.symm]; exact z7, by rw [upd_ne n2.symm]; exact z8, z9⟩
    rcases List.mem_cons.mp hq with rfl | hq
    · exact ⟨n1, n2⟩
    · exact z6 q hq
  · rcases List.mem_cons.mp hq with rfl | hq
    · exact ⟨sp, h.freshAl hp, upd_same⟩
    · obtain ⟨z1, z2, z3⟩ := h.fr q hq
      have ne := h.freshFr hp q hq
      exact ⟨z1, z2, by rw [upd_ne ne]; exact z3⟩
theorem HR.poke (h : HR K G S w H) {p : Addr} {o o' : HO} {fr : List (Addr × HO)} (hp : (p, o) ∈ G.fr) (hf : ∀ q ∈ fr, q ∈ G.fr ∧ q.1 ≠ p) : HR K ⟨G.al, G.st, (p, o') :: fr⟩ S w (upd H p o') := by
  obtain ⟨y1, y2, y3⟩ := h.fr _ hp
  refine ⟨fun b u e => ?_, h.len, h.nod, fun i a c e1 e2 => ?_, ⟨h.st.1, fun a c e => ?_⟩, fun q hq => ?_⟩
  · rw [upd_ne (ne_of_none e y1)]
    exact h.same _ _ e
  · have ne : a ≠ p := fun z => y2 (z ▸ List.mem_of_getElem? e1)
    have q := h.cell i a c e1 e2
    have x : Ext G S ⟨G.al, G.st, G.fr⟩ S := Ext.refl _ _
    have x2 : Ext G S G S := Ext.refl _ _
    have q2 := q.mono x2 (upd_ne (o := o') ne) q.sNone
    cases c with
    | dead => exact q2
    | exc C => exact q2
    | exf C fs =>
      obtain ⟨n0, dx, gs, e3, e4, r⟩ := q2
      exact ⟨n0, dx, gs, e3, e4, Paired.mapP r fun p q z => ⟨z.1, Rep.refr z.2⟩⟩
    | tbl P q => exact q2
    | lk o ks kvs =>
      obtain ⟨n0, e3, r⟩ := q2
      exact ⟨n0, e3, Paired.mapP r fun p q z => ⟨z.1, Rep.refr z.2⟩⟩
    | lst ds =>
      obtain ⟨n0, xs, e3, r⟩ := q2
      exact ⟨n0, xs, e3, RepAll.refr r⟩
    | dk ds =>
      obtain ⟨n0, xs, e3, r⟩ := q2
      exact ⟨n0, xs, e3, Paired.mapP r fun p q z => ⟨z.1, Rep.refr z.2⟩⟩
    | ins C ds =>
      obtain ⟨n0, dx, xs, e3, r⟩ := q2
      exact ⟨n0, dx, xs, e3, Paired.mapP r fun p q z => ⟨z.1, Rep.refr z.2⟩⟩
  · obtain ⟨z1, z2, z3, z4, z5, z6, cells, turn, z7, z8, z9⟩ := h.st.2 a c e
    obtain ⟨n1, n2⟩ := z6 _ hp
    refine ⟨z1, z2, z3, z4, z5, fun q hq => ?_, cells, turn, by rw [upd_ne (Ne.symm n1)]; exact z7, by rw [upd_ne (Ne.symm n2)]; exact z8, z9⟩
    rcases List.mem_cons.mp hq with rfl | hq
    · exact ⟨n1, n2⟩
    · exact z6 q (hf q hq).1
  · rcases List.mem_cons.mp hq with rfl | hq
    · exact ⟨y1, y2, upd_same⟩
    · obtain ⟨z1, z2, z3⟩ := h.fr q (hf q hq).1
      exact ⟨z1, z2, by rw [upd_ne (hf q hq).2]; exact z3⟩
end
end DL

namespace DL
open PySem PySem.Spec PyProof.Rows L2

inductive Exn where
  | own (C : Addr)
  | flds (C : Addr) (fs : List (Str × D))
def ExRep (K : PySem.W.Frag) (G : Gh) (S H : Hp) (cls : Value) (d : Option Addr) : Exn → Prop
  | .own C => cls = .ref C ∧ d = none
  | .flds C fs => cls = .ref C ∧ ∃ a gs, d = some a ∧ S a = some (.xd gs) ∧ FsRep K G S gs fs
abbrev KD := D → Wd → Prop
abbrev KX := Exn → Wd → Prop
abbrev KB := Bool → Wd → Prop
abbrev KA := List D → Wd → Prop
abbrev Rho := List (Option D)
abbrev GE := Rho → Wd → KX → KD → Prop
abbrev GT := Rho → Wd → KX → KB → Prop
abbrev GA := Rho → Wd → KX → KA → Prop
structure DEnds where
  nx : Rho → Wd → Prop
  rt : KD
  ex : KX
  bk : Rho → Wd → Prop := fun _ _ => False
  ct : Rho → Wd → Prop := fun _ _ => False
abbrev GS := DEnds → Rho → Wd → Prop

section
variable (K : PySem.W.Frag) (G : Gh) (S : Hp)
def SR (σ : L2.St) (ρ : Rho) : Prop := σ.length = ρ.length ∧ ∀ (i : Nat) (d : D), ρ[i]? = some (some d) → ∃ v, σ[i]? = some (some v) ∧ Rep K G S v d
def XL (kx : KX) (E : XK) : Prop := ∀ G' S' H' w' e cls d, Ext G S G' S' → HR K G' S' w' H' → ExRep K G' S' H' cls d e → kx e w' → E cls d H'
def KL (k : KD) (Q : VK) : Prop := ∀ G' S' H' w' d v, Ext G S G' S' → HR K G' S' w' H' → Rep K G' S' v d → k d w' → Q v H'
def BL (k : KB) (Q : Bool → Hp → Prop) : Prop := ∀ G' S' H' w' b, Ext G S G' S' → HR K G' S' w' H' → k b w' → Q b H'
def AL (k : KA) (Q : List V → Hp → Prop) : Prop := ∀ G' S' H' w' ds vs, Ext G S G' S' → HR K G' S' w' H' → RepAll K G' S' vs ds → k ds w' → Q vs H'
def NL (k : Rho → Wd → Prop) (Q : L2.St → Hp → Prop) : Prop := ∀ G' S' H' w' ρ' σ', Ext G S G' S' → HR K G' S' w' H' → SR K G' S' σ' ρ' → k ρ' w' → Q σ' H'
end
section
variable {K : PySem.W.Frag} {G G' : Gh} {S S' : Hp}
theorem SR.mono {σ : L2.St} {ρ : Rho} (x : Ext G S G' S') (h : SR K G S σ ρ) : SR K G' S' σ ρ := ⟨h.1, fun i d e => let ⟨v, h1, h2⟩ := h.2 i d e; ⟨v, h1, h2.mono x⟩⟩
theorem XL.mono {kx : KX} {E : XK} (x : Ext G S G' S') (h : XL K G S kx E) : XL K G' S' kx E := fun G1 S1 H1 w1 e c d x1 => h G1 S1 H1 w1 e c d (x.trans x1)
theorem KL.mono {k : KD} {Q : VK} (x : Ext G S G' S') (h : KL K G S k Q) : KL K G' S' k Q := fun G1 S1 H1 w1 d v x1 => h G1 S1 H1 w1 d v (x.trans x1)
theorem BL.mono {k : KB} {Q : Bool → Hp → Prop} (x : Ext G S G' S') (h : BL K G S k Q) : BL K G' S' k Q := fun G1 S1 H1 w1 d x1 => h G1 S1 H1 w1 d (x.trans x1)
theorem AL.mono {k : KA} {Q : List V → Hp → Prop} (x : Ext G S G' S') (h : AL K G S k Q) : AL K G' S' k Q := fun G1 S1 H1 w1 d v x1 => h G1 S1 H1 w1 d v (x.trans x1)
theorem NL.mono {k : Rho → Wd → Prop} {Q : L2.St → Hp → Prop} (x : Ext G S G' S') (h : NL K G S k Q) : NL K G' S' k Q := fun G1 S1 H1 w1 d v x1 => h G1 S1 H1 w1 d v (x.trans x1)
theorem SR.set {σ : L2.St} {ρ : Rho} {v : V} {d : D} (h : SR K G S σ ρ) (r : Rep K G S v d) (i : Nat) : SR K G S (σ.set i (some v)) (ρ.set i (some d)) := by
  refine ⟨by simp [h.1], fun j e hj => ?_⟩
  by_cases hi : j = i
  · subst hi
    have hl : j < ρ.length := by
      have := (List.getElem?_eq_some_iff.mp hj).1
      simpa using this
    rw [List.getElem?_set_self hl] at hj
    cases hj
    exact ⟨v, List.getElem?_set_self (by rw [h.1]; exact hl), r⟩
  · rw [List.getElem?_set_ne (Ne.symm hi)] at hj
    obtain ⟨u, h1, h2⟩ := h.2 j e hj
    exact ⟨u, by rw [List.getElem?_set_ne (Ne.symm hi)]; exact h1, h2⟩
end

def upE (K : PySem.W.Frag) (E : XK) (g : GE) : TE := fun σ H Q => ∃ G S ρ w kx k, HR K G S w H ∧ SR K G S σ ρ ∧ XL K G S kx E ∧ KL K G S k Q ∧ g ρ w kx k
def upT (K : PySem.W.Frag) (E : XK) (g : GT) : TT := fun σ H Q => ∃ G S ρ w kx k, HR K G S w H ∧ SR K G S σ ρ ∧ XL K G S kx E ∧ BL K G S k Q ∧ g ρ w kx k
def upA (K : PySem.W.Frag) (E : XK) (g : GA) : TA := fun σ H Q => ∃ G S ρ w kx k, HR K G S w H ∧ SR K G S σ ρ ∧ XL K G S kx E ∧ AL K G S k Q ∧ g ρ w kx k
structure EL (K : PySem.W.Frag) (G : Gh) (S : Hp) (E : XK) (F : DEnds) (D : Ends) : Prop where
  nx : NL K G S F.nx D.nx
  rt : KL K G S F.rt D.rt
  bk : NL K G S F.bk D.bk
  ct : NL K G S F.ct D.ct
  ex : XL K G S F.ex E
theorem EL.mono {K : PySem.W.Frag} {G G' : Gh} {S S' : Hp} {E : XK} {F : DEnds} {D : Ends} (x : Ext G S G' S') (h : EL K G S E F D) : EL K G' S' E F D := ⟨h.nx.mono x, h.rt.mono x, h.bk.mono x, h.ct.mono x, h.ex.mono x⟩
def upS (K : PySem.W.Frag) (E : XK) (g : GS) : TS := fun D σ H => ∃ G S ρ w F, HR K G S w H ∧ SR K G S σ ρ ∧ EL K G S E F D ∧ g F ρ w

def DE (X : Cx) (E : XK) (e : Expr) (g : GE) : Prop := PE X e (upE X.K E g)
def DT (X : Cx) (E : XK) (e : Expr) (g : GT) : Prop := PT X e (upT X.K E g)
def DW (X : Cx) (E : XK) (e : Expr) (g : GT) : Prop := PW X e (upT X.K E g)
def DA (X : Cx) (E : XK) (es : List Expr) (g : GA) : Prop := PA X es (upA X.K E g)
def DS (X : Cx) (E : XK) (st : Stmt) (g : GS) : Prop := PS X st (upS X.K E g)
def DSs (X : Cx) (E : XK) (st : List Stmt) (g : GS) : Prop := PSs X st (upS X.K E g)
section
variable {X : Cx}
theorem pe_imp {e : Expr} {t t' : TE} (h : PE X e t) (i : ∀ σ H Q, t' σ H Q → t σ H Q) : PE X e t' := ⟨fun pins s σ H Q I q => h.run pins s σ H Q I (i _ _ _ q)⟩
theorem pt_imp {e : Expr} {t t' : TT} (h : PT X e t) (i : ∀ σ H Q, t' σ H Q → t σ H Q) : PT X e t' := ⟨fun pins s σ H Q I q => h.run pins s σ H Q I (i _ _ _ q)⟩
theorem pw_imp {e : Expr} {t t' : TT} (h : PW X e t) (i : ∀ σ H Q, t' σ H Q → t σ H Q) : PW X e t' := ⟨fun wh pins s σ H Q I q => h.run wh pins s σ H Q I (i _ _ _ q)⟩
theorem pa_imp {e : List Expr} {t t' : TA} (h : PA X e t) (i : ∀ σ H Q, t' σ H Q → t σ H Q) : PA X e t' := ⟨fun pos pins s σ H Q I q => h.run pos pins s σ H Q I (i _ _ _ q)⟩
theorem ps_imp {e : Stmt} {t t' : TS} (h : PS X e t) (i : ∀ D σ H, t' D σ H → t D σ H) : PS X e t' := ⟨fun pins s σ H D I q => h.run pins s σ H D I (i _ _ _ q)⟩
theorem pss_imp {e : List Stmt} {t t' : TS} (h : PSs X e t) (i : ∀ D σ H, t' D σ H → t D σ H) : PSs X e t' := ⟨fun pins s σ H D I q => h.run pins s σ H D I (i _ _ _ q)⟩
end

def gVar (i : Nat) : GE := fun ρ w _ k => match ρ[i]? with
  | some (some d) => k d w
  | _ => False
def gC (d : D) : GE := fun _ w _ k => k d w
section
variable {X : Cx} {E : XK}
theorem de_var (i : Nat) {x : Str} {pos : Pos} (hN : X.N[i]? = some x := by rfl) (hv : Vis X.env.scope x := by first | exact Or.inl rfl | exact Or.inr (Or.inl rfl) | exact Or.inr (Or.inr rfl)) (hd : (x == ("__debug__" : Str)) = false := by decide)
    (hcd : (x == ("__classdict__" : Str)) = false := by decide) : DE X E (.Name x pos) (gVar i) := by
  refine pe_imp (pe_var hN hv hd hcd) ?_
  rintro σ H Q ⟨G, S, ρ, w, kx, k, hr, sr, xl, kl, h⟩
  unfold gVar at h
  split at h
  · rename_i d e
    obtain ⟨v, h1, h2⟩ := sr.2 i d e
    exact ⟨v, h1, kl _ _ _ _ _ _ (Ext.refl _ _) hr h2 h⟩
  · exact h.elim
theorem de_int {i : Int} {j pos} : DE X E (.Constant (.int i) j pos) (gC (.int i)) := pe_imp pe_int (by
  rintro σ H Q ⟨G, S, ρ, w, kx, k, hr, sr, xl, kl, h⟩
  exact kl _ _ _ _ _ _ (Ext.refl _ _) hr (.int i) h)
theorem de_bl {i : Bool} {j pos} : DE X E (.Constant (.bool i) j pos) (gC (.bl i)) := pe_imp pe_bl (by
  rintro σ H Q ⟨G, S, ρ, w, kx, k, hr, sr, xl, kl, h⟩
  exact kl _ _ _ _ _ _ (Ext.refl _ _) hr (.bl i) h)
theorem de_non {j pos} : DE X E (.Constant .none j pos) (gC .non) := pe_imp pe_non (by
  rintro σ H Q ⟨G, S, ρ, w, kx, k, hr, sr, xl, kl, h⟩
  exact kl _ _ _ _ _ _ (Ext.refl _ _) hr .non h)
theorem de_str {x : Str} {j pos} : DE X E (.Constant (.str x) j pos) (gC (.str x)) := pe_imp pe_str (by
  rintro σ H Q ⟨G, S, ρ, w, kx, k, hr, sr, xl, kl, h⟩
  exact kl _ _ _ _ _ _ (Ext.refl _ _) hr (.str x) h)
theorem de_type {x : Str} {n : String} {pos : Pos} (hg : Gl X x) (hm : X.mg x = none) (hv : bootBuiltins x = some (.type n)) (hn : x ≠ "__name__" := by decide) (hd : (x == ("__debug__" : Str)) = false := by decide) : DE X E (.Name x pos) (gC (.ob (.ty n))) := pe_imp (pe_bltn (v := .ty n) hg hm hv rfl hn hd) (by
  rintro σ H Q ⟨G, S, ρ, w, kx, k, hr, sr, xl, kl, h⟩
  exact kl _ _ _ _ _ _ (Ext.refl _ _) hr (.ob rfl) h)
end

abbrev F2 := D → D → Wd → KD → Prop
def gBin (f : F2) (ga gb : GE) : GE := fun ρ w kx k => ga ρ w kx fun x w1 => gb ρ w1 kx fun y w2 => f x y w2 k
def BinOk (K : PySem.W.Frag) (r : R2) (f : F2) : Prop := ∀ {G S H w x y d e k Q}, HR K G S w H → Rep K G S x d → Rep K G S y e → KL K G S k Q → f d e w k → r x y H Q
section
variable {X : Cx} {E : XK} {a b c : Expr} {ga gb gc : GE} {pos : Pos}
theorem bin_up {K : PySem.W.Frag} {r : R2} {f : F2} (hf : BinOk K r f) : ∀ σ H Q, upE K E (gBin f ga gb) σ H Q → tOp r (upE K E ga) (upE K E gb) σ H Q := by
  rintro σ H Q ⟨G, S, ρ, w, kx, k, hr, sr, xl, kl, h⟩
  exact ⟨G, S, ρ, w, kx, _, hr, sr, xl, fun G1 S1 H1 w1 d x x1 hr1 rp h1 => ⟨G1, S1, ρ, w1, kx, _, hr1, sr.mono x1, xl.mono x1, fun G2 S2 H2 w2 e y x2 hr2 rp2 h2 => hf hr2 (rp.mono x2) rp2 (kl.mono (x1.trans x2)) h2, h1⟩, h⟩
theorem de_bin {op : Operator} {r : R2} {f : F2} (ho : OpR X (binaryOp op) r) (hf : BinOk X.K r f) (ha : DE X E a ga) (hb : DE X E b gb) : DE X E (.BinOp a op b pos) (gBin f ga gb) :=
  pe_imp (pe_op ho ha hb) (bin_up hf)
theorem de_cmp {op : CmpOp} {r : R2} {f : F2} (ho : OpR X (compareOp op) r) (hf : BinOk X.K r f) (ha : DE X E a ga) (hb : DE X E b gb) (hm : behindInMarks op b = false) : DE X E (.Compare a [op] [b] pos) (gBin f ga gb) :=
  pe_imp (pe_cmpR ho ha hb hm) (bin_up hf)
end

def addD : F2 := fun x y w k => match x, y with
  | .int i, .int j => k (.int (i + j)) w
  | .str i, .str j => i.length + j.length ≤ sizeLine ∧ k (.str (i ++ j)) w
  | .lst i, .lst j => i.length + j.length ≤ sizeLine ∧ k (.lst (i ++ j)) w
  | .tup i, .tup j => i ≠ [] ∧ i.length + j.length ≤ sizeLine ∧ k (.tup (i ++ j)) w
  | _, _ => False
def subD : F2 := fun x y w k => match x, y with
  | .int i, .int j => k (.int (i - j)) w
  | _, _ => False
def mulD : F2 := fun x y w k => match x, y with
  | .int i, .int j => CMulX i j ∧ k (.int (i * j)) w
  | .lst i, .int j => -(2 ^ 63) ≤ j ∧ j < 2 ^ 63 ∧ i.length * j.toNat ≤ sizeLine ∧ k (.lst (List.replicate j.toNat i).flatten) w
  | _, _ => False
def fdivD : F2 := fun x y w k => match x, y with
  | .int i, .int j => (j ≠ 0 ∧ j.natAbs.log2 < 9000) ∧ k (.int (i.fdiv j)) w
  | _, _ => False
def modD : F2 := fun x y w k => match x, y with
  | .int i, .int j => j ≠ 0 ∧ k (.int (i.fmod j)) w
  | _, _ => False
def powD : F2 := fun x y w k => match x, y with
  | .int i, .int j => CPow i j ∧ k (.int (i ^ j.toNat)) w
  | _, _ => False
def ltD : F2 := fun x y w k => match x, y with
  | .int i, .int j => k (.bl (decide (i < j))) w
  | .str i, .str j => k (.bl (decide (i.cps.toList < j.cps.toList))) w
  | _, _ => False
def leD : F2 := fun x y w k => match x, y with
  | .int i, .int j => k (.bl (decide (i ≤ j))) w
  | _, _ => False
def gtD : F2 := fun x y w k => match x, y with
  | .int i, .int j => k (.bl (decide (j < i))) w
  | _, _ => False
def geD : F2 := fun x y w k => match x, y with
  | .int i, .int j => k (.bl (decide (j ≤ i))) w
  | _, _ => False
mutual
def toPD : D → Option PyData
  | .non => some .none
  | .bl b => some (.bool b)
  | .int i => some (.int i)
  | .str x => some (.str x)
  | .lst xs => (toPDs xs).map .list
  | .tup xs => (toPDs xs).map .tuple
  | .rf _ => none
  | .st => none
  | .ob _ => none
  | .scr _ => none
def toPDs : List D → Option (List PyData)
  | [] => some []
  | x :: xs => match toPD x, toPDs xs with
    | some p, some ps => some (p :: ps)
    | _, _ => none
end
def eqD0 : F2 := fun x y w k => match toPD x, toPD y with
  | some p, some q => SeqAt.shaped p = true ∧ SeqAt.shaped q = true ∧ k (.bl (PyData.eqv p q)) w
  | _, _ => False
def neD0 : F2 := fun x y w k => match toPD x, toPD y with
  | some p, some q => SeqAt.shaped p = true ∧ SeqAt.shaped q = true ∧ k (.bl (!PyData.eqv p q)) w
  | _, _ => False
def eqD : F2 := fun x y w k => match x, y with
  | .str s, .str t => k (.bl (decide (s = t))) w
  | x, y => eqD0 x y w k
def neD : F2 := fun x y w k => match x, y with
  | .str s, .str t => k (.bl (!decide (s = t))) w
  | x, y => neD0 x y w k
def isNonD : D → Bool
  | .non => true
  | _ => false
def isD : F2 := fun x y w k => match y with
  | .non => k (.bl (isNonD x)) w
  | _ => False
def isnotD : F2 := fun x y w k => match y with
  | .non => k (.bl (!isNonD x)) w
  | _ => False
section
variable {K : PySem.W.Frag} {G : Gh} {S H : Hp}
mutual
theorem rep_dp (h : Same S H) : ∀ {v : V} {d : D} {p : PyData}, Rep K G S v d → toPD d = some p → Dp K H v p
  | _, _, _, .non, e => by cases e; exact .non
  | _, _, _, .bl b, e => by cases e; exact .bl b
  | _, _, _, .int i, e => by cases e; exact .int i
  | _, _, _, .str i, e => by cases e; exact .str i
  | _, _, _, .lst h1 r, e => by
    rw [toPD] at e
    obtain ⟨ps, e1, rfl⟩ := Option.map_eq_some_iff.mp e
    exact .lst (.inl (.inl (h _ _ h1))) (reps_dp h r e1)
  | _, _, _, .tup h1 r, e => by
    rw [toPD] at e
    obtain ⟨ps, e1, rfl⟩ := Option.map_eq_some_iff.mp e
    exact .tup (sqT_up h h1) (reps_dp h r e1)
  | _, _, _, .rf _, e => by cases e
  | _, _, _, .st _, e => by cases e
  | _, _, _, .ob _, e => by cases e
  | _, _, _, .scr _, e => by cases e
theorem reps_dp (h : Same S H) : ∀ {vs : List V} {ds : List D} {ps : List PyData}, RepAll K G S vs ds → toPDs ds = some ps → DpAll K H vs ps
  | _, _, _, .nil, e => by cases e; exact .nil
  | _, _, _, .cons h1 r, e => by
    rw [toPDs] at e
    split at e
    · rename_i p ps e1 e2
      cases e
      exact .cons (rep_dp h h1 e1) (reps_dp h r e2)
    · cases e
end
end
theorem KL.here {K : PySem.W.Frag} {G : Gh} {S H : Hp} {w : Wd} {k : KD} {Q : VK} {v : V} {d : D} (kl : KL K G S k Q) (hr : HR K G S w H) (r : Rep K G S v d) (h : k d w) : Q v H := kl _ _ _ _ _ _ (Ext.refl _ _) hr r h
theorem KL.newL {K : PySem.W.Frag} {G : Gh} {S H : Hp} {w : Wd} {k : KD} {Q : VK} {xs : List V} {ds : List D} (kl : KL K G S k Q) (hr : HR K G S w H) (r : RepAll K G S xs ds) (h : k (.lst ds) w) : ∀ p, H p = none → Q (.ref p) (upd H p (.lst xs)) := fun p hp => by
  obtain ⟨h1, x⟩ := hr.newS hp (.lst xs)
  exact kl _ _ _ _ _ _ x h1 (.lst upd_same (r.mono x)) h
theorem KL.newT {K : PySem.W.Frag} {G : Gh} {S H : Hp} {w : Wd} {k : KD} {Q : VK} {xs : List V} {ds : List D} (kl : KL K G S k Q) (hr : HR K G S w H) (r : RepAll K G S xs ds) (h : k (.tup ds) w) : ∀ p, H p = none → Q (.ref p) (upd H p (.tup xs)) := fun p hp => by
  obtain ⟨h1, x⟩ := hr.newS hp (.tup xs)
  exact kl _ _ _ _ _ _ x h1 (.tup (.inl (.inl upd_same)) (r.mono x)) h

def rAddD (K : PySem.W.Frag) : R2 := fun x y H Q => (rI0 (fun i j => .int (i + j))) x y H Q ∨ (fun x y H Q => ∃ i j, x = .str i ∧ y = .str j ∧ i.length + j.length ≤ sizeLine ∧ Q (.str (i ++ j)) H : R2) x y H Q ∨ rCat x y H Q ∨ rCatT K x y H Q
def rI2 (C : Int → Int → Prop) (g : Int → Int → V) : R2 := rI C g
def rMulD : R2 := fun x y H Q => (rI CMulX fun i j => .int (i * j)) x y H Q ∨ rRep x y H Q
theorem op_mulD {X : Cx} : OpR X (binaryOp .Mult) rMulD := op_mulX.or op_rep
theorem RepAll.rep {K : PySem.W.Frag} {G : Gh} {S : Hp} {xs : List V} {ds : List D} (h : RepAll K G S xs ds) : ∀ k : Nat, RepAll K G S (List.replicate k xs).flatten (List.replicate k ds).flatten
  | 0 => .nil
  | k + 1 => by
    rw [List.replicate_succ, List.replicate_succ, List.flatten_cons, List.flatten_cons]
    exact h.append (RepAll.rep h k)
theorem ok_mulD {K : PySem.W.Frag} : BinOk K rMulD mulD := by
  intro G S H w x y d e k Q hr rx ry kl h
  unfold mulD at h
  split at h
  · cases rx; cases ry
    exact .inl ⟨_, _, rfl, rfl, h.1, kl.here hr (.int _) h.2⟩
  · cases ry
    cases rx with
    | lst h1 r1 =>
      obtain ⟨z1, z2, z3, z4⟩ := h
      exact .inr ⟨_, _, _, rfl, rfl, hr.same _ _ h1, z1, z2, by rw [r1.length]; exact z3, kl.newL hr (r1.rep _) z4⟩
  · exact h.elim
theorem ok_modD {K : PySem.W.Frag} : BinOk K (rI (fun _ j => j ≠ 0) fun i j => .int (i.fmod j)) modD := by
  intro G S H w x y d e k Q hr rx ry kl h
  unfold modD at h
  split at h
  · cases rx; cases ry
    exact ⟨_, _, rfl, rfl, h.1, kl.here hr (.int _) h.2⟩
  · exact h.elim
theorem ok_powD {K : PySem.W.Frag} : BinOk K (rI CPow fun i j => .int (i ^ j.toNat)) powD := by
  intro G S H w x y d e k Q hr rx ry kl h
  unfold powD at h
  split at h
  · cases rx; cases ry
    exact ⟨_, _, rfl, rfl, h.1, kl.here hr (.int _) h.2⟩
  · exact h.elim
def rLtD : R2 := fun x y H Q => (rI0 fun i j => .bl (decide (i < j))) x y H Q ∨ (fun x y H Q => ∃ i j, x = .str i ∧ y = .str j ∧ Q (.bl (decide (i.cps.toList < j.cps.toList))) H : R2) x y H Q
theorem op_ltD {X : Cx} : OpR X (compareOp .Lt) rLtD := op_lt.or op_lt_str
theorem ok_ltD {K : PySem.W.Frag} : BinOk K rLtD ltD := by
  intro G S H w x y d e k Q hr rx ry kl h
  unfold ltD at h
  split at h
  · cases rx; cases ry
    exact .inl ⟨_, _, rfl, rfl, kl.here hr (.bl _) h⟩
  · cases rx; cases ry
    exact .inr ⟨_, _, rfl, rfl, kl.here hr (.bl _) h⟩
  · exact h.elim
theorem ok_eqD0 {K : PySem.W.Frag} : BinOk K (rEqD K) eqD0 := by
  intro G S H w x y d e k Q hr rx ry kl h
  unfold eqD0 at h
  split at h
  · rename_i p q e1 e2
    exact ⟨p, q, rep_dp hr.same rx e1, rep_dp hr.same ry e2, h.1, h.2.1, kl.here hr (.bl _) h.2.2⟩
  · exact h.elim
theorem ok_neD0 {K : PySem.W.Frag} : BinOk K (rNeD K) neD0 := by
  intro G S H w x y d e k Q hr rx ry kl h
  unfold neD0 at h
  split at h
  · rename_i p q e1 e2
    exact ⟨p, q, rep_dp hr.same rx e1, rep_dp hr.same ry e2, h.1, h.2.1, kl.here hr (.bl _) h.2.2⟩
  · exact h.elim
def rEqS (K : PySem.W.Frag) : R2 := fun x y H Q => rEq x y H Q ∨ rEqD K x y H Q
def rNeS (K : PySem.W.Frag) : R2 := fun x y H Q => rNe x y H Q ∨ rNeD K x y H Q
theorem dec_strV {s t : Str} : decide (V.str s = V.str t) = decide (s = t) := by
  rw [Bool.eq_iff_iff]
  simp
theorem ok_eqD {K : PySem.W.Frag} : BinOk K (rEqS K) eqD := by
  intro G S H w x y d e k Q hr rx ry kl h
  unfold eqD at h
  split at h
  · cases rx; cases ry
    refine .inl ⟨rfl, ?_⟩
    rw [dec_strV]
    exact kl.here hr (.bl _) h
  · exact .inr (ok_eqD0 hr rx ry kl h)
theorem ok_neD {K : PySem.W.Frag} : BinOk K (rNeS K) neD := by
  intro G S H w x y d e k Q hr rx ry kl h
  unfold neD at h
  split at h
  · cases rx; cases ry
    refine .inl ⟨rfl, ?_⟩
    rw [dec_strV]
    exact kl.here hr (.bl _) h
  · exact .inr (ok_neD0 hr rx ry kl h)
theorem rep_non {K : PySem.W.Frag} {G : Gh} {S : Hp} {v : V} {d : D} (r : Rep K G S v d) : decide (v = .non) = isNonD d := by
  cases r
  case ob h => cases v <;> first | rfl | cases h
  all_goals rfl
theorem ok_isD {K : PySem.W.Frag} : BinOk K (fun x y H Q => y = .non ∧ Q (.bl (decide (x = .non))) H) isD := by
  intro G S H w x y d e k Q hr rx ry kl h
  unfold isD at h
  split at h
  · cases ry
    refine ⟨rfl, ?_⟩
    rw [rep_non rx]
    exact kl.here hr (.bl _) h
  · exact h.elim
section
variable {X : Cx} {E : XK} {a b c : Expr} {ga gb gc : GE} {pos : Pos}
theorem de_mul (ha : DE X E a ga) (hb : DE X E b gb) : DE X E (.BinOp a .Mult b pos) (gBin mulD ga gb) := de_bin op_mulD ok_mulD ha hb
theorem de_mod (ha : DE X E a ga) (hb : DE X E b gb) : DE X E (.BinOp a .Mod b pos) (gBin modD ga gb) := de_bin op_modN ok_modD ha hb
theorem de_pow (ha : DE X E a ga) (hb : DE X E b gb) : DE X E (.BinOp a .Pow b pos) (gBin powD ga gb) := de_bin op_pow ok_powD ha hb
theorem de_eq {k : Nat} (hr : Room k X.A) (ha : DE X E a ga) (hb : DE X E b gb) : DE X E (.Compare a [.Eq] [b] pos) (gBin eqD ga gb) := de_cmp (op_eq.or (op_eqD hr.units)) ok_eqD ha hb (nomark _)
theorem de_is (ha : DE X E a ga) (hb : DE X E b gb) : DE X E (.Compare a [.Is] [b] pos) (gBin isD ga gb) := de_cmp op_isN ok_isD ha hb (nomark _)
def gChain (f f' : F2) (ga gb gc : GE) : GE := fun ρ w kx k => ga ρ w kx fun x w1 => gb ρ w1 kx fun y w2 => f x y w2 fun z w3 => match z with
  | .bl true => gc ρ w3 kx fun u w4 => f' y u w4 k
  | .bl false => k (.bl false) w3
  | _ => False
def negD : D → Wd → KD → Prop := fun x w k => match x with
  | .int i => k (.int (-i)) w
  | _ => False
def gUn (f : D → Wd → KD → Prop) (ga : GE) : GE := fun ρ w kx k => ga ρ w kx fun x w1 => f x w1 k
end

def gB (g : GE) : GT := fun ρ w kx k => g ρ w kx fun x w1 => match x with
  | .bl b => k b w1
  | _ => False
section
variable {X : Cx} {E : XK} {a b c : Expr} {ga gb gc : GE} {ta tb tc : GT} {pos : Pos} {rest : List Expr}
theorem dt_cmp {op : CmpOp} {r : R2} {f : F2} (ho : OpR X (compareOp op) r) (hf : BinOk X.K r f) (ha : DE X E a ga) (hb : DE X E b gb) (hm : behindInMarks op b = false) : DT X E (.Compare a [op] [b] pos) (gB (gBin f ga gb)) := by
  refine pt_imp (pt_cmpR ho ha hb hm) ?_
  rintro σ H Q ⟨G, S, ρ, w, kx, k, hr, sr, xl, kl, h⟩
  refine ⟨G, S, ρ, w, kx, _, hr, sr, xl, fun G1 S1 H1 w1 d x x1 hr1 rp h1 => ⟨G1, S1, ρ, w1, kx, _, hr1, sr.mono x1, xl.mono x1, fun G2 S2 H2 w2 e y x2 hr2 rp2 h2 => hf hr2 (rp.mono x2) rp2 (k := fun x w1 => match x with
    | .bl b => k b w1
    | _ => False) ?_ h2, h1⟩, h⟩
  intro G3 S3 H3 w3 z v x3 hr3 rp3 h3
  cases z with
  | bl q =>
    cases rp3
    exact ⟨q, rfl, kl _ _ _ _ _ ((x1.trans x2).trans x3) hr3 h3⟩
  | _ => exact h3.elim
theorem dt_lt (ha : DE X E a ga) (hb : DE X E b gb) : DT X E (.Compare a [.Lt] [b] pos) (gB (gBin ltD ga gb)) := dt_cmp op_ltD ok_ltD ha hb (nomark _)
theorem dt_eq {k : Nat} (hr : Room k X.A) (ha : DE X E a ga) (hb : DE X E b gb) : DT X E (.Compare a [.Eq] [b] pos) (gB (gBin eqD ga gb)) := dt_cmp (op_eq.or (op_eqD hr.units)) ok_eqD ha hb (nomark _)
theorem dt_ne {k : Nat} (hr : Room k X.A) (ha : DE X E a ga) (hb : DE X E b gb) : DT X E (.Compare a [.NotEq] [b] pos) (gB (gBin neD ga gb)) := dt_cmp (op_ne.or (op_neD hr.units)) ok_neD ha hb (nomark _)
theorem dt_is (ha : DE X E a ga) (hb : DE X E b gb) : DT X E (.Compare a [.Is] [b] pos) (gB (gBin isD ga gb)) := dt_cmp op_isN ok_isD ha hb (nomark _)
def truD : D → Wd → KB → Prop := fun x w k => match x with
  | .non => k false w
  | .bl b => k b w
  | .int i => k (i != 0) w
  | .str y => y.length ≤ sizeLine ∧ k ((y.length : Int) != 0) w
  | .lst xs => k (!xs.isEmpty) w
  | .tup xs => k (!xs.isEmpty) w
  | _ => False
def gTru (g : GE) : GT := fun ρ w kx k => g ρ w kx fun x w1 => truD x w1 k
theorem rep_isEmpty {K : PySem.W.Frag} {G : Gh} {S : Hp} {xs : List V} {ds : List D} (r : RepAll K G S xs ds) : ds.isEmpty = xs.isEmpty := by
  cases r <;> rfl
theorem dt_truth (ha : DE X E a ga) (he : ∀ whole, isTrue a X.env whole = (do let v ← whole; standAt a.pos; holding [v] (truthy v)) := by intro _; rfl) : DT X E a (gTru ga) := by
  refine pt_imp (pt_truth ha he) ?_
  rintro σ H Q ⟨G, S, ρ, w, kx, k, hr, sr, xl, kl, h⟩
  refine ⟨G, S, ρ, w, kx, _, hr, sr, xl, fun G1 S1 H1 w1 d x x1 hr1 rp h1 => ?_, h⟩
  cases rp with
  | non => exact ⟨_, rfl, kl _ _ _ _ _ x1 hr1 h1⟩
  | bl b => exact ⟨_, rfl, kl _ _ _ _ _ x1 hr1 h1⟩
  | int i => exact ⟨_, rfl, kl _ _ _ _ _ x1 hr1 h1⟩
  | str y => exact ⟨_, ⟨h1.1, rfl⟩, kl _ _ _ _ _ x1 hr1 h1.2⟩
  | lst e r => exact ⟨_, .inl ⟨_, .inl (.inl (hr1.same _ _ e)), rfl⟩, by rw [← rep_isEmpty r]; exact kl _ _ _ _ _ x1 hr1 h1⟩
  | tup e r => exact ⟨_, .inr (.inl ⟨_, sqT_up hr1.same e, rfl⟩), by rw [← rep_isEmpty r]; exact kl _ _ _ _ _ x1 hr1 h1⟩
  | rf _ => exact h1.elim
  | st _ => exact h1.elim
  | ob _ => exact h1.elim
  | scr _ => exact h1.elim
def gAnd (t u : GT) : GT := fun ρ w kx k => t ρ w kx fun c w1 => if c = true then u ρ w1 kx k else k false w1
def gOr (t u : GT) : GT := fun ρ w kx k => t ρ w kx fun c w1 => if c = true then k true w1 else u ρ w1 kx k
def gNot (t : GT) : GT := fun ρ w kx k => t ρ w kx fun c w1 => k (!c) w1
theorem dw_and1 (ha : DT X E a ta) : DW X E (.BoolOp .And [a] pos) ta := pw_and1 ha
theorem dw_or1 (ha : DT X E a ta) : DW X E (.BoolOp .Or [a] pos) ta := pw_or1 ha
theorem dw_and (ha : DT X E a ta) (hb : DW X E (.BoolOp .And (b :: rest) pos) tb) : DW X E (.BoolOp .And (a :: b :: rest) pos) (gAnd ta tb) := by
  refine pw_imp (pw_and ha hb) ?_
  rintro σ H Q ⟨G, S, ρ, w, kx, k, hr, sr, xl, kl, h⟩
  refine ⟨G, S, ρ, w, kx, _, hr, sr, xl, fun G1 S1 H1 w1 c x1 hr1 h1 => ?_, h⟩
  cases c with
  | true => exact iteT ⟨G1, S1, ρ, w1, kx, k, hr1, sr.mono x1, xl.mono x1, kl.mono x1, by simpa using h1⟩
  | false => exact iteF (kl _ _ _ _ _ x1 hr1 (by simpa using h1))
theorem dw_or (ha : DT X E a ta) (hb : DW X E (.BoolOp .Or (b :: rest) pos) tb) : DW X E (.BoolOp .Or (a :: b :: rest) pos) (gOr ta tb) := by
  refine pw_imp (pw_or ha hb) ?_
  rintro σ H Q ⟨G, S, ρ, w, kx, k, hr, sr, xl, kl, h⟩
  refine ⟨G, S, ρ, w, kx, _, hr, sr, xl, fun G1 S1 H1 w1 c x1 hr1 h1 => ?_, h⟩
  cases c with
  | false => exact iteF ⟨G1, S1, ρ, w1, kx, k, hr1, sr.mono x1, xl.mono x1, kl.mono x1, by simpa using h1⟩
  | true => exact iteT (kl _ _ _ _ _ x1 hr1 (by simpa using h1))
theorem dt_w (h : DW X E a ta) : DT X E a ta := PW.pt h
theorem dt_not (ha : DT X E a ta) : DT X E (.UnaryOp .Not a pos) (gNot ta) := by
  refine pt_imp (pt_not ha) ?_
  rintro σ H Q ⟨G, S, ρ, w, kx, k, hr, sr, xl, kl, h⟩
  exact ⟨G, S, ρ, w, kx, _, hr, sr, xl, fun G1 S1 H1 w1 c x1 hr1 h1 => kl _ _ _ _ _ x1 hr1 h1, h⟩
def gAndV (ga gb : GE) : GE := fun ρ w kx k => ga ρ w kx fun x w1 => match x with
  | .bl true => gb ρ w1 kx k
  | .bl false => k (.bl false) w1
  | _ => False
def gOrV (ga gb : GE) : GE := fun ρ w kx k => ga ρ w kx fun x w1 => match x with
  | .bl true => k (.bl true) w1
  | .bl false => gb ρ w1 kx k
  | _ => False
def gNotV (ga : GE) : GE := fun ρ w kx k => ga ρ w kx fun x w1 => match x with
  | .bl b => k (.bl (!b)) w1
  | _ => False
theorem de_one {op} (h : DE X E a ga) : DE X E (.BoolOp op [a] pos) ga := pe_one h
theorem de_and (ha : DE X E a ga) (hb : DE X E (.BoolOp .And (b :: rest) pos) gb) : DE X E (.BoolOp .And (a :: b :: rest) pos) (gAndV ga gb) := by
  refine pe_imp (pe_and ha hb) ?_
  rintro σ H Q ⟨G, S, ρ, w, kx, k, hr, sr, xl, kl, h⟩
  refine ⟨G, S, ρ, w, kx, _, hr, sr, xl, fun G1 S1 H1 w1 d x x1 hr1 rp h1 => ?_, h⟩
  cases rp with
  | bl q =>
    cases q with
    | true => exact ⟨true, rfl, iteT ⟨G1, S1, ρ, w1, kx, k, hr1, sr.mono x1, xl.mono x1, kl.mono x1, h1⟩⟩
    | false => exact ⟨false, rfl, iteF ((kl.mono x1).here hr1 (.bl _) h1)⟩
  | _ => exact h1.elim
theorem de_not (ha : DE X E a ga) : DE X E (.UnaryOp .Not a pos) (gNotV ga) := by
  refine pe_imp (pe_not ha) ?_
  rintro σ H Q ⟨G, S, ρ, w, kx, k, hr, sr, xl, kl, h⟩
  refine ⟨G, S, ρ, w, kx, _, hr, sr, xl, fun G1 S1 H1 w1 d x x1 hr1 rp h1 => ?_, h⟩
  cases rp with
  | bl q => exact ⟨q, rfl, (kl.mono x1).here hr1 (.bl _) h1⟩
  | _ => exact h1.elim
def gIf (t : GT) (ga gb : GE) : GE := fun ρ w kx k => t ρ w kx fun c w1 => if c = true then ga ρ w1 kx k else gb ρ w1 kx k
end
end DL

namespace DL
open PySem PySem.Spec PyProof.Rows L2

def gaNil : GA := fun _ w _ k => k [] w
def gaCons (g : GE) (r : GA) : GA := fun ρ w kx k => g ρ w kx fun x w1 => r ρ w1 kx fun xs w2 => k (x :: xs) w2
def gTup (t : GA) : GE := fun ρ w kx k => t ρ w kx fun xs w1 => xs.length ≤ sizeLine ∧ k (.tup xs) w1
def gLst (t : GA) : GE := fun ρ w kx k => t ρ w kx fun xs w1 => xs.length ≤ sizeLine ∧ k (.lst xs) w1
def gLstC (t : GA) : GE := fun ρ w kx k => t ρ w kx fun xs w1 => xs.length ≤ sizeLine ∧ k (.rf w1.M.length) ⟨w1.M ++ [.lst xs], w1.n⟩
section
variable {X : Cx} {E : XK} {e : Expr} {es : List Expr} {g : GE} {t : GA} {pos : Pos}
theorem da_nil : DA X E [] gaNil := pa_imp pa_nil (by
  rintro σ H Q ⟨G, S, ρ, w, kx, k, hr, sr, xl, kl, h⟩
  exact kl _ _ _ _ _ _ (Ext.refl _ _) hr .nil h)
theorem da_cons (ha : DE X E e g) (hr : DA X E es t) (hs : starEach (e :: es) X.env = (false, eval e X.env) :: starEach es X.env := by rfl) : DA X E (e :: es) (gaCons g t) := by
  refine pa_imp (pa_cons ha hr hs) ?_
  rintro σ H Q ⟨G, S, ρ, w, kx, k, hr, sr, xl, kl, h⟩
  exact ⟨G, S, ρ, w, kx, _, hr, sr, xl, fun G1 S1 H1 w1 d x x1 hr1 rp h1 => ⟨G1, S1, ρ, w1, kx, _, hr1, sr.mono x1, xl.mono x1, fun G2 S2 H2 w2 ds xs x2 hr2 rp2 h2 => kl _ _ _ _ _ _ (x1.trans x2) hr2 (.cons (rp.mono x2) rp2) h2, h1⟩, h⟩
theorem de_tup {x1} (h : DA X E es t) : DE X E (.Tuple es x1 pos) (gTup t) := by
  refine pe_imp (pe_tup h) ?_
  rintro σ H Q ⟨G, S, ρ, w, kx, k, hr, sr, xl, kl, h⟩
  exact ⟨G, S, ρ, w, kx, _, hr, sr, xl, fun G1 S1 H1 w1 ds xs x1 hr1 rp h1 => ⟨by rw [rp.length]; exact h1.1, (kl.mono x1).newT hr1 rp h1.2⟩, h⟩
theorem de_lst (h : DA X E es t) : DE X E (.List es pos) (gLst t) := by
  refine pe_imp (pe_lst h) ?_
  rintro σ H Q ⟨G, S, ρ, w, kx, k, hr, sr, xl, kl, h⟩
  exact ⟨G, S, ρ, w, kx, _, hr, sr, xl, fun G1 S1 H1 w1 ds xs x1 hr1 rp h1 => ⟨by rw [rp.length]; exact h1.1, (kl.mono x1).newL hr1 rp h1.2⟩, h⟩
theorem KL.newCL {K : PySem.W.Frag} {G : Gh} {S H : Hp} {w : Wd} {k : KD} {Q : VK} {xs : List V} {ds : List D} (kl : KL K G S k Q) (hr : HR K G S w H) (r : RepAll K G S xs ds) (h : k (.rf w.M.length) ⟨w.M ++ [.lst ds], w.n⟩) : ∀ p, H p = none → Q (.ref p) (upd H p (.lst xs)) := fun p hp => by
  have x : Ext G S ⟨G.al ++ [p], G.st, G.fr⟩ S := ⟨⟨[p], rfl⟩, fun _ z => z, fun _ z => z, Same.refl S⟩
  obtain ⟨h1, _⟩ := hr.newC hp (.lst xs) (.lst ds) ⟨hr.freshS hp, xs, upd_same, r.mono x⟩
  refine kl _ _ _ _ _ _ x h1 (.rf ?_) h
  show (G.al ++ [p])[w.M.length]? = some p
  rw [List.getElem?_append_right (by rw [hr.len]; exact Nat.le_refl _), hr.len, Nat.sub_self]
  rfl
theorem de_lstC (h : DA X E es t) : DE X E (.List es pos) (gLstC t) := by
  refine pe_imp (pe_lst h) ?_
  rintro σ H Q ⟨G, S, ρ, w, kx, k, hr, sr, xl, kl, h⟩
  exact ⟨G, S, ρ, w, kx, _, hr, sr, xl, fun G1 S1 H1 w1 ds xs x1 hr1 rp h1 => ⟨by rw [rp.length]; exact h1.1, (kl.mono x1).newCL hr1 rp h1.2⟩, h⟩
def gFrz (g : GE) : GE := fun ρ w kx k => g ρ w kx fun x w1 => match x with
  | .rf i => match w1.M[i]? with
    | some (.lst ds) => k (.lst ds) ⟨w1.M.set i .dead, w1.n⟩
    | _ => False
  | _ => False
end

def seqD (d : D) (w : Wd) : Option (List D) := match d with
  | .lst xs => some xs
  | .tup xs => some xs
  | .rf c => match w.M[c]? with
    | some (.lst xs) => some xs
    | _ => none
  | _ => none
theorem rep_seq {K : PySem.W.Frag} {G : Gh} {S H : Hp} {w : Wd} {v : V} {d : D} {ds : List D} (hr : HR K G S w H) (r : Rep K G S v d) (h : seqD d w = some ds) :
    ∃ a xs, v = .ref a ∧ (SqL K H a xs ∨ SqT K H a xs) ∧ RepAll K G S xs ds := by
  cases r with
  | lst e r => cases h; exact ⟨_, _, rfl, .inl (.inl (.inl (hr.same _ _ e))), r⟩
  | tup e r => cases h; exact ⟨_, _, rfl, .inr (sqT_up hr.same e), r⟩
  | rf e =>
    rename_i a i
    unfold seqD at h
    simp only at h
    split at h
    · rename_i xs e2
      cases h
      obtain ⟨_, ys, h1, h2⟩ := hr.cell i a _ e e2
      exact ⟨_, _, rfl, .inl (.inl (.inl h1)), h2⟩
    · cases h
  | _ => cases h
theorem rep_at {K : PySem.W.Frag} {G : Gh} {S : Hp} {xs : List V} {ds : List D} {i : Int} {d : D} (r : RepAll K G S xs ds) (h : atI ds i = some d) : ∃ v, atI xs i = some v ∧ Rep K G S v d := by
  unfold atI at h ⊢
  rw [r.length]
  cases e : ixN ds.length i with
  | none => rw [e] at h; cases h
  | some j =>
    rw [e] at h
    exact r.get h
def ixD : F2 := fun x y w k => match y with
  | .int i => match x with
    | .str z => z.length ≤ sizeLine ∧ match atI z.cps.toList i with
      | some c => k (.str ⟨#[c]⟩) w
      | none => False
    | _ => match seqD x w with
      | some ds => match atI ds i with
        | some d => k d w
        | none => False
      | none => False
  | _ => False
theorem ok_ixD {K : PySem.W.Frag} : BinOk K (rIx K) ixD := by
  intro G S H w x y d e k Q hr rx ry kl h
  cases ry with
  | int i =>
    have seq : (match seqD d w with
      | some ds => match atI ds i with
        | some d => k d w
        | none => False
      | none => False) → rIx K x (.int i) H Q := fun h => by
      split at h
      · rename_i ds e1
        split at h
        · rename_i d2 e2
          obtain ⟨a, xs, rfl, hs, r⟩ := rep_seq hr rx e1
          obtain ⟨v, h1, h2⟩ := rep_at r e2
          rcases hs with hs | hs
          · exact .inl ⟨_, _, _, _, rfl, rfl, hs, h1, kl.here hr h2 h⟩
          · exact .inr (.inl ⟨_, _, _, _, rfl, rfl, hs, h1, kl.here hr h2 h⟩)
        · exact h.elim
      · exact h.elim
    cases rx with
    | str z =>
      obtain ⟨h1, h⟩ := h
      split at h
      · rename_i c e2
        exact .inr (.inr ⟨_, _, _, rfl, rfl, h1, e2, kl.here hr (.str _) h⟩)
      · exact h.elim
    | lst e1 r => exact seq h
    | tup e1 r => exact seq h
    | rf e1 => exact seq h
    | _ => exact h.elim
  | _ => exact h.elim
section
variable {X : Cx} {E : XK} {a b : Expr} {ga gb : GE} {pos : Pos}
theorem de_ix (ha : DE X E a ga) (hb : DE X E b gb) (hs : PlainIx b := by exact fun _ _ => rfl) : DE X E (.Subscript a b pos) (gBin ixD ga gb) := pe_imp (pe_ix ix_seq ha hb hs) (bin_up ok_ixD)
end
abbrev GO := Rho → Wd → KX → (Option Int → Wd → Prop) → Prop
def upO (K : PySem.W.Frag) (E : XK) (g : GO) : TO := fun σ H Q => ∃ G S ρ w kx k, HR K G S w H ∧ SR K G S σ ρ ∧ XL K G S kx E ∧ (∀ G' S' H' w' o, Ext G S G' S' → HR K G' S' w' H' → k o w' → Q o H') ∧ g ρ w kx k
def DO (X : Cx) (E : XK) (e : Option Expr) (g : GO) : Prop := PO X e (upO X.K E g)
def goNone : GO := fun _ w _ k => k none w
def goSome (g : GE) : GO := fun ρ w kx k => g ρ w kx fun x w1 => match x with
  | .int i => k (some i) w1
  | _ => False
def cutD {α : Type} (xs : List α) (lo hi : Option Int) : List α := (xs.drop (HT.sIx xs.length 0 lo)).take (HT.sIx xs.length xs.length hi - HT.sIx xs.length 0 lo)
def slD : D → Option Int → Option Int → Wd → KD → Prop := fun x lo hi w k => match x with
  | .lst ds => k (.lst (cutD ds lo hi)) w
  | .tup ds => ¬ (HT.sIx ds.length 0 lo = 0 ∧ HT.sIx ds.length ds.length hi = ds.length) ∧ k (.tup (cutD ds lo hi)) w
  | .rf i => match w.M[i]? with
    | some (.lst ds) => k (.lst (cutD ds lo hi)) w
    | _ => False
  | _ => False
def gSl (f : D → Option Int → Option Int → Wd → KD → Prop) (g : GE) (l h : GO) : GE := fun ρ w kx k => g ρ w kx fun x w1 => l ρ w1 kx fun lo w2 => h ρ w2 kx fun hi w3 => f x lo hi w3 k
def SlOk (K : PySem.W.Frag) (r : V → Option Int → Option Int → Hp → VK → Prop) (f : D → Option Int → Option Int → Wd → KD → Prop) : Prop := ∀ {G S H w x d lo hi k Q}, HR K G S w H → Rep K G S x d → KL K G S k Q → f d lo hi w k → r x lo hi H Q
section
variable {X : Cx} {E : XK} {a b : Expr} {ga gb : GE} {gl gh : GO} {pos p2 : Pos} {lo hi : Option Expr}
def rSlLT (K : PySem.W.Frag) : V → Option Int → Option Int → Hp → VK → Prop := fun x lo hi H Q => rSlL K x lo hi H Q ∨ rSlT K x lo hi H Q
end
end DL

namespace DL
open PySem PySem.Spec PyProof.Rows L2

abbrev GF := List D → Wd → KX → KD → Prop
abbrev noX : KX := fun _ _ => False
def upF (n : Nat) (K : PySem.W.Frag) (g : GF) : Sp := fun vs H Q E => ∃ G S ds w kx k, ds.length = n ∧ HR K G S w H ∧ RepAll K G S vs ds ∧ XL K G S kx E ∧ KL K G S k Q ∧ g ds w kx k
theorem up_imp {n : Nat} {K : PySem.W.Frag} {g g' : GF} (h : ∀ ds w kx k, g' ds w kx k → g ds w kx k) : ∀ vs H Q E, upF n K g' vs H Q E → upF n K g vs H Q E := by
  rintro vs H Q E ⟨G, S, ds, w, kx, k, h1, h2, h3, h4, h5, h6⟩
  exact ⟨G, S, ds, w, kx, k, h1, h2, h3, h4, h5, h _ _ _ _ h6⟩
theorem xl_no {K : PySem.W.Frag} {G : Gh} {S : Hp} {E : XK} : XL K G S noX E := fun _ _ _ _ _ _ _ _ _ _ h => h.elim
def rho (n : Nat) (ds : List D) : Rho := ds.map some ++ List.replicate (n - ds.length) none
def sem0 (n : Nat) (g : GS) : GF := fun ds w _ k => g { nx := fun _ w' => k .non w', rt := k, ex := noX } (rho n ds) w
def semX (n : Nat) (g : GS) : GF := fun ds w kx k => g { nx := fun _ w' => k .non w', rt := k, ex := kx } (rho n ds) w
theorem sr_start {K : PySem.W.Frag} {G : Gh} {S : Hp} {N : List Str} : ∀ {vs : List V} {ds : List D}, RepAll K G S vs ds → SR K G S (L2.start N vs) (rho N.length ds) := by
  intro vs ds r
  have l := r.length
  refine ⟨by simp [L2.start, rho, l], fun i d e => ?_⟩
  unfold rho at e
  by_cases hi : i < ds.length
  · rw [List.getElem?_append_left (by simpa using hi)] at e
    have e' : ds[i]? = some d := by
      rw [List.getElem?_map] at e
      cases q : ds[i]? with
      | none => rw [q] at e; cases e
      | some z => rw [q] at e; simpa using e
    obtain ⟨v, h1, h2⟩ := r.get e'
    refine ⟨v, ?_, h2⟩
    unfold L2.start
    rw [List.getElem?_append_left (by simpa [l] using hi), List.getElem?_map, h1]
    rfl
  · rw [List.getElem?_append_right (by simpa using Nat.le_of_not_lt hi)] at e
    have := List.mem_of_getElem? e
    rw [List.mem_replicate] at this
    cases this.2
structure DefAt (K : PySem.W.Frag) (mg : Str → Option Value) (x : Str) (st : Stmt) (ps : List Str) : Prop where
  ex : ∃ f fd, Fun K x x st f fd ∧ mg x = some (.ref f) ∧ Binds K fd ps []
structure FnAt (P : Program) (w : World) (K : PySem.W.Frag) (mg : Str → Option Value) (base : Heap) (CX : CXT) (k : Nat) (x : Str) (n : Nat) (g : GF) : Prop where
  ex : ∃ f fd ps, FnOk P w K mg base CX k f fd ps (upF n K g) ∧ mg x = some (.ref f) ∧ PySem.W.keepIn K (.ref f) = true ∧ Binds K fd ps []
section
variable {P : Program} {w : World} {K : PySem.W.Frag} {mg : Str → Option Value} {base : Heap}
theorem FnAt.imp {CX : CXT} {k : Nat} {x : Str} {n : Nat} {g g' : GF} (h : FnAt P w K mg base CX k x n g) (i : ∀ ds w kx k, g' ds w kx k → g ds w kx k) : FnAt P w K mg base CX k x n g' := by
  obtain ⟨f, fd, ps, h1, h2⟩ := h.ex
  exact ⟨f, fd, ps, h1.imp (up_imp i), h2⟩
theorem FnAt.mono {CX : CXT} {j k : Nat} {x : Str} {n : Nat} {g : GF} (h : FnAt P w K mg base CX j x n g) (i : j ≤ k) : FnAt P w K mg base CX k x n g := by
  obtain ⟨f, fd, ps, h1, h2⟩ := h.ex
  exact ⟨f, fd, ps, h1.mono i, h2⟩
theorem fun_fn0 {x : Str} {st : Stmt} {f : Addr} {fd : FuncData} {N ps : List Str} {k : Nat} {g : GS} (F : Fun K x x st f fd) (S : FnScope N ps (defScope st))
    (hbody : ∀ (f : Addr) (cdv : Value) (A : Around) (outer : List Env) (s : Shared) (H : Hp) (E : XK), Room k (A.deeper (envOfC x (defScope st) s.heap.objs.size f cdv)) →
      DSs (cxOf CX0 P w K mg base N x (defScope st) f cdv A outer s H E).nox E0 (defBody st) g) : FnOk P w K mg base CX0 (k + 1) f fd ps (upF ps.length K (sem0 N.length g)) := by
  refine F.ok S (fun vs H Q E h => ?_) (fun cdv A outer s H vs Q E hr h => ?_)
  · obtain ⟨G, S, ds, w, kx, k, h1, h2, h3, _⟩ := h
    rw [h3.length, h1]
  · obtain ⟨G, S1, ds, w1, kx, k1, h1, h2, h3, h4, h5, h6⟩ := h
    refine ⟨_, hbody f cdv A outer s H E hr, G, S1, rho N.length ds, w1, { nx := fun _ w' => k1 .non w', rt := k1, ex := noX }, h2, sr_start h3, ⟨fun G' S' H' w' ρ' σ' x1 hr1 _ hk => h5 _ _ _ _ _ _ x1 hr1 .non hk, h5, ?_, ?_, xl_no⟩, h6⟩
    · intro _ _ _ _ _ _ _ _ _ z
      exact z.elim
    · intro _ _ _ _ _ _ _ _ _ z
      exact z.elim
theorem DefAt.fn0 {x : Str} {st : Stmt} {N ps : List Str} {k : Nat} {g : GS} (T : DefAt K mg x st ps) (S : FnScope N ps (defScope st))
    (hbody : ∀ (f : Addr) (cdv : Value) (A : Around) (outer : List Env) (s : Shared) (H : Hp) (E : XK), Room k (A.deeper (envOfC x (defScope st) s.heap.objs.size f cdv)) →
      DSs (cxOf CX0 P w K mg base N x (defScope st) f cdv A outer s H E).nox E0 (defBody st) g) : FnAt P w K mg base CX0 (k + 1) x ps.length (sem0 N.length g) := by
  obtain ⟨f, fd, F, hm, hb⟩ := T.ex
  exact ⟨f, fd, ps, fun_fn0 F S hbody, hm, F.kp, hb⟩
theorem DefAt.mk0 {x : Str} {st : Stmt} {ps : List Str} {k n : Nat} {g : GF} (T : DefAt K mg x st ps) (h : ∀ f fd, Fun K x x st f fd → FnOk P w K mg base CX0 k f fd ps (upF n K g)) : FnAt P w K mg base CX0 k x n g := by
  obtain ⟨f, fd, F, hm, hb⟩ := T.ex
  exact ⟨f, fd, ps, h f fd F, hm, F.kp, hb⟩
end
section
variable {X : Cx} {E : XK} {k n : Nat} {g : GF} {x : Str} {e : Expr} {es : List Expr} {ga : GA} {p pos : Pos}
def gCall0 (n : Nat) (g : GF) (ga : GA) : GE := fun ρ w kx k => ga ρ w kx fun ds w1 => ds.length = n ∧ g ds w1 noX k
theorem de_call0 {j : Nat} (F : FnAt X.prog X.w X.K X.mg X.base CX0 j x n g) (hr : Room k X.A) (hg : Gl X x) (ha : DA X E (e :: es) ga) (hjk : j ≤ k := by decide) (hdb : (x == ("__debug__" : Str)) = false := by decide) (he : starEach (e :: es) X.env = (false, eval e X.env) :: starEach es X.env := by rfl) (hpl : (backTo pos (starEach es X.env)).any (·.1) = false := by rfl) :
    DE X E (.Call (.Name x p) (e :: es) [] pos) (gCall0 n g ga) := by
  obtain ⟨f, fd, ps, h1, h2, h3, h4⟩ := F.ex
  refine pe_imp (pe_call h1 (hr.mono hjk) hg h2 h3 h4 .nil pass0 ha hdb he hpl) ?_
  rintro σ H Q ⟨G, S, ρ, w, kx, k, hr, sr, xl, kl, h⟩
  refine ⟨G, S, ρ, w, kx, _, hr, sr, xl, fun G1 S1 H1 w1 ds vs x1 hr1 rp hq => ?_, h⟩
  show upF n X.K g (vs ++ []) H1 Q E0
  rw [List.append_nil]
  exact ⟨G1, S1, ds, w1, noX, k, hq.1, hr1, rp, xl_no, kl.mono x1, hq.2⟩
end

abbrev FB := List D → Wd → KD → Prop
def CallOk (K : PySem.W.Frag) (r : List V → Hp → VK → Prop) (f : FB) : Prop := ∀ {G S H w xs ds k Q}, HR K G S w H → RepAll K G S xs ds → KL K G S k Q → f ds w k → r xs H Q
def gCB (f : FB) (ga : GA) : GE := fun ρ w kx k => ga ρ w kx fun ds w1 => f ds w1 k
section
variable {X : Cx} {E : XK} {r : List V → Hp → VK → Prop} {f : FB} {id T : String} {x : Str} {e : Expr} {es : List Expr} {ga : GA} {p pos : Pos}
theorem cb_up {K : PySem.W.Frag} (hf : CallOk K r f) : ∀ σ H Q, upE K E (gCB f ga) σ H Q → tCB r (upA K E ga) σ H Q := by
  rintro σ H Q ⟨G, S, ρ, w, kx, k, hr, sr, xl, kl, h⟩
  exact ⟨G, S, ρ, w, kx, _, hr, sr, xl, fun G1 S1 H1 w1 ds vs x1 hr1 rp hq => hf hr1 rp (kl.mono x1) hq, h⟩
theorem de_cb (hc : CallR X (.builtin id) r) (hf : CallOk X.K r f) (hg : Gl X x) (hm : X.mg x = none) (hv : bootBuiltins x = some (.builtin id)) (ha : DA X E (e :: es) ga) (hn : x ≠ "__name__" := by decide) (hdb : (x == ("__debug__" : Str)) = false := by decide)
    (he : starEach (e :: es) X.env = (false, eval e X.env) :: starEach es X.env := by rfl) (hpl : (backTo pos (starEach es X.env)).any (·.1) = false := by rfl) : DE X E (.Call (.Name x p) (e :: es) [] pos) (gCB f ga) :=
  pe_imp (pe_callB hc hg hm hv ha hn hdb he hpl) (cb_up hf)
theorem de_ct (hc : CallR X (.type T) r) (hf : CallOk X.K r f) (hg : Gl X x) (hm : X.mg x = none) (hv : bootBuiltins x = some (.type T)) (ha : DA X E (e :: es) ga) (hn : x ≠ "__name__" := by decide) (hdb : (x == ("__debug__" : Str)) = false := by decide)
    (he : starEach (e :: es) X.env = (false, eval e X.env) :: starEach es X.env := by rfl) (hpl : (backTo pos (starEach es X.env)).any (·.1) = false := by rfl) : DE X E (.Call (.Name x p) (e :: es) [] pos) (gCB f ga) :=
  pe_imp (pe_callTy hc hg hm hv ha hn hdb he hpl) (cb_up hf)
end
theorem one_rep {K : PySem.W.Frag} {G : Gh} {S : Hp} {xs : List V} {d : D} (r : RepAll K G S xs [d]) : ∃ v, xs = [v] ∧ Rep K G S v d := by
  cases r with
  | cons h t => cases t; exact ⟨_, rfl, h⟩
theorem two_rep {K : PySem.W.Frag} {G : Gh} {S : Hp} {xs : List V} {d e : D} (r : RepAll K G S xs [d, e]) : ∃ v u, xs = [v, u] ∧ Rep K G S v d ∧ Rep K G S u e := by
  cases r with
  | cons h t =>
    obtain ⟨u, rfl, h2⟩ := one_rep t
    exact ⟨_, _, rfl, h, h2⟩
def fAbs : FB := fun ds w k => match ds with
  | [.int i] => k (.int i.natAbs) w
  | _ => False
def fLen : FB := fun ds w k => match ds with
  | [.str z] => z.length ≤ sizeLine ∧ k (.int z.length) w
  | [d] => match seqD d w with
    | some xs => k (.int xs.length) w
    | none => match d with
      | .rf c => match w.M[c]? with
        | some (.dk kvs) => k (.int kvs.length) w
        | _ => False
      | _ => False
  | _ => False
def rLen (K : PySem.W.Frag) : List V → Hp → VK → Prop := fun xs H Q => (∃ x n, xs = [x] ∧ LenV K x H n ∧ Q (.int n) H) ∨ (∃ (a : Addr) (kvs : List (Key × V)), xs = [V.ref a] ∧ Rd H a (.dK kvs) ∧ Q (.int kvs.length) H)
theorem call_lenR {X : Cx} : CallR X (.builtin "len") (rLen X.K) := by
  intro pins s σ H xs us Q I r h
  rcases h with h | ⟨a, kvs, rfl, hd, q⟩
  · exact call_len pins s σ H xs us Q I r h
  · obtain ⟨u, rfl, r1⟩ := vals1 r
    cases r1
    exact d_len I hd fun t s' I' => ⟨.int kvs.length, H, I', ⟨_, rfl⟩, q⟩
theorem fs_len {K : PySem.W.Frag} {G : Gh} {S : Hp} {κ : Type} {xs : List (κ × V)} {ds : List (κ × D)} (r : FsRep K G S xs ds) : xs.length = ds.length := Paired.length r
theorem ok_len {K : PySem.W.Frag} : CallOk K (rLen K) fLen := by
  intro G S H w xs ds k Q hr rx kl h
  unfold fLen at h
  split at h
  · obtain ⟨v, rfl, r⟩ := one_rep rx
    cases r
    exact .inl ⟨_, _, rfl, ⟨h.1, rfl⟩, kl.here hr (.int _) h.2⟩
  · rename_i d hd
    obtain ⟨v, rfl, r⟩ := one_rep rx
    split at h
    · rename_i xs e1
      obtain ⟨a, ys, rfl, hs, r2⟩ := rep_seq hr r e1
      refine .inl ⟨_, _, rfl, ?_, kl.here hr (.int _) h⟩
      rcases hs with hs | hs
      · exact .inl ⟨ys, hs, r2.length.symm⟩
      · exact .inr ⟨ys, hs, r2.length.symm⟩
    · split at h
      · rename_i c
        split at h
        · rename_i kvs e2
          cases r with
          | rf ha =>
            obtain ⟨_, ks, h1, h2⟩ := hr.cell _ _ _ ha e2
            refine .inr ⟨_, ks, rfl, .inl h1, ?_⟩
            rw [fs_len h2]
            exact kl.here hr (.int _) h
        · exact h.elim
      · exact h.elim
  · exact h.elim
def tyD (d : D) (w : Wd) : Option String := match d with
  | .non => some "NoneType"
  | .bl _ => some "bool"
  | .int _ => some "int"
  | .str _ => some "str"
  | .lst _ => some "list"
  | .tup _ => some "tuple"
  | .rf c => match w.M[c]? with
    | some (.lst _) => some "list"
    | some (.dk _) => some "dict"
    | _ => none
  | _ => none
theorem tyX_tup {K : PySem.W.Frag} {H : Hp} {a : Addr} {xs : List V} (h : SqT K H a xs) : TyX K H (.ref a) (.type "tuple") := by
  rcases h with (h | ⟨o, h⟩) | ⟨o, its, n, h1, h2, _⟩
  · exact .base (.tup h)
  · exact .fTuple h
  · exact .kTuple h1 h2
theorem rep_ty {K : PySem.W.Frag} {G : Gh} {S H : Hp} {w : Wd} {v : V} {d : D} {t : String} (hr : HR K G S w H) (r : Rep K G S v d) (h : tyD d w = some t) : TyX K H v (.type t) := by
  cases r with
  | non => cases h; exact .base .non
  | bl b => cases h; exact .base (.bl b)
  | int b => cases h; exact .base (.int b)
  | str b => cases h; exact .base (.str b)
  | lst e r => cases h; exact .base (.lst (hr.same _ _ e))
  | tup e r => cases h; exact tyX_tup (sqT_up hr.same e)
  | rf e =>
    unfold tyD at h
    simp only at h
    split at h
    · rename_i xs e2
      cases h
      obtain ⟨_, ys, h1, h2⟩ := hr.cell _ _ _ e e2
      exact .base (.lst h1)
    · rename_i xs e2
      cases h
      obtain ⟨_, ys, h1, h2⟩ := hr.cell _ _ _ e e2
      exact .base (.dK h1)
    · cases h
  | _ => cases h
def fIsi : FB := fun ds w k => match ds with
  | [x, .ob (.ty n)] => match tyD x w with
    | some t => match kitB t n with
      | some b => k (.bl b) w
      | none => False
    | none => False
  | _ => False
theorem ok_isi {K : PySem.W.Frag} : CallOk K (rIsi K) fIsi := by
  intro G S H w xs ds k Q hr rx kl h
  unfold fIsi at h
  split at h
  · rename_i x n
    split at h
    · rename_i t e1
      split at h
      · rename_i b e2
        obtain ⟨v, u, rfl, r1, r2⟩ := two_rep rx
        cases r2
        exact ⟨_, _, _, _, b, rfl, .ty n, rep_ty hr r1 e1, kit_ty e2, kl.here hr (.bl _) h⟩
      · exact h.elim
    · exact h.elim
  · exact h.elim
theorem kit_int_int : kitB "int" "int" = some true := by decide +kernel
theorem kit_bool_int : kitB "bool" "int" = some true := by decide +kernel
theorem kit_str_int : kitB "str" "int" = some false := by decide +kernel
theorem kit_non_int : kitB "NoneType" "int" = some false := by decide +kernel
theorem kit_list_int : kitB "list" "int" = some false := by decide +kernel
theorem kit_tuple_int : kitB "tuple" "int" = some false := by decide +kernel
theorem kit_int_bool : kitB "int" "bool" = some false := by decide +kernel
theorem kit_bool_bool : kitB "bool" "bool" = some true := by decide +kernel
theorem kit_str_bool : kitB "str" "bool" = some false := by decide +kernel
theorem kit_non_bool : kitB "NoneType" "bool" = some false := by decide +kernel
theorem kit_list_bool : kitB "list" "bool" = some false := by decide +kernel
theorem kit_tuple_bool : kitB "tuple" "bool" = some false := by decide +kernel
theorem kit_int_str : kitB "int" "str" = some false := by decide +kernel
theorem kit_bool_str : kitB "bool" "str" = some false := by decide +kernel
theorem kit_str_str : kitB "str" "str" = some true := by decide +kernel
theorem kit_non_str : kitB "NoneType" "str" = some false := by decide +kernel
theorem kit_list_str : kitB "list" "str" = some false := by decide +kernel
theorem kit_tuple_str : kitB "tuple" "str" = some false := by decide +kernel
theorem kit_int_list : kitB "int" "list" = some false := by decide +kernel
theorem kit_bool_list : kitB "bool" "list" = some false := by decide +kernel
theorem kit_str_list : kitB "str" "list" = some false := by decide +kernel
theorem kit_non_list : kitB "NoneType" "list" = some false := by decide +kernel
theorem kit_list_list : kitB "list" "list" = some true := by decide +kernel
theorem kit_tuple_list : kitB "tuple" "list" = some false := by decide +kernel
theorem kit_int_tuple : kitB "int" "tuple" = some false := by decide +kernel
theorem kit_bool_tuple : kitB "bool" "tuple" = some false := by decide +kernel
theorem kit_str_tuple : kitB "str" "tuple" = some false := by decide +kernel
theorem kit_non_tuple : kitB "NoneType" "tuple" = some false := by decide +kernel
theorem kit_list_tuple : kitB "list" "tuple" = some false := by decide +kernel
theorem kit_tuple_tuple : kitB "tuple" "tuple" = some true := by decide +kernel
def allBl : List D → Option (List Bool)
  | [] => some []
  | .bl b :: r => match allBl r with
    | some bs => some (b :: bs)
    | none => none
  | _ => none
def allInt : List D → Option (List Int)
  | [] => some []
  | .int b :: r => match allInt r with
    | some bs => some (b :: bs)
    | none => none
  | _ => none
theorem rep_bls {K : PySem.W.Frag} {G : Gh} {S : Hp} : ∀ {ds : List D} {vs : List V} {bs : List Bool}, RepAll K G S vs ds → allBl ds = some bs → vs = bs.map V.bl
  | [], _, _, r, e => by
    cases r
    cases e
    rfl
  | d :: ds, _, _, r, e => by
    cases r with
    | cons h r =>
      cases d with
      | bl b =>
        cases h
        unfold allBl at e
        cases q : allBl ds with
        | none =>
          rw [q] at e
          cases e
        | some bs =>
          rw [q] at e
          cases e
          rw [rep_bls r q]
          rfl
      | _ => simp [allBl] at e
def fAll : FB := fun ds w k => match ds with
  | [.lst xs] => match allBl xs with
    | some bs => k (.bl (bs.all id)) w
    | none => False
  | _ => False
def fAny : FB := fun ds w k => match ds with
  | [.lst xs] => match allBl xs with
    | some bs => k (.bl (bs.any id)) w
    | none => False
  | _ => False
theorem ok_all {K : PySem.W.Frag} : CallOk K (rAll K) fAll := by
  intro G S H w xs ds k Q hr rx kl h
  unfold fAll at h
  split at h
  · split at h
    · rename_i bs e
      obtain ⟨v, rfl, r⟩ := one_rep rx
      cases r with
      | lst h1 r1 =>
        have e2 := rep_bls r1 e
        subst e2
        exact ⟨_, bs, rfl, .inl (.inl (hr.same _ _ h1)), kl.here hr (.bl _) h⟩
    · exact h.elim
  · exact h.elim
def fSum : FB := fun ds w k => match ds with
  | [.lst xs] => match allInt xs with
    | some bs => k (.int bs.sum) w
    | none => False
  | _ => False
def fList : FB := fun ds w k => match ds with
  | [d] => match seqD d w with
    | some xs => k (.lst xs) w
    | none => False
  | _ => False
def fTuple : FB := fun ds w k => match ds with
  | [d] => match seqD d w with
    | some xs => k (.tup xs) w
    | none => False
  | _ => False
theorem ok_tuple {K : PySem.W.Frag} : CallOk K (fun xs H Q => ∃ p ys, xs = [.ref p] ∧ ((SqL K H p ys ∧ ∀ l, H l = none → Q (.ref l) (upd H l (.tup ys))) ∨ (SqT K H p ys ∧ Q (.ref p) H))) fTuple := by
  intro G S H w xs ds k Q hr rx kl h
  unfold fTuple at h
  split at h
  · rename_i d
    split at h
    · rename_i bs e
      obtain ⟨v, rfl, r⟩ := one_rep rx
      cases r with
      | lst e1 r =>
        cases e
        exact ⟨_, _, rfl, .inl ⟨.inl (.inl (hr.same _ _ e1)), kl.newT hr r h⟩⟩
      | tup e1 r =>
        cases e
        exact ⟨_, _, rfl, .inr ⟨sqT_up hr.same e1, kl.here hr (.tup e1 r) h⟩⟩
      | rf e1 =>
        unfold seqD at e
        simp only at e
        split at e
        · rename_i xs e2
          cases e
          obtain ⟨_, ys, h1, h2⟩ := hr.cell _ _ _ e1 e2
          exact ⟨_, _, rfl, .inl ⟨.inl (.inl h1), kl.newT hr h2 h⟩⟩
        · cases e
      | _ => cases e
    · exact h.elim
  · exact h.elim
def fInt : FB := fun ds w k => match ds with
  | [.int i] => k (.int i) w
  | [.bl b] => k (.int (if b then 1 else 0)) w
  | _ => False
def fMin2 : FB := fun ds w k => match ds with
  | [.int i, .int j] => k (.int (if j < i then j else i)) w
  | _ => False
structure Blt (mg : Str → Option Value) : Prop where
  abs_ : mg "abs" = none
  len_ : mg "len" = none
  isi_ : mg "isinstance" = none
  all_ : mg "all" = none
  any_ : mg "any" = none
  sum_ : mg "sum" = none
  list_ : mg "list" = none
  tuple_ : mg "tuple" = none
  int_ : mg "int" = none
  bool_ : mg "bool" = none
  str_ : mg "str" = none
  min_ : mg "min" = none
  max_ : mg "max" = none
  range_ : mg "range" = none
  zip_ : mg "zip" = none
  sorted_ : mg "sorted" = none
  enum_ : mg "enumerate" = none
  divmod_ : mg "divmod" = none
section
variable {X : Cx} {E : XK} {e : Expr} {es : List Expr} {ga : GA} {p pos : Pos} (B : Blt X.mg)
include B
theorem de_len (hg : Gl X "len") (ha : DA X E (e :: es) ga) (he : starEach (e :: es) X.env = (false, eval e X.env) :: starEach es X.env := by rfl) (hpl : (backTo pos (starEach es X.env)).any (·.1) = false := by rfl) : DE X E (.Call (.Name "len" p) (e :: es) [] pos) (gCB fLen ga) := de_cb call_lenR ok_len hg B.len_ (by decide +kernel) ha (he := he) (hpl := hpl)
theorem de_isi (hg : Gl X "isinstance") (ha : DA X E (e :: es) ga) (he : starEach (e :: es) X.env = (false, eval e X.env) :: starEach es X.env := by rfl) (hpl : (backTo pos (starEach es X.env)).any (·.1) = false := by rfl) : DE X E (.Call (.Name "isinstance" p) (e :: es) [] pos) (gCB fIsi ga) := de_cb call_isi ok_isi hg B.isi_ (by decide +kernel) ha (he := he) (hpl := hpl)
theorem de_all (hc : X.calm = true) (hg : Gl X "all") (ha : DA X E (e :: es) ga) (he : starEach (e :: es) X.env = (false, eval e X.env) :: starEach es X.env := by rfl) (hpl : (backTo pos (starEach es X.env)).any (·.1) = false := by rfl) : DE X E (.Call (.Name "all" p) (e :: es) [] pos) (gCB fAll ga) := de_cb (cr_all hc) ok_all hg B.all_ (by decide +kernel) ha (he := he) (hpl := hpl)
theorem de_tuple (hg : Gl X "tuple") (ha : DA X E (e :: es) ga) (he : starEach (e :: es) X.env = (false, eval e X.env) :: starEach es X.env := by rfl) (hpl : (backTo pos (starEach es X.env)).any (·.1) = false := by rfl) : DE X E (.Call (.Name "tuple" p) (e :: es) [] pos) (gCB fTuple ga) := de_ct call_tuple_of ok_tuple hg B.tuple_ (by decide +kernel) ha (he := he) (hpl := hpl)
end
end DL

namespace DL
open PySem PySem.Spec PyProof.Rows L2

def gNext : GS := fun F ρ w => F.nx ρ w
def gSeq (t u : GS) : GS := fun F ρ w => t { F with nx := u F } ρ w
def gCut (t u : GS) : GS := fun F ρ w => ∃ M : Rho → Wd → Prop, t { F with nx := M } ρ w ∧ ∀ ρ w, M ρ w → u F ρ w
def gBreak : GS := fun F ρ w => F.bk ρ w
def gCont : GS := fun F ρ w => F.ct ρ w
def gDrop (g : GE) : GS := fun F ρ w => g ρ w F.ex fun _ w1 => F.nx ρ w1
def gRet (g : GE) : GS := fun F ρ w => g ρ w F.ex F.rt
def gRetN : GS := fun F _ w => F.rt .non w
def gIfS (c : GT) (t u : GS) : GS := fun F ρ w => c ρ w F.ex fun b w1 => if b = true then t F ρ w1 else u F ρ w1
def gNever : GS := fun _ _ _ => False
section
variable {X : Cx} {E : XK} {st : Stmt} {rest : List Stmt} {t u : GS} {e : Expr} {g : GE} {pos : Pos}
theorem el_seq {K : PySem.W.Frag} {G : Gh} {S : Hp} {F : DEnds} {D : Ends} (el : EL K G S E F D) (u : GS) : EL K G S E { F with nx := u F } { D with nx := upS K E u D } :=
  ⟨fun G1 S1 H1 w1 ρ1 σ1 x1 hr1 sr1 h1 => ⟨G1, S1, ρ1, w1, F, hr1, sr1, el.mono x1, h1⟩, el.rt, el.bk, el.ct, el.ex⟩
theorem dss_nil : DSs X E [] gNext := pss_imp pss_nil (by
  rintro D σ H ⟨G, S, ρ, w, F, hr, sr, el, h⟩
  exact el.nx _ _ _ _ _ _ (Ext.refl _ _) hr sr h)
theorem dss_cons (h1 : DS X E st t) (h2 : DSs X E rest u) : DSs X E (st :: rest) (gSeq t u) := pss_imp (pss_cons h1 h2) (by
  rintro D σ H ⟨G, S, ρ, w, F, hr, sr, el, h⟩
  exact ⟨G, S, ρ, w, { F with nx := u F }, hr, sr, el_seq el u, h⟩)
theorem dss_one (h1 : DS X E st t) : DSs X E [st] t := pss_one h1
theorem ds_expr (he : DE X E e g) (hs : swapsWith e none pos.line X.env = pure false := by rfl) : DS X E (.Expr e pos) (gDrop g) := ps_imp (ps_expr he hs) (by
  rintro D σ H ⟨G, S, ρ, w, F, hr, sr, el, h⟩
  exact ⟨G, S, ρ, w, F.ex, _, hr, sr, el.ex, fun G1 S1 H1 w1 d v x1 hr1 _ h1 => el.nx _ _ _ _ _ _ x1 hr1 (sr.mono x1) h1, h⟩)
theorem ds_ret (he : DE X E e g) : DS X E (.Return (some e) pos) (gRet g) := ps_imp (ps_ret he) (by
  rintro D σ H ⟨G, S, ρ, w, F, hr, sr, el, h⟩
  exact ⟨G, S, ρ, w, F.ex, F.rt, hr, sr, el.ex, el.rt, h⟩)
theorem ds_if {c : Expr} {a b : List Stmt} {tc : GT} (hc : DT X E c tc) (ha : DSs X E a t) (hb : DSs X E b u) : DS X E (.If c a b pos) (gIfS tc t u) := ps_imp (ps_if hc ha hb) (by
  rintro D σ H ⟨G, S, ρ, w, F, hr, sr, el, h⟩
  refine ⟨G, S, ρ, w, F.ex, _, hr, sr, el.ex, fun G1 S1 H1 w1 c x1 hr1 h1 => ?_, h⟩
  cases c with
  | true => exact iteT ⟨G1, S1, ρ, w1, F, hr1, sr.mono x1, el.mono x1, by simpa using h1⟩
  | false => exact iteF ⟨G1, S1, ρ, w1, F, hr1, sr.mono x1, el.mono x1, by simpa using h1⟩)
end

abbrev GG := D → Rho → Wd → (Rho → Wd → Prop) → Prop
abbrev GGs := List D → Rho → Wd → (Rho → Wd → Prop) → Prop
def OffOk (vs : List Nat) (σ σ' : L2.St) : Prop := σ'.length = σ.length ∧ ∀ i, i ∉ vs → σ'[i]? = σ[i]?
def NLv (K : PySem.W.Frag) (G : Gh) (S : Hp) (vs : List Nat) (σ : L2.St) (k : Rho → Wd → Prop) (Q : L2.St → Hp → Prop) : Prop := ∀ G' S' H' w' ρ' σ', Ext G S G' S' → HR K G' S' w' H' → SR K G' S' σ' ρ' → OffOk vs σ σ' → k ρ' w' → Q σ' H'
def upG (K : PySem.W.Frag) (vs : List Nat) (g : GG) : TG := fun v σ H Q => ∃ G S ρ w d k, HR K G S w H ∧ SR K G S σ ρ ∧ Rep K G S v d ∧ NLv K G S vs σ k Q ∧ g d ρ w k
def upGs (K : PySem.W.Frag) (vs : List Nat) (g : GGs) : TGs := fun v σ H Q => ∃ G S ρ w d k, HR K G S w H ∧ SR K G S σ ρ ∧ RepAll K G S v d ∧ NLv K G S vs σ k Q ∧ g d ρ w k
def DG (X : Cx) (vs : List Nat) (e : Expr) (g : GG) : Prop := PG X e (upG X.K vs g)
def DGs (X : Cx) (vs : List Nat) (e : List Expr) (g : GGs) : Prop := PGs X e (upGs X.K vs g)
def ggName (i : Nat) : GG := fun d ρ w k => k (ρ.set i (some d)) w
def ggNil : GGs := fun ds ρ w k => ds = [] ∧ k ρ w
def ggCons (t : GG) (u : GGs) : GGs := fun ds ρ w k => match ds with
  | d :: r => t d ρ w fun ρ1 w1 => u r ρ1 w1 k
  | [] => False
def ggTup (n : Nat) (t : GGs) : GG := fun d ρ w k => match d with
  | .tup ds => ds.length = n ∧ t ds ρ w k
  | _ => False
section
variable {X : Cx} {E : XK} {pos : Pos}
theorem pg_imp {e : Expr} {t t' : TG} (h : PG X e t) (i : ∀ v σ H Q, t' v σ H Q → t v σ H Q) : PG X e t' := ⟨fun pins s σ H v u Q I r q => h.run pins s σ H v u Q I r (i _ _ _ _ q)⟩
theorem pgs_imp {e : List Expr} {t t' : TGs} (h : PGs X e t) (i : ∀ v σ H Q, t' v σ H Q → t v σ H Q) : PGs X e t' := ⟨fun pins s σ H v u Q I r q => h.run pins s σ H v u Q I r (i _ _ _ _ q)⟩
theorem dg_name {i : Nat} {x : Str} (hN : X.N.Nodup) (hi : X.N[i]? = some x) (hx : Loc X.env.scope x) (hf : X.fn x = true ∨ X.env.scope.names.lookup x = some .local := by first | exact .inl rfl | exact .inr rfl | assumption) : DG X [i] (.Name x pos) (ggName i) := pg_imp (pg_name hN hi hx hf) (by
  rintro v σ H Q ⟨G, S, ρ, w, d, k, hr, sr, rp, nl, h⟩
  refine nl _ _ _ _ _ _ (Ext.refl _ _) hr (sr.set rp i) ⟨by simp, fun j hj => ?_⟩ h
  rw [List.getElem?_set_ne]
  simpa using fun z => hj (by simp [z]))
theorem dgs_nil : DGs X [] [] ggNil := pgs_imp pgs_nil (by
  rintro v σ H Q ⟨G, S, ρ, w, d, k, hr, sr, rp, nl, h⟩
  obtain ⟨e, h⟩ := h
  subst e
  cases rp
  exact ⟨rfl, nl _ _ _ _ _ _ (Ext.refl _ _) hr sr ⟨rfl, fun _ _ => rfl⟩ h⟩)
theorem dgs_cons {e : Expr} {es : List Expr} {vs us : List Nat} {t : GG} {u : GGs} (h1 : DG X vs e t) (h2 : DGs X us es u)
    (hs : (assignEach (e :: es) X.env).map (·.2) = assign e X.env :: (assignEach es X.env).map (·.2) := by rfl) : DGs X (vs ++ us) (e :: es) (ggCons t u) := pgs_imp (pgs_cons h1 h2 hs) (by
  rintro v σ H Q ⟨G, S, ρ, w, d, k, hr, sr, rp, nl, h⟩
  cases rp with
  | nil => exact h.elim
  | cons r0 rr =>
    refine ⟨_, _, rfl, G, S, ρ, w, _, _, hr, sr, r0, fun G1 S1 H1 w1 ρ1 σ1 x1 hr1 sr1 off1 h1 => ⟨G1, S1, ρ1, w1, _, k, hr1, sr1, rr.mono x1, fun G2 S2 H2 w2 ρ2 σ2 x2 hr2 sr2 off2 h2 => nl _ _ _ _ _ _ (x1.trans x2) hr2 sr2 ⟨off2.1.trans off1.1, fun i hi => ?_⟩ h2, h1⟩, h⟩
    rw [List.mem_append, not_or] at hi
    exact (off2.2 i hi.2).trans (off1.2 i hi.1))
theorem dg_tup {es : List Expr} {j : Nat} {t : GGs} {vs : List Nat} {n : Nat} (hc : X.calm = true) (h : DGs X vs es t)
    (hn : (assignEach es X.env).length = n := by rfl) (hst : (assignEach es X.env).findIdx? (·.1) = none := by rfl) : DG X vs (.Tuple es j pos) (ggTup n t) := pg_imp (pg_tup hc h hn hst) (by
  rintro v σ H Q ⟨G, S, ρ, w, d, k, hr, sr, rp, nl, h⟩
  cases rp with
  | tup e r => exact ⟨_, _, rfl, (sqT_up hr.same e), by rw [r.length]; exact h.1, G, S, ρ, w, _, k, hr, sr, r, nl, h.2⟩
  | _ => exact h.elim)
def gAsg (ge : GE) (g : GG) : GS := fun F ρ w => ge ρ w F.ex fun d w1 => g d ρ w1 F.nx
theorem asg_up {K : PySem.W.Frag} {vs : List Nat} {ge : GE} {g : GG} : ∀ D σ H, upS K E (gAsg ge g) D σ H → tAsg (upE K E ge) (upG K vs g) D σ H := by
  rintro D σ H ⟨G, S, ρ, w, F, hr, sr, el, h⟩
  exact ⟨G, S, ρ, w, F.ex, _, hr, sr, el.ex, fun G1 S1 H1 w1 d v x1 hr1 rp h1 => ⟨G1, S1, ρ, w1, d, F.nx, hr1, sr.mono x1, rp, fun G2 S2 H2 w2 ρ2 σ2 x2 hr2 sr2 _ h2 => el.nx _ _ _ _ _ _ (x1.trans x2) hr2 sr2 h2, h1⟩, h⟩
theorem ds_asg {tg e : Expr} {vs : List Nat} {ge : GE} {g : GG} (he : DE X E e ge) (hg : DG X vs tg g) (hs : swapsWithSole [tg] e pos.line X.env = pure false := by rfl) (hw : swappedStores [tg] e X.env = pure none := by rfl)
    (h1 : (assignEach [tg] X.env).map (·.2) = [assign tg X.env] := by rfl) : DS X E (.Assign [tg] e pos) (gAsg ge g) := ps_imp (ps_asg he hg hs hw h1) asg_up
def gSet (i : Nat) (ge : GE) : GS := fun F ρ w => ge ρ w F.ex fun d w1 => F.nx (ρ.set i (some d)) w1
theorem set_up {K : PySem.W.Frag} {i : Nat} {ge : GE} : ∀ D σ H, upS K E (gSet i ge) D σ H → tAsg (upE K E ge) (gName i) D σ H := by
  rintro D σ H ⟨G, S, ρ, w, F, hr, sr, el, h⟩
  exact ⟨G, S, ρ, w, F.ex, _, hr, sr, el.ex, fun G1 S1 H1 w1 d v x1 hr1 rp h1 => el.nx _ _ _ _ _ _ x1 hr1 ((sr.mono x1).set rp i) h1, h⟩
theorem ds_set {i : Nat} {x : Str} {e : Expr} {ge : GE} {pos' : Pos} (hN : X.N.Nodup) (hi : X.N[i]? = some x) (hx : Loc X.env.scope x) (he : DE X E e ge) (hs : swapsWith e (some (.Name x pos')) pos.line X.env = pure false := by rfl) (hf : X.fn x = true ∨ X.env.scope.names.lookup x = some .local := by first | exact .inl rfl | exact .inr rfl | assumption) :
    DS X E (.Assign [.Name x pos'] e pos) (gSet i ge) := ps_imp (ps_set hN hi hx he hs hf) set_up
def gPar (i j : Nat) (ga : GA) : GS := fun F ρ w => ga ρ w F.ex fun ds w1 => match ds with
  | [d, e] => F.nx ((ρ.set i (some d)).set j (some e)) w1
  | _ => False
def gAug (i : Nat) (ge : GE) (f : F2) : GS := fun F ρ w => match ρ[i]? with
  | some (some d) => ge ρ w F.ex fun e w1 => f d e w1 fun z w2 => F.nx (ρ.set i (some z)) w2
  | _ => False
def iaddD : F2 := fun x y w k => match x, y with
  | .int i, .int j => k (.int (i + j)) w
  | _, _ => False
end

def whileS (t : GT) (b : GS) (F : DEnds) (P : Nat → Rho → Wd → Prop) : Prop := ∀ m ρ w, P m ρ w → t ρ w F.ex fun c w1 => if c = true then b { F with nx := fun ρ' w' => ∃ m', m' < m ∧ P m' ρ' w', ct := fun ρ' w' => ∃ m', m' < m ∧ P m' ρ' w', bk := F.nx } ρ w1 else F.nx ρ w1
def gWhile (t : GT) (b : GS) : GS := fun F ρ w => ∃ P : Nat → Rho → Wd → Prop, (∃ m, P m ρ w) ∧ whileS t b F P
section
variable {X : Cx} {E : XK} {pos : Pos}
end

abbrev GI := Rho → Wd → KX → (List D → (Wd → Prop) → Wd → Prop) → Prop
def IterOk (K : PySem.W.Frag) (J : It) (items : List D) (Ok : Wd → Prop) (G : Gh) (S : Hp) : Prop := ∀ (i : Nat) G' S' w' H', Ext G S G' S' → HR K G' S' w' H' → Ok w' →
  (∀ d, items[i]? = some d → J.go i H' ∧ ∀ x H2, J.yld i H' x H2 → ∃ G2 S2, Ext G' S' G2 S2 ∧ HR K G2 S2 w' H2 ∧ Rep K G2 S2 x d) ∧ (items.length = i → J.stop i H')
theorem IterOk.mono {K : PySem.W.Frag} {J : It} {items : List D} {Ok : Wd → Prop} {G G' : Gh} {S S' : Hp} (x : Ext G S G' S') (h : IterOk K J items Ok G S) : IterOk K J items Ok G' S' := fun i G1 S1 w1 H1 x1 => h i G1 S1 w1 H1 (x.trans x1)
def upI (K : PySem.W.Frag) (E : XK) (g : GI) : TI := fun σ H R => ∃ G S ρ w kx k, HR K G S w H ∧ SR K G S σ ρ ∧ XL K G S kx E ∧
  (∀ G' S' H' w' items Ok J, Ext G S G' S' → HR K G' S' w' H' → IterOk K J items Ok G' S' → k items Ok w' → R J H') ∧ g ρ w kx k
def DI (X : Cx) (E : XK) (tg iter : Expr) (g : GI) : Prop := PI X tg iter (upI X.K E g)
def giSeq (ge : GE) : GI := fun ρ w kx k => ge ρ w kx fun d w1 => match d with
  | .lst xs => k xs (fun _ => True) w1
  | .tup xs => k xs (fun _ => True) w1
  | .rf c => match w1.M[c]? with
    | some (.lst xs) => k xs (fun w => w.M[c]? = some (.lst xs)) w1
    | _ => False
  | _ => False
def giRange1 (ga : GA) : GI := fun ρ w kx k => ga ρ w kx fun ds w1 => match ds with
  | [.int j] => (-(2 ^ 62) ≤ j ∧ j < 2 ^ 62) ∧ k ((List.range j.toNat).map fun (i : Nat) => .int (i : Int)) (fun _ => True) w1
  | _ => False
section
variable {X : Cx} {E : XK} {tg : Expr}
theorem pi_imp {e : Expr} {t t' : TI} (h : PI X tg e t) (i : ∀ σ H R, t' σ H R → t σ H R) : PI X tg e t' := ⟨fun pins s σ H R I q => h.run pins s σ H R I (i _ _ _ q)⟩
def iSq (K : PySem.W.Frag) (tl : TE) : TI := fun σ H R => tl σ H fun x H1 => ∃ a, x = .ref a ∧ (((∃ xs, SqL K H1 a xs) ∧ R (Itl K a) H1) ∨ ((∃ xs, SqT K H1 a xs) ∧ R (Itt K a) H1))
theorem iter_rng {K : PySem.W.Frag} {G : Gh} {S : Hp} {n : Nat} : IterOk K (Itr 0 n) ((List.range n).map fun (i : Nat) => .int (i : Int)) (fun _ => True) G S := by
  intro i G1 S1 w1 H1 x1 hr1 _
  refine ⟨fun d hd => ?_, fun hl => ?_⟩
  · rw [List.getElem?_map] at hd
    cases q : (List.range n)[i]? with
    | none => rw [q] at hd; cases hd
    | some z =>
      rw [q] at hd
      have hd : D.int (z : Int) = d := by simpa using hd
      subst hd
      have hi := (List.getElem?_eq_some_iff.mp q).1
      have hz := (List.getElem?_eq_some_iff.mp q).2
      rw [List.length_range] at hi
      rw [List.getElem_range] at hz
      subst hz
      refine ⟨hi, fun x H2 y => ?_⟩
      obtain ⟨rfl, rfl⟩ := y
      rw [Int.zero_add]
      exact ⟨G1, S1, Ext.refl _ _, hr1, .int _⟩
  · rw [List.length_map, List.length_range] at hl
    exact Nat.le_of_eq hl
theorem di_range1 {a : Expr} {ga : GA} {p pos : Pos} (B : Blt X.mg) (hg : Gl X "range") (ha : DA X E [a] ga) (hs : starEach [a] X.env = [(false, eval a X.env)] := by rfl) : DI X E tg (.Call (.Name "range" p) [a] [] pos) (giRange1 ga) := pi_imp (pi_range1 hg B.range_ ha hs) (by
  rintro σ H R ⟨G, S, ρ, w, kx, k, hr, sr, xl, kl, h⟩
  refine ⟨G, S, ρ, w, kx, _, hr, sr, xl, fun G1 S1 H1 w1 ds vs x1 hr1 rp h1 => ?_, h⟩
  split at h1
  · rename_i j
    obtain ⟨v, rfl, r1⟩ := one_rep rp
    cases r1
    exact ⟨j, rfl, h1.1.1, h1.1.2, kl _ _ _ _ _ _ _ x1 hr1 iter_rng h1.2⟩
  · exact h1.elim)
end
end DL

namespace DL
open PySem PySem.Spec PyProof.Rows L2

structure ForS (gt : GG) (b : GS) (F : DEnds) (Ok : Wd → Prop) (P : List D → Rho → Wd → Prop) : Prop where
  done : ∀ ρ w, P [] ρ w → Ok w ∧ F.nx ρ w
  turn : ∀ x xs ρ w, P (x :: xs) ρ w → Ok w ∧ gt x ρ w fun ρ1 w1 => b { F with nx := P xs, ct := P xs, bk := F.nx } ρ1 w1
def gFor (gi : GI) (gt : GG) (b : GS) : GS := fun F ρ w => gi ρ w F.ex fun items Ok w1 => ∃ P : List D → Rho → Wd → Prop, P items ρ w1 ∧ ForS gt b F Ok P
def forD (gt : GG) (b : GS) (F : DEnds) (Ok : Wd → Prop) : List D → Rho → Wd → Prop
  | [], ρ, w => Ok w ∧ F.nx ρ w
  | x :: xs, ρ, w => Ok w ∧ gt x ρ w fun ρ1 w1 => b { F with nx := forD gt b F Ok xs, ct := forD gt b F Ok xs, bk := F.nx } ρ1 w1
section
variable {X : Cx} {E : XK} {pos : Pos}
theorem ds_for {tg iter : Expr} {body : List Stmt} {vs : List Nat} {gi : GI} {gt : GG} {gb : GS} (hp : PassesOwn (model X.prog X.w) X.A X.env X.xe) (hc : X.calm = true) (hi : DI X E tg iter gi) (hg : DG X vs tg gt) (hb : DSs X E body gb)
    (hs : ∀ x, foldedSetIterable iter X.env x = pure x := by intro _; rfl) : DS X E (.For tg iter body [] pos) (gFor gi gt gb) := ps_imp (ps_for hp hc hi hg hb hs) (by
  rintro D σ H ⟨G, S, ρ, w, F, hr, sr, el, h⟩
  refine ⟨G, S, ρ, w, F.ex, _, hr, sr, el.ex, fun G1 S1 H1 w1 items Ok J x1 hr1 it h1 => ?_, h⟩
  obtain ⟨P, h1, hP⟩ := h1
  refine ⟨fun i m σ' H' => m = items.length - i ∧ i ≤ items.length ∧ ∃ G' S' ρ' w', Ext G1 S1 G' S' ∧ HR X.K G' S' w' H' ∧ SR X.K G' S' σ' ρ' ∧ P (items.drop i) ρ' w', ⟨items.length, by simp, Nat.zero_le _, G1, S1, ρ, w1, Ext.refl _ _, hr1, sr.mono x1, h1⟩, ?_⟩
  rintro i m σ' H' ⟨rfl, hi, G2, S2, ρ2, w2, x2, hr2, sr2, h2⟩
  by_cases hlt : i < items.length
  · have e : items.drop i = items[i] :: items.drop (i + 1) := List.drop_eq_getElem_cons hlt
    rw [e] at h2
    obtain ⟨ok, h2⟩ := hP.turn _ _ _ _ h2
    obtain ⟨i1, _⟩ := it i G2 S2 w2 H' x2 hr2 ok
    obtain ⟨go, yld⟩ := i1 items[i] (List.getElem?_eq_getElem hlt)
    refine .inr ⟨go, fun σ3 H3 => ∃ G' S' ρ' w', Ext G1 S1 G' S' ∧ HR X.K G' S' w' H3 ∧ SR X.K G' S' σ3 ρ' ∧ P (items.drop (i + 1)) ρ' w', fun σ3 H3 h3 => ⟨items.length - (i + 1), by omega, rfl, hlt, h3⟩, fun x H3 y => ?_⟩
    obtain ⟨G3, S3, x3, hr3, rp⟩ := yld x H3 y
    refine ⟨G3, S3, ρ2, w2, items[i], _, hr3, sr2.mono x3, rp, fun G4 S4 H4 w4 ρ4 σ4 x4 hr4 sr4 _ h4 => ?_, h2⟩
    have x04 : Ext G S G4 S4 := x1.trans (x2.trans (x3.trans x4))
    refine ⟨G4, S4, ρ4, w4, { F with nx := P (items.drop (i + 1)), ct := P (items.drop (i + 1)), bk := F.nx }, hr4, sr4, ⟨?_, (el.mono x04).rt, (el.mono x04).nx, ?_, (el.mono x04).ex⟩, h4⟩
    · intro G5 S5 H5 w5 ρ5 σ5 x5 hr5 sr5 h5
      exact ⟨G5, S5, ρ5, w5, x2.trans (x3.trans (x4.trans x5)), hr5, sr5, h5⟩
    · intro G5 S5 H5 w5 ρ5 σ5 x5 hr5 sr5 h5
      exact ⟨G5, S5, ρ5, w5, x2.trans (x3.trans (x4.trans x5)), hr5, sr5, h5⟩
  · have e : i = items.length := by omega
    subst e
    rw [List.drop_length] at h2
    obtain ⟨ok, h2⟩ := hP.done _ _ h2
    obtain ⟨_, i2⟩ := it items.length G2 S2 w2 H' x2 hr2 ok
    exact .inl ⟨i2 rfl, el.nx _ _ _ _ _ _ (x1.trans x2) hr2 sr2 h2⟩)
end

def wipeR (ρ : Rho) : List Nat → Rho
  | [] => ρ
  | v :: vs => (wipeR ρ vs).set v none
def gYes : GT := fun _ w _ k => k true w
def DTs (X : Cx) (E : XK) (ifs : List Expr) (g : GT) : Prop := PTs X ifs (upT X.K E g)
structure LcS (gt : GG) (tt : GT) (ge : GE) (Ok : Wd → Prop) (ρ : Rho) (k : KD) (P : List D → List D → Wd → Prop) : Prop where
  done : ∀ acc w, P [] acc w → Ok w ∧ k (.lst acc) w
  turn : ∀ x xs acc w, P (x :: xs) acc w → Ok w ∧ gt x ρ w fun ρ1 w1 => tt ρ1 w1 noX fun b w2 => if b = true then ge ρ1 w2 noX fun y w3 => acc.length < sizeLine ∧ P xs (acc ++ [y]) w3 else P xs acc w2
def gLc (gi : GI) (gt : GG) (tt : GT) (ge : GE) (vs : List Nat) : GE := fun ρ w kx k => gi ρ w kx fun items Ok w1 => ∃ P : List D → List D → Wd → Prop, P items [] w1 ∧ LcS gt tt ge Ok (wipeR ρ vs) k P
def lcD (gt : GG) (tt : GT) (ge : GE) (Ok : Wd → Prop) (ρ : Rho) (k : KD) : List D → List D → Wd → Prop
  | [], acc, w => Ok w ∧ k (.lst acc) w
  | x :: xs, acc, w => Ok w ∧ gt x ρ w fun ρ1 w1 => tt ρ1 w1 noX fun b w2 => if b = true then ge ρ1 w2 noX fun y w3 => acc.length < sizeLine ∧ lcD gt tt ge Ok ρ k xs (acc ++ [y]) w3 else lcD gt tt ge Ok ρ k xs acc w2
section
variable {X : Cx} {E : XK} {pos : Pos}
theorem dts_nil : DTs X E [] gYes := by
  have h := pts_nil (X := X)
  refine ⟨fun pins s σ H Q I q => h.run pins s σ H Q I ?_⟩
  obtain ⟨G, S, ρ, w, kx, k, hr, sr, xl, kl, h⟩ := q
  exact kl _ _ _ _ _ (Ext.refl _ _) hr h
theorem wipe_set {σ : L2.St} {ρ : Rho} {K : PySem.W.Frag} {G : Gh} {S : Hp} (sr : SR K G S σ ρ) (v : Nat) : SR K G S (σ.set v none) (ρ.set v none) := by
  refine ⟨by simp [sr.1], fun j e hj => ?_⟩
  by_cases hi : j = v
  · subst hi
    by_cases hl : j < ρ.length
    · rw [List.getElem?_set_self hl] at hj
      cases hj
    · rw [List.getElem?_eq_none (by simpa using hl)] at hj
      cases hj
  · rw [List.getElem?_set_ne (Ne.symm hi)] at hj
    obtain ⟨u, h1, h2⟩ := sr.2 j e hj
    exact ⟨u, by rw [List.getElem?_set_ne (Ne.symm hi)]; exact h1, h2⟩
theorem wipe_sr {σ : L2.St} {ρ : Rho} {K : PySem.W.Frag} {G : Gh} {S : Hp} (sr : SR K G S σ ρ) : ∀ vs : List Nat, SR K G S (wipe σ vs) (wipeR ρ vs)
  | [] => sr
  | v :: vs => wipe_set (wipe_sr sr vs) v
theorem wipe_get {σ : L2.St} : ∀ {vs : List Nat} {i : Nat}, (wipe σ vs)[i]? = if i ∈ vs then (if i < σ.length then some none else none) else σ[i]?
  | [], i => by simp [wipe]
  | v :: vs, i => by
    unfold wipe
    rw [List.getElem?_set]
    by_cases h : v = i
    · subst h
      simp [wipe_length]
    · rw [if_neg h, wipe_get]
      have : (i ∈ v :: vs) ↔ i ∈ vs := by
        simp only [List.mem_cons]
        exact ⟨fun z => z.elim (fun z => absurd z.symm h) id, .inr⟩
      simp only [this]
theorem wipe_off {σ σ2 : L2.St} {vs us : List Nat} (hu : ∀ i ∈ us, i ∈ vs) (h : OffOk us (wipe σ vs) σ2) : wipe σ2 vs = wipe σ vs := by
  refine List.ext_getElem? fun i => ?_
  rw [wipe_get, wipe_get]
  have hl : σ2.length = σ.length := by rw [h.1, wipe_length]
  by_cases hi : i ∈ vs
  · rw [if_pos hi, if_pos hi, hl]
  · rw [if_neg hi, if_neg hi, h.2 i (fun z => hi (hu i z)), wipe_get, if_neg hi]
theorem fr_ne {K : PySem.W.Frag} {G : Gh} {S H : Hp} {w : Wd} (hr : HR K G S w H) {Dl : Addr} (hD : H Dl = none) : ∀ q ∈ G.fr, q.1 ≠ Dl := hr.freshFr hD
theorem lc_go {K : PySem.W.Frag} {gi : GI} {gt : GG} {tt : GT} {ge : GE} {vs us : List Nat} (hu : ∀ i ∈ us, i ∈ vs) : ∀ σ H Q, upE K E (gLc gi gt tt ge vs) σ H Q → tLc (upI K E gi) (upG K us gt) (upT K E0 tt) (upE K E0 ge) vs σ H Q := by
  rintro σ H Q ⟨G, S, ρ, w, kx, k, hr, sr, xl, kl, h⟩
  refine ⟨G, S, ρ, w, kx, _, hr, sr, xl, fun G1 S1 H1 w1 items Ok J x1 hr1 it h1 Dl hD => ?_, h⟩
  obtain ⟨P, h1, hP⟩ := h1
  have hfr := fr_ne hr1 hD
  have sD := hr1.freshS hD
  -- the state between turns: the list so far stands apart
  refine ⟨fun i m H' => m = items.length - i ∧ i ≤ items.length ∧ ∃ (G' : Gh) (S' : Hp) (w' : Wd) (xs : List V) (acc : List D), Ext G1 S1 ⟨G'.al, G'.st, G1.fr⟩ S' ∧ (∀ q ∈ G1.fr, q ∈ G'.fr) ∧ (Dl, HO.lst xs) ∈ G'.fr ∧ HR K G' S' w' H' ∧ RepAll K G' S' xs acc ∧ P (items.drop i) acc w', ⟨items.length, ?_⟩, ?_⟩
  · obtain ⟨hr2, x2⟩ := hr1.push (o := .lst []) hD
    refine ⟨by simp, Nat.zero_le _, ⟨G1.al, G1.st, (Dl, .lst []) :: G1.fr⟩, S1, w1, [], [], ⟨⟨[], by simp⟩, fun _ z => z, fun _ z => z, Same.refl _⟩, fun q hq => List.mem_cons_of_mem _ hq, List.mem_cons_self, hr2, .nil, h1⟩
  rintro i m H' ⟨rfl, hi, G2, S2, w2, xs, acc, x2, f2, fD, hr2, ra, h2⟩
  have x12 : Ext G1 S1 G2 S2 := ⟨x2.al, x2.st, f2, x2.same⟩
  by_cases hlt : i < items.length
  · have e : items.drop i = items[i] :: items.drop (i + 1) := List.drop_eq_getElem_cons hlt
    rw [e] at h2
    obtain ⟨ok, h2⟩ := hP.turn _ _ _ _ h2
    obtain ⟨i1, _⟩ := it i G2 S2 w2 H' x12 hr2 ok
    obtain ⟨go, yld⟩ := i1 items[i] (List.getElem?_eq_getElem hlt)
    refine .inr ⟨go, fun H3 => ∃ (G' : Gh) (S' : Hp) (w' : Wd) (xs : List V) (acc : List D), Ext G1 S1 ⟨G'.al, G'.st, G1.fr⟩ S' ∧ (∀ q ∈ G1.fr, q ∈ G'.fr) ∧ (Dl, HO.lst xs) ∈ G'.fr ∧ HR K G' S' w' H3 ∧ RepAll K G' S' xs acc ∧ P (items.drop (i + 1)) acc w', fun H3 h3 => ⟨items.length - (i + 1), by omega, rfl, hlt, h3⟩, fun x H3 y => ?_⟩
    obtain ⟨G3, S3, x3, hr3, rp⟩ := yld x H3 y
    have x13 := x12.trans x3
    refine ⟨G3, S3, wipeR ρ vs, w2, items[i], _, hr3, (wipe_sr (sr.mono x1) vs).mono x13, rp, fun G4 S4 H4 w4 ρ4 σ4 x4 hr4 sr4 off4 h4 => ⟨wipe_off hu off4, ?_⟩, h2⟩
    have x24 : Ext G2 S2 G4 S4 := x3.trans x4
    refine ⟨G4, S4, ρ4, w4, noX, _, hr4, sr4, xl_no, fun G5 S5 H5 w5 b x5 hr5 h5 => ?_, h4⟩
    have x25 := x24.trans x5
    have x15 := x12.trans x25
    cases b with
    | false => exact iteF ⟨G5, S5, w5, xs, acc, ⟨x15.al, x15.st, fun _ z => z, x15.same⟩, x15.fr, x25.fr _ fD, hr5, ra.mono x25, by simpa using h5⟩
    | true =>
      refine iteT ⟨G5, S5, ρ4, w5, noX, _, hr5, sr4.mono x5, xl_no, fun G6 S6 H6 w6 d v x6 hr6 rp6 h6 => ?_, by simpa using h5⟩
      have x26 := x25.trans x6
      have x16 := x12.trans x26
      have ra6 := ra.mono x26
      have fD6 := x26.fr _ fD
      refine ⟨xs, (hr6.fr _ fD6).2.2, by rw [ra.length]; exact h6.1, ?_⟩
      have hp := hr6.poke (o' := .lst (xs ++ [v])) (fr := G1.fr) fD6 (fun q hq => ⟨x16.fr q hq, hfr q hq⟩)
      refine ⟨⟨G6.al, G6.st, (Dl, .lst (xs ++ [v])) :: G1.fr⟩, S6, w6, xs ++ [v], acc ++ [d], ⟨x16.al, x16.st, fun _ z => z, x16.same⟩, fun q hq => List.mem_cons_of_mem _ hq, List.mem_cons_self, hp, ?_, h6.2⟩
      exact (RepAll.refr ra6).append (.cons (Rep.refr rp6) .nil)
  · have e : i = items.length := by omega
    subst e
    rw [List.drop_length] at h2
    obtain ⟨ok, h2⟩ := hP.done _ _ h2
    obtain ⟨_, i2⟩ := it items.length G2 S2 w2 H' x12 hr2 ok
    refine .inl ⟨i2 rfl, ?_⟩
    -- the list is put among what stays
    obtain ⟨z1, z2, z3⟩ := hr2.fr _ fD
    have x3 : Ext G2 S2 G2 (upd S2 Dl (.lst xs)) := ⟨⟨[], by simp⟩, fun _ z => z, fun _ z => z, fun b u e => by rw [upd_ne (ne_of_none e z1)]; exact e⟩
    have x3' : Ext G1 S1 ⟨G2.al, G2.st, G1.fr⟩ (upd S2 Dl (.lst xs)) := ⟨x2.al, x2.st, fun _ z => z, fun b u e => x3.same _ _ (x2.same _ _ e)⟩
    refine kl _ _ _ _ _ _ (x1.trans x3') ⟨fun b u e => ?_, hr2.len, hr2.nod, fun j b c' f1 f2 => ?_, ⟨hr2.st.1, fun b c' e => ?_⟩, fun q hq => ?_⟩ (.lst upd_same (RepAll.refr (ra.mono x3))) h2
    · by_cases hb : b = Dl
      · subst hb
        rw [upd_same] at e
        cases e
        exact z3
      · rw [upd_ne hb] at e
        exact hr2.same _ _ e
    · have ne : b ≠ Dl := fun z => z2 (z ▸ List.mem_of_getElem? f1)
      have q := hr2.cell j b c' f1 f2
      have q2 := q.mono (H' := H') x3 rfl (by rw [upd_ne ne]; exact q.sNone)
      cases c' with
      | dead => exact q2
      | exc C => exact q2
      | exf C fs =>
        obtain ⟨n0, dx, gs, e3, e4, r⟩ := q2
        exact ⟨n0, dx, gs, e3, e4, Paired.mapP r fun p q z => ⟨z.1, Rep.refr z.2⟩⟩
      | tbl P q => exact q2
      | lk o ks kvs =>
        obtain ⟨n0, e3, r⟩ := q2
        exact ⟨n0, e3, Paired.mapP r fun p q z => ⟨z.1, Rep.refr z.2⟩⟩
      | lst ds =>
        obtain ⟨n0, ys, e3, r⟩ := q2
        exact ⟨n0, ys, e3, RepAll.refr r⟩
      | dk ds =>
        obtain ⟨n0, ys, e3, r⟩ := q2
        exact ⟨n0, ys, e3, Paired.mapP r fun p q z => ⟨z.1, Rep.refr z.2⟩⟩
      | ins C ds =>
        obtain ⟨n0, dx, ys, e3, r⟩ := q2
        exact ⟨n0, dx, ys, e3, Paired.mapP r fun p q z => ⟨z.1, Rep.refr z.2⟩⟩
    · obtain ⟨y1, y2, y3, y4, y5, y6, y7⟩ := hr2.st.2 b c' e
      obtain ⟨n1, n2⟩ := y6 _ fD
      exact ⟨by rw [upd_ne (Ne.symm n1)]; exact y1, by rw [upd_ne (Ne.symm n2)]; exact y2, y3, y4, y5, fun q hq => y6 q (f2 q hq), y7⟩
    · obtain ⟨y1, y2, y3⟩ := hr2.fr q (f2 q hq)
      exact ⟨by rw [upd_ne (hfr q hq)]; exact y1, y2, y3⟩
theorem de_lc {elt tg iter : Expr} {ifs : List Expr} {scope : Scope} {own : List (Str × Nat)} {us : List Nat} {gi : GI} {gt : GG} {tt : GT} {ge : GE} (hc : X.calm = true) (hN : X.N.Nodup) (hi : DI X E tg iter gi) (ok : BlkOk X.N X.env.scope scope own) (hu : ∀ i ∈ us, i ∈ own.map (·.2))
    (hg : ∀ (s : Shared) (H : Hp) (C : Addr) (cl : List (Str × Addr)) (fp : List Addr), DG (X.blk s H scope (compEnvC scope cl C X.env) fp) us tg gt) (ht : ∀ (s : Shared) (H : Hp) (C : Addr) (cl : List (Str × Addr)) (fp : List Addr), DTs (X.blk s H scope (compEnvC scope cl C X.env) fp) E0 ifs tt)
    (he : ∀ (s : Shared) (H : Hp) (C : Addr) (cl : List (Str × Addr)) (fp : List Addr), DE (X.blk s H scope (compEnvC scope cl C X.env) fp) E0 elt ge) (hs : ∀ x, foldedSetIterable iter X.env x = pure x := by intro _; rfl) :
    DE X E (.ListComp elt [⟨tg, iter, ifs, 0⟩] scope pos) (gLc gi gt tt ge (own.map (·.2))) := pe_imp (pe_lc (g := upG X.K us gt) (tt := upT X.K E0 tt) (te := upE X.K E0 ge) hc hN hi ok hg ht he hs) (lc_go hu)
end
end DL

namespace DL
open PySem PySem.Spec PyProof.Rows L2

section
variable {K : PySem.W.Frag} {G : Gh} {S H : Hp} {w : Wd}
theorem hr_start : HR K ⟨[], none, []⟩ H ⟨[], none⟩ H := ⟨Same.refl H, rfl, List.nodup_nil, fun i a c e => (nomatch e), ⟨fun _ => rfl, fun a c e => (nomatch e)⟩, fun p hp => (nomatch hp)⟩
def gLaw : GF := fun ds w _ k => ∃ ns : List Int, ds = [.scr ns] ∧ ns.length ≤ 63 ∧ w = ⟨[], none⟩ ∧ ∀ w', k (.bl true) w'
theorem law_start {a : Addr} {ns : List Int} (hl : ns.length ≤ 63) (hS : SqL K H a (ns.map V.int)) : upF 1 K gLaw [.ref a] H (fun v _ => v = .bl true) fun _ _ _ => False :=
  ⟨⟨[], none, []⟩, H, [.scr ns], ⟨[], none⟩, noX, fun d _ => d = .bl true, rfl, hr_start, .cons (.scr hS) .nil, xl_no, fun _ _ _ _ d v _ _ r e => by
    subst e
    cases r
    rfl, ns, rfl, hl, rfl, fun _ => rfl⟩
def stKv (c : Addr) (t : Int) : List (Key × V) := [(.inr "cells", .ref c), (.inr "turn", .int t)]
theorem st_cells (c : Addr) (t : Int) : valV (stKv c t) (.inr "cells") = some (.ref c) := valV_pos rfl
theorem key_ne : ¬ ((Sum.inr ("cells" : Str) : Key) = Sum.inr ("turn" : Str)) := by decide +kernel
theorem st_turn (c : Addr) (t : Int) : valV (stKv c t) (.inr "turn") = some (.int t) := by
  unfold stKv
  rw [valV_neg key_ne, valV_pos rfl]
theorem st_put (c : Addr) (t u : Int) : putK (stKv c t) (.inr "turn") (.int u) = stKv c u := by
  have e : ((stKv c t).any fun kv => decide (kv.1 = (Sum.inr ("turn" : Str) : Key))) = true := by
    rw [valV_any, st_turn]
    rfl
  unfold putK
  rw [if_pos e]
  show [if (Sum.inr ("cells" : Str) : Key) = Sum.inr ("turn" : Str) then ((Sum.inr ("cells" : Str) : Key), V.int u) else (Sum.inr ("cells" : Str), V.ref c), if (Sum.inr ("turn" : Str) : Key) = Sum.inr ("turn" : Str) then ((Sum.inr ("turn" : Str) : Key), V.int u) else (Sum.inr ("turn" : Str), V.int t)] = stKv c u
  rw [if_neg key_ne, if_pos rfl]
  rfl
theorem HR.drawn (h : HR K G S w H) {a c : Addr} {n' : Nat} {cells : List Int} {turn : Int} {H' : Hp} (e : G.st = some (a, c)) (he : ∀ b, b ≠ a → b ≠ c → H' b = H b) (h1 : H' a = some (.dK (stKv c turn))) (h2 : H' c = some (.lst (cells.map V.int)))
    (h3 : cells ≠ []) (h4 : cells.length ≤ 63) (h5 : 0 ≤ turn) (h6 : turn + (n' : Nat) ≤ 1000000000) : HR K G S ⟨w.M, some n'⟩ H' := by
  obtain ⟨z1, z2, z3, z4, z5, z6, _⟩ := h.st.2 a c e
  refine ⟨fun b u q => ?_, h.len, h.nod, fun i b cc e1 e2 => ?_, ⟨fun z => (nomatch z), fun a' c' e' => ?_⟩, fun q hq => ?_⟩
  · rw [he b (ne_of_none q z1) (ne_of_none q z2)]
    exact h.same _ _ q
  · have q := h.cell i b cc e1 e2
    exact q.mono (Ext.refl _ _) (he b (fun z => z4 (z ▸ List.mem_of_getElem? e1)) (fun z => z5 (z ▸ List.mem_of_getElem? e1))) q.sNone
  · rw [e] at e'
    cases e'
    exact ⟨z1, z2, z3, z4, z5, z6, cells, turn, h1, h2, h3, h4, h5, h6⟩
  · obtain ⟨y1, y2, y3⟩ := h.fr q hq
    exact ⟨y1, y2, by rw [he _ (z6 q hq).1 (z6 q hq).2]; exact y3⟩
theorem HR.made (h : HR K G S w H) (hn : w.n = none) {c a : Addr} {cells : List Int} (hc : H c = some (.lst (cells.map V.int))) (nc : S c = none ∧ c ∉ G.al ∧ ∀ p ∈ G.fr, p.1 ≠ c) (ha : H a = some (.dK (stKv c 0))) (na : S a = none ∧ a ∉ G.al ∧ ∀ p ∈ G.fr, p.1 ≠ a) (hac : a ≠ c)
    (h3 : cells ≠ []) (h4 : cells.length ≤ 63) : HR K ⟨G.al, some (a, c), G.fr⟩ S ⟨w.M, some 1000000000⟩ H ∧ Ext G S ⟨G.al, some (a, c), G.fr⟩ S := by
  have x : Ext G S ⟨G.al, some (a, c), G.fr⟩ S := ⟨⟨[], by simp⟩, fun p z => (by rw [h.st.1 hn] at z; cases z), fun _ z => z, Same.refl S⟩
  refine ⟨⟨h.same, h.len, h.nod, fun i b cc e1 e2 => ?_, ⟨fun z => (nomatch z), fun a' c' e' => ?_⟩, h.fr⟩, x⟩
  · have q := h.cell i b cc e1 e2
    exact q.mono x rfl q.sNone
  · cases e'
    exact ⟨na.1, nc.1, hac, na.2.1, nc.2.1, fun p hp => ⟨na.2.2 p hp, nc.2.2 p hp⟩, cells, 0, ha, hc, h3, h4, by omega, by simp⟩
end
theorem lay_ints : ∀ l : List Int, PyData.canLayAll0 (l.map PyData.int) = true ∧ PyData.depthAll (l.map PyData.int) = 0
  | [] => ⟨rfl, rfl⟩
  | x :: r => by
    obtain ⟨h1, h2⟩ := lay_ints r
    refine ⟨?_, ?_⟩
    · simp [PyData.canLayAll0, PyData.canLay0, h1]
    · simp [PyData.depthAll, PyData.depth, h2]
theorem shaped_ints (l : List Int) : SeqAt.shaped (.list (l.map PyData.int)) = true := by
  obtain ⟨h1, h2⟩ := lay_ints l
  unfold SeqAt.shaped
  simp [PyData.canLay0, PyData.depth, h1, h2]
def gTake : GF := fun ds w _ k => ∃ (m : Int) (n : Nat), ds = [.st, .int m] ∧ (0 < m ∧ m.natAbs.log2 < 9000) ∧ w.n = some (n + 1) ∧ ∀ r, 0 ≤ r → r < m → k (.int r) ⟨w.M, some n⟩
def gBegin : GF := fun ds w _ k => ∃ ns : List Int, ds = [.scr ns] ∧ w.n = none ∧ k .st ⟨w.M, some 1000000000⟩
end DL

namespace DL
open PySem PySem.Spec PyProof.Rows L2
section
variable {w : Wd} {k : KD} {kb : KB} {i j : Int} {s t : Str} {b : Bool} {xs ys : List D} {d e : D} {n : String}
theorem addD_i : addD (.int i) (.int j) w k = k (.int (i + j)) w := rfl
theorem addD_s : addD (.str s) (.str t) w k = (s.length + t.length ≤ sizeLine ∧ k (.str (s ++ t)) w) := rfl
theorem addD_l : addD (.lst xs) (.lst ys) w k = (xs.length + ys.length ≤ sizeLine ∧ k (.lst (xs ++ ys)) w) := rfl
theorem addD_t : addD (.tup xs) (.tup ys) w k = (xs ≠ [] ∧ xs.length + ys.length ≤ sizeLine ∧ k (.tup (xs ++ ys)) w) := rfl
theorem subD_i : subD (.int i) (.int j) w k = k (.int (i - j)) w := rfl
theorem mulD_i : mulD (.int i) (.int j) w k = (CMulX i j ∧ k (.int (i * j)) w) := rfl
theorem mulD_l : mulD (.lst xs) (.int j) w k = (-(2 ^ 63) ≤ j ∧ j < 2 ^ 63 ∧ xs.length * j.toNat ≤ sizeLine ∧ k (.lst (List.replicate j.toNat xs).flatten) w) := rfl
theorem fdivD_i : fdivD (.int i) (.int j) w k = ((j ≠ 0 ∧ j.natAbs.log2 < 9000) ∧ k (.int (i.fdiv j)) w) := rfl
theorem modD_i : modD (.int i) (.int j) w k = (j ≠ 0 ∧ k (.int (i.fmod j)) w) := rfl
theorem powD_i : powD (.int i) (.int j) w k = (CPow i j ∧ k (.int (i ^ j.toNat)) w) := rfl
theorem ltD_i : ltD (.int i) (.int j) w k = k (.bl (decide (i < j))) w := rfl
theorem ltD_s : ltD (.str s) (.str t) w k = k (.bl (decide (s.cps.toList < t.cps.toList))) w := rfl
theorem leD_i : leD (.int i) (.int j) w k = k (.bl (decide (i ≤ j))) w := rfl
theorem gtD_i : gtD (.int i) (.int j) w k = k (.bl (decide (j < i))) w := rfl
theorem geD_i : geD (.int i) (.int j) w k = k (.bl (decide (j ≤ i))) w := rfl
theorem isD_n : isD d .non w k = k (.bl (isNonD d)) w := rfl
theorem isnotD_n : isnotD d .non w k = k (.bl (!isNonD d)) w := rfl
theorem isNonD_non : isNonD .non = true := rfl
theorem isNonD_bl : isNonD (.bl b) = false := rfl
theorem isNonD_int : isNonD (.int i) = false := rfl
theorem isNonD_str : isNonD (.str s) = false := rfl
theorem isNonD_lst : isNonD (.lst xs) = false := rfl
theorem isNonD_tup : isNonD (.tup xs) = false := rfl
theorem negD_i : negD (.int i) w k = k (.int (-i)) w := rfl
theorem iaddD_i : iaddD (.int i) (.int j) w k = k (.int (i + j)) w := rfl
theorem truD_non : truD .non w kb = kb false w := rfl
theorem truD_bl : truD (.bl b) w kb = kb b w := rfl
theorem truD_int : truD (.int i) w kb = kb (i != 0) w := rfl
theorem truD_str : truD (.str s) w kb = (s.length ≤ sizeLine ∧ kb ((s.length : Int) != 0) w) := rfl
theorem truD_lst : truD (.lst xs) w kb = kb (!xs.isEmpty) w := rfl
theorem truD_tup : truD (.tup xs) w kb = kb (!xs.isEmpty) w := rfl
def someK (o : Option D) (f : D → Prop) : Prop := match o with
  | some d => f d
  | none => False
theorem someK_some {f : D → Prop} : someK (some d) f = f d := rfl
theorem ixD_l : ixD (.lst xs) (.int i) w k = someK (atI xs i) (fun d => k d w) := rfl
theorem ixD_t : ixD (.tup xs) (.int i) w k = someK (atI xs i) (fun d => k d w) := rfl
theorem fAbs_i : fAbs [.int i] w k = k (.int i.natAbs) w := rfl
theorem fInt_i : fInt [.int i] w k = k (.int i) w := rfl
theorem fInt_b : fInt [.bl b] w k = k (.int (if b then 1 else 0)) w := rfl
theorem fMin2_i : fMin2 [.int i, .int j] w k = k (.int (if j < i then j else i)) w := rfl
theorem fLen_l : fLen [.lst xs] w k = k (.int xs.length) w := rfl
theorem fLen_t : fLen [.tup xs] w k = k (.int xs.length) w := rfl
theorem fLen_s : fLen [.str s] w k = (s.length ≤ sizeLine ∧ k (.int s.length) w) := rfl
theorem fList_l : fList [.lst xs] w k = k (.lst xs) w := rfl
theorem fList_t : fList [.tup xs] w k = k (.lst xs) w := rfl
theorem fTuple_l : fTuple [.lst xs] w k = k (.tup xs) w := rfl
theorem fTuple_t : fTuple [.tup xs] w k = k (.tup xs) w := rfl
def optBK (o : Option Bool) (f : Bool → Prop) : Prop := match o with
  | some d => f d
  | none => False
theorem optBK_some {f : Bool → Prop} : optBK (some b) f = f b := rfl
theorem fIsi_non : fIsi [.non, .ob (.ty n)] w k = optBK (kitB "NoneType" n) (fun b => k (.bl b) w) := rfl
theorem fIsi_bl : fIsi [.bl b, .ob (.ty n)] w k = optBK (kitB "bool" n) (fun b => k (.bl b) w) := rfl
theorem fIsi_int : fIsi [.int i, .ob (.ty n)] w k = optBK (kitB "int" n) (fun b => k (.bl b) w) := rfl
theorem fIsi_str : fIsi [.str s, .ob (.ty n)] w k = optBK (kitB "str" n) (fun b => k (.bl b) w) := rfl
theorem fIsi_lst : fIsi [.lst xs, .ob (.ty n)] w k = optBK (kitB "list" n) (fun b => k (.bl b) w) := rfl
theorem fIsi_tup : fIsi [.tup xs, .ob (.ty n)] w k = optBK (kitB "tuple" n) (fun b => k (.bl b) w) := rfl
theorem allBl_map (l : List Bool) : allBl (l.map D.bl) = some l := by
  induction l with
  | nil => rfl
  | cons x r ih =>
    rw [List.map_cons]
    unfold allBl
    rw [ih]
theorem fAll_m (l : List Bool) : fAll [.lst (l.map D.bl)] w k = k (.bl (l.all id)) w := by
  unfold fAll
  simp only [allBl_map]
end
theorem ggTup2 {a b : D} {t : GGs} {r : Rho} {w : Wd} {k : Rho → Wd → Prop} : DL.ggTup 2 t (.tup [a, b]) r w k = t [a, b] r w k := by
  show (2 = 2 ∧ t [a, b] r w k) = _
  simp
theorem ggTup3 {a b c : D} {t : GGs} {r : Rho} {w : Wd} {k : Rho → Wd → Prop} : DL.ggTup 3 t (.tup [a, b, c]) r w k = t [a, b, c] r w k := by
  show (3 = 3 ∧ t [a, b, c] r w k) = _
  simp
theorem ggNil0 {r : Rho} {w : Wd} {k : Rho → Wd → Prop} : DL.ggNil [] r w k = k r w := by
  show ([] = [] ∧ k r w) = _
  simp
theorem ggCons1 {d : D} {ds : List D} {t : GG} {u : GGs} {r : Rho} {w : Wd} {k : Rho → Wd → Prop} : DL.ggCons t u (d :: ds) r w k = t d r w fun r1 w1 => u ds r1 w1 k := rfl
section
variable {w : Wd} {k : KD} {i j a b c d : Int} {s t : Str}
theorem eqD_i : eqD (.int i) (.int j) w k = k (.bl (decide (i = j))) w := by
  simp [eqD, eqD0, toPD, SeqAt.shaped, PyData.canLay0, PyData.depth, PyData.eqv, Bool.beq_eq_decide_eq]
theorem neD_i : neD (.int i) (.int j) w k = k (.bl (!decide (i = j))) w := by
  simp [neD, neD0, toPD, SeqAt.shaped, PyData.canLay0, PyData.depth, PyData.eqv, Bool.beq_eq_decide_eq]
theorem eqD_s : eqD (.str s) (.str t) w k = k (.bl (decide (s = t))) w := rfl
theorem neD_s : neD (.str s) (.str t) w k = k (.bl (!decide (s = t))) w := rfl
theorem eqD_b {p q : Bool} : eqD (.bl p) (.bl q) w k = k (.bl (decide (p = q))) w := by
  simp [eqD, eqD0, toPD, SeqAt.shaped, PyData.canLay0, PyData.depth, PyData.eqv, Bool.beq_eq_decide_eq]
theorem neD_b {p q : Bool} : neD (.bl p) (.bl q) w k = k (.bl (!decide (p = q))) w := by
  simp [neD, neD0, toPD, SeqAt.shaped, PyData.canLay0, PyData.depth, PyData.eqv, Bool.beq_eq_decide_eq]
theorem eqD_f : eqD (.tup [.int a, .int b]) (.tup [.int c, .int d]) w k = k (.bl (decide (a = c ∧ b = d))) w := by
  simp [eqD, eqD0, toPD, toPDs, SeqAt.shaped, PyData.canLay0, PyData.canLayAll0, PyData.depth, PyData.depthAll, PyData.eqv, PyData.eqvAll, Bool.beq_eq_decide_eq]
theorem neD_f : neD (.tup [.int a, .int b]) (.tup [.int c, .int d]) w k = k (.bl (!decide (a = c ∧ b = d))) w := by
  simp [neD, neD0, toPD, toPDs, SeqAt.shaped, PyData.canLay0, PyData.canLayAll0, PyData.depth, PyData.depthAll, PyData.eqv, PyData.eqvAll, Bool.beq_eq_decide_eq]
end
theorem nc0 : ((0 : Nat) : Int) = 0 := rfl
theorem nc1 : ((1 : Nat) : Int) = 1 := rfl
theorem nc2 : ((2 : Nat) : Int) = 2 := rfl
theorem nc3 : ((3 : Nat) : Int) = 3 := rfl
theorem nc4 : ((4 : Nat) : Int) = 4 := rfl
theorem nc5 : ((5 : Nat) : Int) = 5 := rfl
theorem nc6 : ((6 : Nat) : Int) = 6 := rfl
theorem nc7 : ((7 : Nat) : Int) = 7 := rfl
theorem nc8 : ((8 : Nat) : Int) = 8 := rfl
theorem nc9 : ((9 : Nat) : Int) = 9 := rfl
theorem at_nat {α : Type} {xs : List α} {r : Int} (h0 : 0 ≤ r) (h1 : r < xs.length) : atI xs r = xs[r.toNat]? := by
  unfold atI ixN
  rw [if_pos h0, if_pos h1]
  rfl
theorem at_0 {α : Type} {x : α} {xs : List α} : atI (x :: xs) 0 = some x := by
  rw [at_nat (by decide) (by simp)]
  rfl
theorem at_1 {α : Type} {x y : α} {xs : List α} : atI (x :: y :: xs) 1 = some y := by
  rw [at_nat (by decide) (by simp; omega)]
  rfl
theorem at_2 {α : Type} {x y z : α} {xs : List α} : atI (x :: y :: z :: xs) 2 = some z := by
  rw [at_nat (by decide) (by simp; omega)]
  rfl
theorem at_some {α : Type} {xs : List α} {r : Int} (h0 : 0 ≤ r) (h1 : r < xs.length) : ∃ x, x ∈ xs ∧ atI xs r = some x := by
  rw [at_nat h0 h1]
  have : r.toNat < xs.length := by omega
  exact ⟨xs[r.toNat], List.getElem_mem this, List.getElem?_eq_getElem this⟩
theorem ix_all {xs : List D} {r : Int} {w : Wd} {k : KD} (Pd : D → Prop) (h0 : 0 ≤ r) (h1 : r < xs.length) (hP : ∀ x ∈ xs, Pd x) (hk : ∀ x, Pd x → k x w) : ixD (.lst xs) (.int r) w k := by
  obtain ⟨x, hx, e⟩ := at_some h0 h1
  rw [ixD_l, e]
  exact hk x (hP x hx)
theorem all_nil {α : Type} {Pd : α → Prop} : ∀ x ∈ ([] : List α), Pd x := fun _ h => nomatch h
theorem all_cons {α : Type} {Pd : α → Prop} {y : α} {ys : List α} (h : Pd y) (hs : ∀ x ∈ ys, Pd x) : ∀ x ∈ y :: ys, Pd x := List.forall_mem_cons.mpr ⟨h, hs⟩
theorem take_use {w : Wd} {m : Int} {c : Nat} {kx : KX} {k : KD} (n : Nat) (hn : w.n = some c) (hc : n + 1 ≤ c) (hm : 0 < m ∧ m.natAbs.log2 < 9000) (h : ∀ r c', 0 ≤ r → r < m → n ≤ c' → k (.int r) ⟨w.M, some c'⟩) : gTake [.st, .int m] w kx k :=
  ⟨m, c - 1, rfl, hm, by rw [hn]; congr 1; omega, fun r h0 h1 => h r _ h0 h1 (by omega)⟩
theorem log_of {m : Nat} (h : m < 2 ^ 200) : m.log2 < 9000 := Nat.lt_trans (PySem.Flt.log2_lt_of (by decide) h) (by decide)
theorem range_len {n : Nat} : ((List.range n).map fun (i : Nat) => D.int (i : Int)).length = n := by simp
end DL

namespace DL
open PySem PySem.Spec PyProof.Rows L2 RZ

def zipD (xs ys : List D) : List D := List.zipWith (fun x y => .tup [x, y]) xs ys
def giZip (ga : GA) : GI := fun ρ w kx k => ga ρ w kx fun ds w1 => match ds with
  | [.lst xs, .lst ys] => k (zipD xs ys) (fun _ => True) w1
  | [.tup xs, .tup ys] => k (zipD xs ys) (fun _ => True) w1
  | [.rf i, .lst ys] => match w1.M[i]? with
    | some (.lst xs) => k (zipD xs ys) (fun w => w.M[i]? = some (.lst xs)) w1
    | _ => False
  | _ => False
theorem zip_get {xs ys : List D} {i : Nat} {d : D} (h : (zipD xs ys)[i]? = some d) : ∃ x y, xs[i]? = some x ∧ ys[i]? = some y ∧ d = .tup [x, y] := by
  unfold zipD at h
  rw [List.getElem?_zipWith] at h
  cases h1 : xs[i]? with
  | none => rw [h1] at h; cases h
  | some x =>
    cases h2 : ys[i]? with
    | none => rw [h1, h2] at h; cases h
    | some y =>
      rw [h1, h2] at h
      exact ⟨x, y, rfl, rfl, (Option.some.inj h).symm⟩
theorem zip_len {xs ys : List D} {i : Nat} (h : (zipD xs ys).length = i) : xs.length ≤ i ∨ ys.length ≤ i := by
  unfold zipD at h
  rw [List.length_zipWith] at h
  omega
section
variable {X : Cx} {E : XK}
theorem zip_new {K : PySem.W.Frag} {G : Gh} {S H : Hp} {w : Wd} {x y : V} {d e : D} {T : Addr} (hr : HR K G S w H) (hT : H T = none) (r1 : Rep K G S x d) (r2 : Rep K G S y e) :
    ∃ G2 S2, Ext G S G2 S2 ∧ HR K G2 S2 w (upd H T (.tup [x, y])) ∧ Rep K G2 S2 (.ref T) (.tup [d, e]) := by
  obtain ⟨h1, x1⟩ := hr.newS hT (.tup [x, y])
  exact ⟨G, _, x1, h1, .tup (.inl (.inl upd_same)) ((RepAll.cons r1 (.cons r2 .nil)).mono x1)⟩
theorem iter_zipL {K : PySem.W.Frag} {G : Gh} {S : Hp} {a b : Addr} {xs ys : List V} {ds es : List D} (e1 : S a = some (.lst xs)) (e2 : S b = some (.lst ys)) (r1 : RepAll K G S xs ds) (r2 : RepAll K G S ys es) : IterOk K (Itz K a b) (zipD ds es) (fun _ => True) G S := by
  intro i G1 S1 w1 H1 x1 hr1 _
  have q1 : SqL K H1 a xs := .inl (.inl (hr1.same _ _ (x1.same _ _ e1)))
  have q2 : SqL K H1 b ys := .inl (.inl (hr1.same _ _ (x1.same _ _ e2)))
  refine ⟨fun d hd => ?_, fun hl => ⟨xs, ys, q1, q2, by rw [r1.length, r2.length]; exact zip_len hl⟩⟩
  obtain ⟨d1, d2, g1, g2, rfl⟩ := zip_get hd
  obtain ⟨v1, h1, h2⟩ := r1.get g1
  obtain ⟨v2, h3, h4⟩ := r2.get g2
  refine ⟨⟨xs, ys, v1, v2, q1, q2, h1, h3⟩, fun x H2 y => ?_⟩
  obtain ⟨T, u1, u2, rfl, hT, rfl, y1, y2⟩ := y
  have z1 := y1 xs q1
  have z2 := y2 ys q2
  rw [h1] at z1
  rw [h3] at z2
  cases z1
  cases z2
  exact zip_new hr1 hT (h2.mono x1) (h4.mono x1)
theorem iter_zipT {K : PySem.W.Frag} {G : Gh} {S : Hp} {a b : Addr} {xs ys : List V} {ds es : List D} (e1 : SqT K S a xs) (e2 : SqT K S b ys) (r1 : RepAll K G S xs ds) (r2 : RepAll K G S ys es) : IterOk K (ItzT K a b) (zipD ds es) (fun _ => True) G S := by
  intro i G1 S1 w1 H1 x1 hr1 _
  have q1 : SqT K H1 a xs := sqT_up hr1.same (sqT_up x1.same e1)
  have q2 : SqT K H1 b ys := sqT_up hr1.same (sqT_up x1.same e2)
  refine ⟨fun d hd => ?_, fun hl => ⟨xs, ys, q1, q2, by rw [r1.length, r2.length]; exact zip_len hl⟩⟩
  obtain ⟨d1, d2, g1, g2, rfl⟩ := zip_get hd
  obtain ⟨v1, h1, h2⟩ := r1.get g1
  obtain ⟨v2, h3, h4⟩ := r2.get g2
  refine ⟨⟨xs, ys, v1, v2, q1, q2, h1, h3⟩, fun x H2 y => ?_⟩
  obtain ⟨T, u1, u2, rfl, hT, rfl, y1, y2⟩ := y
  have z1 := y1 xs q1
  have z2 := y2 ys q2
  rw [h1] at z1
  rw [h3] at z2
  cases z1
  cases z2
  exact zip_new hr1 hT (h2.mono x1) (h4.mono x1)
theorem iter_zipC {K : PySem.W.Frag} {G : Gh} {S : Hp} {a b : Addr} {i : Nat} {ys : List V} {ds es : List D} (e1 : G.al[i]? = some a) (e2 : S b = some (.lst ys)) (r2 : RepAll K G S ys es) : IterOk K (Itz K a b) (zipD ds es) (fun w => w.M[i]? = some (.lst ds)) G S := by
  intro j G1 S1 w1 H1 x1 hr1 ok
  obtain ⟨_, xs, h1, r1⟩ := hr1.cell i a _ (x1.alGet e1) ok
  have q1 : SqL K H1 a xs := .inl (.inl h1)
  have q2 : SqL K H1 b ys := .inl (.inl (hr1.same _ _ (x1.same _ _ e2)))
  refine ⟨fun d hd => ?_, fun hl => ⟨xs, ys, q1, q2, by rw [r1.length, r2.length]; exact zip_len hl⟩⟩
  obtain ⟨d1, d2, g1, g2, rfl⟩ := zip_get hd
  obtain ⟨v1, h1, h2⟩ := r1.get g1
  obtain ⟨v2, h3, h4⟩ := r2.get g2
  refine ⟨⟨xs, ys, v1, v2, q1, q2, h1, h3⟩, fun x H2 y => ?_⟩
  obtain ⟨T, u1, u2, rfl, hT, rfl, y1, y2⟩ := y
  have z1 := y1 xs q1
  have z2 := y2 ys q2
  rw [h1] at z1
  rw [h3] at z2
  cases z1
  cases z2
  exact zip_new hr1 hT h2 (h4.mono x1)
theorem di_zip {e e2 : Expr} {ga : GA} {p pos tpos : Pos} {elts : List Expr} {kk : Nat} (B : Blt X.mg) (hg : Gl X "zip") (ha : DA X E [e, e2] ga)
    (hs : starEach [e, e2] X.env = (false, eval e X.env) :: starEach [e2] X.env := by rfl) (hpl : (backTo pos (starEach [e2] X.env)).any (·.1) = false := by rfl) :
    DI X E (.Tuple elts kk tpos) (.Call (.Name "zip" p) [e, e2] [] pos) (giZip ga) := pi_imp (pi_zipA hg B.zip_ ha hs hpl) (by
  rintro σ H R ⟨G, S, ρ, w, kx, k, hr, sr, xl, kl, h⟩
  refine ⟨G, S, ρ, w, kx, _, hr, sr, xl, fun G1 S1 H1 w1 ds vs x1 hr1 rp h1 => ?_, h⟩
  split at h1
  · obtain ⟨v, u, rfl, r1, r2⟩ := two_rep rp
    cases r1 with
    | lst e1 q1 => cases r2 with
      | lst e2 q2 => exact ⟨_, _, _, _, rfl, .inl ⟨.inl (.inl (hr1.same _ _ e1)), .inl (.inl (hr1.same _ _ e2)), kl _ _ _ _ _ _ _ x1 hr1 (iter_zipL e1 e2 q1 q2) h1⟩⟩
  · obtain ⟨v, u, rfl, r1, r2⟩ := two_rep rp
    cases r1 with
    | tup e1 q1 => cases r2 with
      | tup e2 q2 => exact ⟨_, _, _, _, rfl, .inr ⟨(sqT_up hr1.same e1), (sqT_up hr1.same e2), kl _ _ _ _ _ _ _ x1 hr1 (iter_zipT e1 e2 q1 q2) h1⟩⟩
  · obtain ⟨v, u, rfl, r1, r2⟩ := two_rep rp
    split at h1
    · rename_i em
      cases r1 with
      | rf e1 => cases r2 with
        | lst e2 q2 =>
          obtain ⟨_, xs, g1, g2⟩ := hr1.cell _ _ _ e1 em
          exact ⟨_, _, _, _, rfl, .inl ⟨.inl (.inl g1), .inl (.inl (hr1.same _ _ e2)), kl _ _ _ _ _ _ _ x1 hr1 (iter_zipC e1 e2 q2) h1⟩⟩
    · exact h1.elim
  · exact h1.elim)
end

def gRevL (g : GE) : GE := fun ρ w kx k => g ρ w kx fun x w1 => match x with
  | .lst xs => k (.lst xs.reverse) w1
  | _ => False
theorem paired_snoc {α β : Type} {R : α → β → Prop} {x : α} {y : β} (h : R x y) : ∀ {xs : List α} {ys : List β}, Paired R xs ys → Paired R (xs ++ [x]) (ys ++ [y])
  | _, _, .nil => .cons h .nil
  | _, _, .cons r t => .cons r (paired_snoc h t)
theorem lc_rel {gt : GG} {ge : GE} {Ok : Wd → Prop} {ρ : Rho} {k : KD} {items : List D} {w : Wd} (R : D → D → Prop) (hOk : Ok w) (hl : items.length ≤ 100000) (h : ∀ x, x ∈ items → ∀ k' : KD, (∀ y, R x y → k' y w) → gt x ρ w fun ρ1 w1 => ge ρ1 w1 noX k')
    (hk : ∀ ys, Paired R items ys → k (.lst ys) w) : ∃ P : List D → List D → Wd → Prop, P items [] w ∧ LcS gt gYes ge Ok ρ k P := by
  refine ⟨fun rem acc w' => w' = w ∧ ∃ dn, items = dn ++ rem ∧ Paired R dn acc, ⟨rfl, [], rfl, .nil⟩, ?_, ?_⟩
  · rintro acc w' ⟨rfl, dn, e, r⟩
    rw [List.append_nil] at e
    subst e
    exact ⟨hOk, hk _ r⟩
  · rintro x xs acc w' ⟨rfl, dn, e, r⟩
    refine ⟨hOk, ?_⟩
    have hx : x ∈ items := by rw [e]; simp
    have := h x hx (fun y w3 => acc.length < sizeLine ∧ (w3 = w' ∧ ∃ dn', items = dn' ++ xs ∧ Paired R dn' (acc ++ [y]))) fun y hy => ⟨?_, rfl, dn ++ [x], by rw [e]; simp, paired_snoc hy r⟩
    · exact this
    · have l := Paired.length r
      have : dn.length ≤ items.length := by rw [e]; simp
      exact Nat.lt_of_le_of_lt (Nat.le_trans (by omega) hl) (by decide)
theorem slD_l {xs : List D} {lo hi : Option Int} {w : Wd} {k : KD} : slD (.lst xs) lo hi w k = k (.lst (cutD xs lo hi)) w := rfl
mutual
def plain : D → Bool
  | .non => true
  | .int _ => true
  | .str _ => true
  | .lst xs => plains xs
  | .tup xs => plains xs
  | _ => false
def plains : List D → Bool
  | [] => true
  | x :: xs => plain x && plains xs
end
mutual
def okF : D → Bool
  | .non => true
  | .bl _ => true
  | .int _ => true
  | .str _ => true
  | .lst xs => okFs xs
  | .tup xs => okFs xs
  | _ => false
def okFs : List D → Bool
  | [] => true
  | x :: xs => okF x && okFs xs
end
mutual
def dep : D → Nat
  | .lst xs => deps xs + 1
  | .tup xs => deps xs + 1
  | _ => 0
def deps : List D → Nat
  | [] => 0
  | x :: xs => max (dep x) (deps xs)
end
mutual
def wid : D → Bool
  | .lst xs => decide (xs.length ≤ 100000) && wids xs
  | .tup xs => decide (xs.length ≤ 100000) && wids xs
  | _ => true
def wids : List D → Bool
  | [] => true
  | x :: xs => wid x && wids xs
end
theorem plains_mem : ∀ {xs : List D} {x : D}, plains xs = true → x ∈ xs → plain x = true
  | y :: ys, x, h, hx => by
    unfold plains at h
    rw [Bool.and_eq_true] at h
    rcases List.mem_cons.mp hx with rfl | hx
    · exact h.1
    · exact plains_mem h.2 hx
theorem okFs_mem : ∀ {xs : List D} {x : D}, okFs xs = true → x ∈ xs → okF x = true
  | y :: ys, x, h, hx => by
    unfold okFs at h
    rw [Bool.and_eq_true] at h
    rcases List.mem_cons.mp hx with rfl | hx
    · exact h.1
    · exact okFs_mem h.2 hx
theorem wids_mem : ∀ {xs : List D} {x : D}, wids xs = true → x ∈ xs → wid x = true
  | y :: ys, x, h, hx => by
    unfold wids at h
    rw [Bool.and_eq_true] at h
    rcases List.mem_cons.mp hx with rfl | hx
    · exact h.1
    · exact wids_mem h.2 hx
theorem deps_mem : ∀ {xs : List D} {x : D}, x ∈ xs → dep x ≤ deps xs
  | y :: ys, x, hx => by
    unfold deps
    rcases List.mem_cons.mp hx with rfl | hx
    · omega
    · have := deps_mem hx
      omega
mutual
theorem plain_ok : ∀ {d : D}, plain d = true → okF d = true
  | .non, _ => rfl
  | .int _, _ => rfl
  | .str _, _ => rfl
  | .lst xs, h => by
    unfold plain at h
    unfold okF
    exact plains_ok h
  | .tup xs, h => by
    unfold plain at h
    unfold okF
    exact plains_ok h
theorem plains_ok : ∀ {xs : List D}, plains xs = true → okFs xs = true
  | [], _ => rfl
  | x :: xs, h => by
    unfold plains at h
    rw [Bool.and_eq_true] at h
    unfold okFs
    rw [Bool.and_eq_true]
    exact ⟨plain_ok h.1, plains_ok h.2⟩
end
mutual
def lay : D → Bool
  | .non => true
  | .bl _ => true
  | .int _ => true
  | .str s => PyData.strOk s
  | .lst xs => lays xs
  | .tup xs => lays xs
  | _ => false
def lays : List D → Bool
  | [] => true
  | x :: xs => lay x && lays xs
end
mutual
theorem lay_pd : ∀ {d : D}, lay d = true → ∃ p, toPD d = some p ∧ p.canLay0 = true ∧ p.depth = dep d
  | .non, _ => ⟨_, rfl, rfl, rfl⟩
  | .bl _, _ => ⟨_, rfl, rfl, rfl⟩
  | .int _, _ => ⟨_, rfl, rfl, rfl⟩
  | .str s, h => ⟨_, rfl, h, rfl⟩
  | .lst xs, h => by
    obtain ⟨ps, h1, h2, h3⟩ := lays_pd (xs := xs) h
    refine ⟨.list ps, by rw [toPD, h1]; rfl, h2, ?_⟩
    show PyData.depthAll ps + 1 = _
    rw [h3]
    rfl
  | .tup xs, h => by
    obtain ⟨ps, h1, h2, h3⟩ := lays_pd (xs := xs) h
    refine ⟨.tuple ps, by rw [toPD, h1]; rfl, h2, ?_⟩
    show PyData.depthAll ps + 1 = _
    rw [h3]
    rfl
theorem lays_pd : ∀ {xs : List D}, lays xs = true → ∃ ps, toPDs xs = some ps ∧ PyData.canLayAll0 ps = true ∧ PyData.depthAll ps = deps xs
  | [], _ => ⟨[], rfl, rfl, rfl⟩
  | x :: xs, h => by
    unfold lays at h
    rw [Bool.and_eq_true] at h
    obtain ⟨p, h1, h2, h3⟩ := lay_pd h.1
    obtain ⟨ps, h4, h5, h6⟩ := lays_pd h.2
    refine ⟨p :: ps, by rw [toPDs, h1, h4], by simp [PyData.canLayAll0, h2, h5], ?_⟩
    show max p.depth (PyData.depthAll ps) = max (dep x) (deps xs)
    rw [h3, h6]
end
def gSame : Nat → GF
  | 0 => fun _ _ _ _ => False
  | j + 1 => fun ds w _ k => ∃ a b : D, ds = [a, b] ∧ (okF a = true ∧ plain b = true ∧ dep b ≤ j ∧ wid a = true ∧ wid b = true) ∧ ∀ c : Bool, (c = true ↔ a = b) → k (.bl c) w
theorem zip_pairs {xs ys : List D} (hl : xs.length = ys.length) : ∀ {cs : List D}, Paired (fun p y => ∃ c a b, p = D.tup [a, b] ∧ y = D.bl c ∧ (c = true ↔ a = b)) (zipD xs ys) cs → ∃ bs : List Bool, cs = bs.map D.bl ∧ (bs.all id = true ↔ xs = ys) := by
  induction xs generalizing ys with
  | nil =>
    intro cs h
    cases ys with
    | cons y ys => cases hl
    | nil =>
      cases h
      exact ⟨[], rfl, by simp⟩
  | cons x xs ih =>
    intro cs h
    cases ys with
    | nil => cases hl
    | cons y ys =>
      unfold zipD at h
      rw [List.zipWith_cons_cons] at h
      cases h with
      | cons h1 h2 =>
        obtain ⟨c, a, b, e1, rfl, h3⟩ := h1
        obtain ⟨bs, rfl, h4⟩ := ih (by simpa using hl) h2
        cases e1
        refine ⟨c :: bs, rfl, ?_⟩
        rw [List.all_cons, Bool.and_eq_true, h4]
        show c = true ∧ xs = ys ↔ x :: xs = y :: ys
        rw [h3, List.cons.injEq]
end DL

namespace DL
open PySem PySem.Spec PyProof.Rows L2 RZ

abbrev FM := D → List D → Wd → KD → Prop
def MtOk (K : PySem.W.Frag) (r : V → List V → Hp → VK → Prop) (f : FM) : Prop := ∀ {G S H w x d vs ds k Q}, HR K G S w H → Rep K G S x d → RepAll K G S vs ds → KL K G S k Q → f d ds w k → r x vs H Q
def isTy (T : String) (d : D) (w : Wd) : Prop := match d with
  | .str _ => T = "str"
  | .lst _ => T = "list"
  | .rf i => match w.M[i]? with
    | some (.lst _) => T = "list"
    | some (.dk _) => T = "dict"
    | _ => False
  | _ => False
theorem isTy_ok {K : PySem.W.Frag} {G : Gh} {S H : Hp} {w : Wd} {v : V} {d : D} {T : String} (hr : HR K G S w H) (r : Rep K G S v d) (h : isTy T d w) : tyV K T v H := by
  cases r with
  | str x => exact h
  | lst e r => exact .inl ⟨h, _, .inl (.inl (hr.same _ _ e))⟩
  | rf e =>
    unfold isTy at h
    simp only at h
    split at h
    · rename_i e2
      obtain ⟨_, ys, h1, h2⟩ := hr.cell _ _ _ e e2
      exact .inl ⟨h, ys, .inl (.inl h1)⟩
    · rename_i e2
      obtain ⟨_, ys, h1, h2⟩ := hr.cell _ _ _ e e2
      exact .inr (.inr (.inl ⟨h, .inl ⟨ys, h1⟩⟩))
    · exact h.elim
  | _ => exact h.elim
def gBM (T : String) (f : FM) (go : GE) (ga : GA) : GE := fun ρ w kx k => go ρ w kx fun x w1 => isTy T x w1 ∧ ga ρ w1 kx fun xs w2 => f x xs w2 k
section
variable {X : Cx} {E : XK} {o e : Expr} {es : List Expr} {go : GE} {ga : GA} {apos cpos : Pos} {name : Str} {T id : String} {r : V → List V → Hp → VK → Prop} {f : FM}
theorem de_bm (pa : PlainAttrs T) (slot : Slot T name id) (hty : typeOf (.builtin id) = pure (.type "method_descriptor")) (hm : MtR X id r) (hf : MtOk X.K r f) (ho : DE X E o go) (ha : DA X E (e :: es) ga)
    (hbase : attributeBase o name X.env (eval o X.env) = eval o X.env)
    (hfew : ((backTo cpos (starEach (e :: es) X.env)).all (fun x => !x.1) && (backToKw cpos (keywordEach [] X.env)).all (fun x => x.1.isSome)
      && decide ((e :: es).length + ([] : List Keyword).length + (if ([] : List Keyword).isEmpty then 0 else 1) < 30)) = true)
    (hline : (apos.endLine == cpos.line) = true) (hs : starEach (e :: es) X.env = (false, eval e X.env) :: starEach es X.env) (hplain : (backTo cpos (starEach es X.env)).any (·.1) = false) :
    DE X E (.Call (.Attribute o name apos) (e :: es) [] cpos) (gBM T f go ga) := pe_imp (pe_bm pa slot hty hm ho ha hbase hfew hline hs hplain) (by
  rintro σ H Q ⟨G, S, ρ, w, kx, k, hr, sr, xl, kl, h⟩
  exact ⟨G, S, ρ, w, kx, _, hr, sr, xl, fun G1 S1 H1 w1 d v x1 hr1 rp h1 => ⟨isTy_ok hr1 rp h1.1, G1, S1, ρ, w1, kx, _, hr1, sr.mono x1, xl.mono x1, fun G2 S2 H2 w2 ds vs x2 hr2 rp2 h2 => hf hr2 (rp.mono x2) rp2 (kl.mono (x1.trans x2)) h2, h1.2⟩, h⟩)
end
def cellK (i : Nat) (w : Wd) (f : List D → Prop) : Prop := match w.M[i]? with
  | some (.lst xs) => f xs
  | _ => False
theorem cell_get {K : PySem.W.Frag} {G : Gh} {S H : Hp} {w : Wd} {a : Addr} {i : Nat} {f : List D → Prop} (hr : HR K G S w H) (e : G.al[i]? = some a) (h : cellK i w f) :
    ∃ ds xs, w.M[i]? = some (.lst ds) ∧ S a = none ∧ H a = some (.lst xs) ∧ RepAll K G S xs ds ∧ f ds := by
  unfold cellK at h
  split at h
  · rename_i ds e2
    obtain ⟨h1, xs, h2, h3⟩ := hr.cell _ _ _ e e2
    exact ⟨ds, xs, e2, h1, h2, h3, h⟩
  · exact h.elim
theorem cell_put {K : PySem.W.Frag} {G : Gh} {S H : Hp} {w : Wd} {a : Addr} {i : Nat} {c : Cell} {ys : List V} {es : List D} (hr : HR K G S w H) (e : G.al[i]? = some a) (e2 : w.M[i]? = some c) (hs : S a = none) (r : RepAll K G S ys es) :
    HR K G S ⟨w.M.set i (.lst es), w.n⟩ (upd H a (.lst ys)) := hr.setC e e2 hs ⟨hs, ys, upd_same, r⟩
def mAppend : FM := fun x ds w k => match x, ds with
  | .rf i, [d] => cellK i w fun xs => xs.length < sizeLine ∧ k .non ⟨w.M.set i (.lst (xs ++ [d])), w.n⟩
  | _, _ => False
def mPopAt : FM := fun x ds w k => match x, ds with
  | .rf i, [.int j] => cellK i w fun xs => 0 ≤ j ∧ j < xs.length ∧ j < 2 ^ 63 ∧ someK xs[j.toNat]? fun d => k d ⟨w.M.set i (.lst (xs.eraseIdx j.toNat)), w.n⟩
  | _, _ => False
def mExtend : FM := fun x ds w k => match x, ds with
  | .rf i, [.lst ys] => cellK i w fun xs => xs.length + ys.length ≤ sizeLine ∧ k .non ⟨w.M.set i (.lst (xs ++ ys)), w.n⟩
  | _, _ => False
def mReverse : FM := fun x ds w k => match x, ds with
  | .rf i, [] => cellK i w fun xs => k .non ⟨w.M.set i (.lst xs.reverse), w.n⟩
  | _, _ => False
section
variable {K : PySem.W.Frag}
theorem ok_append : MtOk K rAppend mAppend := by
  intro G S H w x d vs ds k Q hr rx rxs kl h
  unfold mAppend at h
  split at h
  · cases rx with
    | rf e =>
      obtain ⟨es, xs, e2, h1, h2, h3, h4, h5⟩ := cell_get hr e h
      obtain ⟨v, rfl, r⟩ := one_rep rxs
      exact ⟨_, xs, v, rfl, rfl, h2, by rw [h3.length]; exact h4, kl _ _ _ _ _ _ (Ext.refl _ _) (cell_put hr e e2 h1 (h3.append (.cons r .nil))) .non h5⟩
  · exact h.elim
theorem seqIx {n : Nat} {j : Int} (h0 : 0 ≤ j) (h1 : j < n) : seqIndex? j n = some j.toNat := by
  have e : ixN n j = some j.toNat := by
    unfold ixN
    rw [if_pos h0, if_pos h1]
  exact (ixN_seq e).1
theorem ok_popAt : MtOk K rPopAt mPopAt := by
  intro G S H w x d vs ds k Q hr rx rxs kl h
  unfold mPopAt at h
  split at h
  · cases rx with
    | rf e =>
      obtain ⟨es, xs, e2, h1, h2, h3, h4, h5, h6, h7⟩ := cell_get hr e h
      obtain ⟨v, rfl, r⟩ := one_rep rxs
      cases r
      unfold someK at h7
      split at h7
      · rename_i d e3
        obtain ⟨u, e4, r4⟩ := h3.get e3
        exact ⟨_, xs, _, _, u, rfl, rfl, h2, by omega, h6, seqIx h4 (by rw [h3.length]; exact h5), e4, kl _ _ _ _ _ _ (Ext.refl _ _) (cell_put hr e e2 h1 (h3.eraseIdx _)) r4 h7⟩
      · exact h7.elim
  · exact h.elim
end
theorem rep_strs {K : PySem.W.Frag} {G : Gh} {S : Hp} : ∀ ys : List Str, RepAll K G S (ys.map V.str) (ys.map D.str)
  | [] => .nil
  | y :: ys => .cons (.str y) (rep_strs ys)
def mSplit : FM := fun x ds w k => match x, ds with
  | .str a, [.str b] => (b.length == 0) = false ∧ a.length + 2 ≤ sizeLine ∧ k (.lst ((Txt.split a b).map D.str)) w
  | _, _ => False
def mSplitC : FM := fun x ds w k => match x, ds with
  | .str a, [.str b] => (b.length == 0) = false ∧ a.length + 2 ≤ sizeLine ∧ k (.rf w.M.length) ⟨w.M ++ [.lst ((Txt.split a b).map D.str)], w.n⟩
  | _, _ => False
def rSplitT : V → List V → Hp → VK → Prop := fun x xs H Q => ∃ a b, x = .str a ∧ xs = [.str b] ∧ (b.length == 0) = false ∧ a.length + 2 ≤ sizeLine ∧ rNewStrs (Txt.split a b) H Q
theorem ok_splitC {K : PySem.W.Frag} : MtOk K rSplitT mSplitC := by
  intro G S H w x d vs ds k Q hr rx rxs kl h
  unfold mSplitC at h
  split at h
  · cases rx
    obtain ⟨v, rfl, r⟩ := one_rep rxs
    cases r
    exact ⟨_, _, rfl, rfl, h.1, h.2.1, kl.newCL hr (rep_strs _) h.2.2⟩
  · exact h.elim
def rCntV (K : PySem.W.Frag) : V → List V → Hp → VK → Prop := fun x xs H Q => ∃ (p : Addr) (ys : List V) (y : V), x = .ref p ∧ xs = [y] ∧ flatV y = true ∧ ys.all flatV = true ∧ SqL K H p ys ∧ Q (.int ((ys.countP fun z => eqV z y : Nat) : Int)) H
def allStr : List D → Option (List Str)
  | [] => some []
  | .str b :: r => match allStr r with
    | some bs => some (b :: bs)
    | none => none
  | _ => none
def mCount : FM := fun x ds w k => match x, ds with
  | .lst xs, [.str s] => ∃ ss, allStr xs = some ss ∧ ∀ c : Nat, c ≤ xs.length → k (.int (c : Nat)) w
  | _, _ => False
end DL

namespace DL
open PySem PySem.Spec PyProof.Rows L2 RZ

def gLcC (gi : GI) (gt : GG) (tt : GT) (ge : GE) (vs : List Nat) : GE := fun ρ w kx k => gLc gi gt tt ge vs ρ w kx fun d w1 => ∃ acc, d = .lst acc ∧ k (.rf w1.M.length) ⟨w1.M ++ [.lst acc], w1.n⟩
section
variable {X : Cx} {E : XK} {pos : Pos}
end
def ggSub (go gi : GE) : GG := fun d ρ w k => go ρ w noX fun x w1 => gi ρ w1 noX fun y w2 => match x, y with
  | .rf i, .int j => cellK i w2 fun xs => 0 ≤ j ∧ j < xs.length ∧ k ρ ⟨w2.M.set i (.lst (xs.set j.toNat d)), w2.n⟩
  | _, _ => False
section
variable {X : Cx} {E : XK} {o i : Expr} {go gi : GE} {pos : Pos}
end
def slA : D → Option Int → Option Int → Wd → KD → Prop := fun x lo hi w k => match x with
  | .lst ds => k (.lst (cutD ds lo hi)) w
  | .tup ds => k (.tup (cutD ds lo hi)) w
  | .rf i => cellK i w fun ds => k (.lst (cutD ds lo hi)) w
  | _ => False
def rSlAA (K : PySem.W.Frag) : V → Option Int → Option Int → Hp → VK → Prop := fun x lo hi H Q => rSlL K x lo hi H Q ∨ rSlA K x lo hi H Q
section
variable {X : Cx} {E : XK} {a : Expr} {ga : GE} {gl gh : GO} {pos p2 : Pos} {lo hi : Option Expr}
end
def addTD : F2 := fun x y w k => match x, y with
  | .tup xs, .tup ys => xs.length + ys.length ≤ sizeLine ∧ k (.tup (xs ++ ys)) w
  | _, _ => False
def addCD : F2 := fun x y w k => match x, y with
  | .lst xs, .lst ys => xs.length + ys.length ≤ sizeLine ∧ k (.rf w.M.length) ⟨w.M ++ [.lst (xs ++ ys)], w.n⟩
  | .rf i, .lst ys => cellK i w fun xs => xs.length + ys.length ≤ sizeLine ∧ k (.rf w.M.length) ⟨w.M ++ [.lst (xs ++ ys)], w.n⟩
  | _, _ => False
def mulCD : F2 := fun x y w k => match x, y with
  | .lst xs, .int j => -(2 ^ 63) ≤ j ∧ j < 2 ^ 63 ∧ xs.length * j.toNat ≤ sizeLine ∧ k (.rf w.M.length) ⟨w.M ++ [.lst (List.replicate j.toNat xs).flatten], w.n⟩
  | _, _ => False
def isbD : F2 := fun x y w k => match x, y with
  | .bl a, .bl b => k (.bl (decide (a = b))) w
  | _, _ => False
def isnotbD : F2 := fun x y w k => match x, y with
  | .bl a, .bl b => k (.bl (!decide (a = b))) w
  | _, _ => False
section
variable {X : Cx} {E : XK} {a b : Expr} {ga gb : GE} {pos : Pos}
end
def enumD : Nat → List D → List D
  | _, [] => []
  | i, x :: xs => .tup [.int (i : Nat), x] :: enumD (i + 1) xs
def giEnum (ga : GA) : GI := fun ρ w kx k => ga ρ w kx fun ds w1 => match ds with
  | [.lst xs] => k (enumD 0 xs) (fun _ => True) w1
  | _ => False
section
variable {X : Cx} {E : XK}
end
mutual
def low (n : Nat) : D → Bool
  | .rf i => decide (i < n)
  | .lst xs => lows n xs
  | .tup xs => lows n xs
  | _ => true
def lows (n : Nat) : List D → Bool
  | [] => true
  | x :: xs => low n x && lows n xs
end
section
variable {K : PySem.W.Frag} {G : Gh} {S H : Hp} {w : Wd}
mutual
theorem Rep.low : ∀ {v : V} {d : D}, Rep K G S v d → DL.low G.al.length d = true
  | _, _, .non => rfl
  | _, _, .bl _ => rfl
  | _, _, .int _ => rfl
  | _, _, .str _ => rfl
  | _, _, .lst _ r => RepAll.low r
  | _, _, .tup _ r => RepAll.low r
  | _, _, .rf h => decide_eq_true (List.getElem?_eq_some_iff.mp h).1
  | _, _, .st _ => rfl
  | _, _, .ob _ => rfl
  | _, _, .scr _ => rfl
theorem RepAll.low : ∀ {v : List V} {d : List D}, RepAll K G S v d → lows G.al.length d = true
  | _, _, .nil => rfl
  | _, _, .cons h r => by
    unfold lows
    rw [Rep.low h, RepAll.low r]
    rfl
end
variable {n : Nat}
mutual
theorem Rep.trunc : ∀ {v : V} {d : D}, Rep K G S v d → DL.low n d = true → Rep K ⟨G.al.take n, G.st, G.fr⟩ S v d
  | _, _, .non, _ => .non
  | _, _, .bl b, _ => .bl b
  | _, _, .int b, _ => .int b
  | _, _, .str b, _ => .str b
  | _, _, .lst e r, h => .lst e (RepAll.trunc r h)
  | _, _, .tup e r, h => .tup e (RepAll.trunc r h)
  | _, _, .rf (i := i) e, h => by
    have hi : i < n := of_decide_eq_true h
    refine .rf ?_
    show (G.al.take n)[i]? = _
    rw [List.getElem?_take, if_pos hi]
    exact e
  | _, _, .st h, _ => .st h
  | _, _, .ob h, _ => .ob h
  | _, _, .scr h, _ => .scr h
theorem RepAll.trunc : ∀ {v : List V} {d : List D}, RepAll K G S v d → lows n d = true → RepAll K ⟨G.al.take n, G.st, G.fr⟩ S v d
  | _, _, .nil, _ => .nil
  | _, _, .cons q r, h => by
    unfold lows at h
    rw [Bool.and_eq_true] at h
    exact .cons (Rep.trunc q h.1) (RepAll.trunc r h.2)
end
def lowC (n : Nat) : Cell → Prop
  | .dead => True
  | .exc _ => True
  | .exf _ fs => ∀ p ∈ fs, low n p.2 = true
  | .tbl _ _ => True
  | .lk _ _ kvs => ∀ p ∈ kvs, low n p.2 = true
  | .lst xs => lows n xs = true
  | .dk kvs => ∀ p ∈ kvs, low n p.2 = true
  | .ins _ fs => ∀ p ∈ fs, low n p.2 = true
theorem fs_low {κ : Type} : ∀ {xs : List (κ × V)} {ys : List (κ × D)}, FsRep K G S xs ys → ∀ p ∈ ys, DL.low G.al.length p.2 = true
  | _, _, .nil, p, hp => nomatch hp
  | _, _, .cons h r, p, hp => by
    rcases List.mem_cons.mp hp with rfl | hp
    · exact h.2.low
    · exact fs_low r p hp
theorem fs_trunc {κ : Type} : ∀ {xs : List (κ × V)} {ys : List (κ × D)}, FsRep K G S xs ys → (∀ p ∈ ys, DL.low n p.2 = true) → FsRep K ⟨G.al.take n, G.st, G.fr⟩ S xs ys
  | _, _, .nil, _ => .nil
  | _, _, .cons h r, hp => .cons ⟨h.1, h.2.trunc (hp _ List.mem_cons_self)⟩ (fs_trunc r fun p q => hp p (List.mem_cons_of_mem _ q))
theorem CellOk.low {a : Addr} {c : Cell} (h : CellOk K G S H a c) : lowC G.al.length c := by
  cases c with
  | dead => trivial
  | exc C => trivial
  | exf C fs => obtain ⟨_, _, _, _, _, r⟩ := h; exact fs_low r
  | tbl P q => trivial
  | lk o ks kvs => obtain ⟨_, _, r⟩ := h; exact fs_low r
  | lst ds => obtain ⟨_, _, _, r⟩ := h; exact r.low
  | dk ds => obtain ⟨_, _, _, r⟩ := h; exact fs_low r
  | ins C ds => obtain ⟨_, _, _, _, r⟩ := h; exact fs_low r
theorem CellOk.trunc {a : Addr} {c : Cell} (h : CellOk K G S H a c) (l : lowC n c) : CellOk K ⟨G.al.take n, G.st, G.fr⟩ S H a c := by
  cases c with
  | dead => exact h
  | exc C => exact h
  | exf C fs => obtain ⟨h1, dx, gs, h2, h3, r⟩ := h; exact ⟨h1, dx, gs, h2, h3, fs_trunc r l⟩
  | tbl P q => exact h
  | lk o ks kvs => obtain ⟨h1, h2, r⟩ := h; exact ⟨h1, h2, fs_trunc r l⟩
  | lst ds => obtain ⟨h1, xs, h2, r⟩ := h; exact ⟨h1, xs, h2, r.trunc l⟩
  | dk ds => obtain ⟨h1, xs, h2, r⟩ := h; exact ⟨h1, xs, h2, fs_trunc r l⟩
  | ins C ds => obtain ⟨h1, dx, xs, h2, r⟩ := h; exact ⟨h1, dx, xs, h2, fs_trunc r l⟩
theorem HR.lowAll (h : HR K G S w H) : ∀ c ∈ w.M, lowC w.M.length c := fun c hc => by
  obtain ⟨i, hi⟩ := List.getElem?_of_mem hc
  have l := (List.getElem?_eq_some_iff.mp hi).1
  rw [← h.len] at l ⊢
  exact (h.cell i _ c (List.getElem?_eq_getElem l) hi).low
theorem HR.trunc {M0 r : List Cell} (h : HR K G S w H) (e : w.M = M0 ++ r) (hl : ∀ c ∈ M0, lowC M0.length c) : HR K ⟨G.al.take M0.length, G.st, G.fr⟩ S ⟨M0, w.n⟩ H := by
  have ln : G.al.length = M0.length + r.length := by rw [h.len, e, List.length_append]
  refine ⟨h.same, ?_, h.nod.sublist (List.take_sublist _ _), fun i a c e1 e2 => ?_, ⟨h.st.1, fun a c z => ?_⟩, fun p hp => ?_⟩
  · show (G.al.take M0.length).length = M0.length
    rw [List.length_take, ln]
    omega
  · have e1 : (G.al.take M0.length)[i]? = some a := e1
    have e2 : M0[i]? = some c := e2
    have li := (List.getElem?_eq_some_iff.mp e2).1
    rw [List.getElem?_take, if_pos li] at e1
    have q := h.cell i a c e1 (by rw [e, List.getElem?_append_left li]; exact e2)
    exact q.trunc (hl c (List.mem_of_getElem? e2))
  · obtain ⟨z1, z2, z3, z4, z5, z6⟩ := h.st.2 a c z
    exact ⟨z1, z2, z3, fun q => z4 (List.mem_of_mem_take q), fun q => z5 (List.mem_of_mem_take q), z6⟩
  · obtain ⟨y1, y2, y3⟩ := h.fr p hp
    exact ⟨y1, fun q => y2 (List.mem_of_mem_take q), y3⟩
end
def gTr (f : GF) : GF := fun ds w kx k => f ds w kx fun d w1 => (∃ r, w1.M = w.M ++ r) ∧ low w.M.length d = true ∧ k d ⟨w.M, w1.n⟩
theorem tr_up {n : Nat} {K : PySem.W.Frag} {f : GF} : ∀ vs H Q E, upF n K (gTr f) vs H Q E → upF n K f vs H Q E := by
  rintro vs H Q E ⟨G, S, ds, w, kx, k, h1, h2, h3, h4, h5, h6⟩
  refine ⟨G, S, ds, w, kx, _, h1, h2, h3, h4, fun G' S' H' w' d v x1 hr1 rp hk => ?_, h6⟩
  obtain ⟨⟨r, e⟩, lo, hk⟩ := hk
  refine h5 ⟨G'.al.take w.M.length, G'.st, G'.fr⟩ S' H' ⟨w.M, w'.n⟩ _ _ ⟨⟨[], ?_⟩, x1.st, x1.fr, x1.same⟩ (hr1.trunc e h2.lowAll) (rp.trunc lo) hk
  obtain ⟨r2, e2⟩ := x1.al
  show G'.al.take w.M.length = G.al ++ []
  rw [e2, ← h2.len, List.take_left, List.append_nil]
theorem FnAt.trunc {P : Program} {w : World} {K : PySem.W.Frag} {mg : Str → Option Value} {base : Heap} {CX : CXT} {k : Nat} {x : Str} {n : Nat} {g : GF} (h : FnAt P w K mg base CX k x n g) : FnAt P w K mg base CX k x n (gTr g) := by
  obtain ⟨f, fd, ps, h1, h2⟩ := h.ex
  exact ⟨f, fd, ps, h1.imp tr_up, h2⟩
section
variable {w : Wd} {k : KD} {i j : Int} {M : List Cell} {n : Option Nat} {xs ys : List D} {d : D} {c c' : Cell}
theorem isTy_l {T : String} : isTy T (.lst xs) w = (T = "list") := rfl
theorem isTy_s {T : String} {s : Str} : isTy T (.str s) w = (T = "str") := rfl
theorem new_at : (M ++ [c])[M.length]? = some c := by simp
theorem new_set : (M ++ [c]).set M.length c' = M ++ [c'] := by
  rw [List.set_append_right (h := Nat.le_refl _), Nat.sub_self]
  rfl
theorem isTy_new {T : String} : isTy T (.rf M.length) ⟨M ++ [.lst xs], n⟩ = (T = "list") := by
  unfold isTy
  simp
theorem cellK_new {f : List D → Prop} : cellK M.length ⟨M ++ [.lst xs], n⟩ f = f xs := by
  unfold cellK
  simp
theorem append_new : mAppend (.rf M.length) [d] ⟨M ++ [.lst xs], n⟩ k = (xs.length < sizeLine ∧ k .non ⟨M ++ [.lst (xs ++ [d])], n⟩) := by
  unfold mAppend
  simp only [cellK_new, new_set]
theorem popAt_new : mPopAt (.rf M.length) [.int j] ⟨M ++ [.lst xs], n⟩ k = (0 ≤ j ∧ j < xs.length ∧ j < 2 ^ 63 ∧ someK xs[j.toNat]? fun d => k d ⟨M ++ [.lst (xs.eraseIdx j.toNat)], n⟩) := by
  unfold mPopAt
  simp only [cellK_new, new_set]
def frzK (d : D) (w : Wd) (k : KD) : Prop := match d with
  | .rf i => match w.M[i]? with
    | some (.lst ds) => k (.lst ds) ⟨w.M.set i .dead, w.n⟩
    | _ => False
  | _ => False
theorem gFrz_eq {ge : GE} {ρ : Rho} {kx : KX} : gFrz ge ρ w kx k = ge ρ w kx fun x w1 => frzK x w1 k := rfl
theorem frzK_new : frzK (.rf M.length) ⟨M ++ [.lst xs], n⟩ k = k (.lst xs) ⟨M ++ [.dead], n⟩ := by
  unfold frzK
  simp only [new_at, new_set]
theorem fLen_new : fLen [.rf M.length] ⟨M ++ [.lst xs], n⟩ k = k (.int xs.length) ⟨M ++ [.lst xs], n⟩ := by
  simp [fLen, seqD]
theorem fTuple_new : fTuple [.rf M.length] ⟨M ++ [.lst xs], n⟩ k = k (.tup xs) ⟨M ++ [.lst xs], n⟩ := by
  simp [fTuple, seqD]
theorem ixD_new : ixD (.rf M.length) (.int j) ⟨M ++ [.lst xs], n⟩ k = someK (atI xs j) (fun d => k d ⟨M ++ [.lst xs], n⟩) := by
  simp [ixD, seqD]
  rfl
theorem slA_l {lo hi : Option Int} : slA (.lst xs) lo hi w k = k (.lst (cutD xs lo hi)) w := rfl
theorem slA_t {lo hi : Option Int} : slA (.tup xs) lo hi w k = k (.tup (cutD xs lo hi)) w := rfl
theorem slA_new {lo hi : Option Int} : slA (.rf M.length) lo hi ⟨M ++ [.lst xs], n⟩ k = k (.lst (cutD xs lo hi)) ⟨M ++ [.lst xs], n⟩ := by
  unfold slA
  simp only [cellK_new]
theorem addTD_t : addTD (.tup xs) (.tup ys) w k = (xs.length + ys.length ≤ sizeLine ∧ k (.tup (xs ++ ys)) w) := rfl
theorem addCD_l : addCD (.lst xs) (.lst ys) w k = (xs.length + ys.length ≤ sizeLine ∧ k (.rf w.M.length) ⟨w.M ++ [.lst (xs ++ ys)], w.n⟩) := rfl
theorem mulCD_l : mulCD (.lst xs) (.int j) w k = (-(2 ^ 63) ≤ j ∧ j < 2 ^ 63 ∧ xs.length * j.toNat ≤ sizeLine ∧ k (.rf w.M.length) ⟨w.M ++ [.lst (List.replicate j.toNat xs).flatten], w.n⟩) := rfl
theorem isbD_b {a b : Bool} : isbD (.bl a) (.bl b) w k = k (.bl (decide (a = b))) w := rfl
theorem isnotbD_b {a b : Bool} : isnotbD (.bl a) (.bl b) w k = k (.bl (!decide (a = b))) w := rfl
theorem mSplitC_s {a b : Str} : mSplitC (.str a) [.str b] w k = ((b.length == 0) = false ∧ a.length + 2 ≤ sizeLine ∧ k (.rf w.M.length) ⟨w.M ++ [.lst ((Txt.split a b).map D.str)], w.n⟩) := rfl
end
theorem lows_of {n : Nat} : ∀ {xs : List D}, (∀ x ∈ xs, low n x = true) → lows n xs = true
  | [], _ => rfl
  | x :: xs, h => by
    unfold lows
    rw [h x List.mem_cons_self, lows_of fun y hy => h y (List.mem_cons_of_mem _ hy)]
    rfl
def lstK (d : D) (w : Wd) (f : List D → Prop) : Prop := match d with
  | .lst xs => f xs
  | .rf i => cellK i w f
  | _ => False
def addLD : F2 := fun x y w k => lstK x w fun xs => lstK y w fun ys => xs.length + ys.length ≤ sizeLine ∧ k (.lst (xs ++ ys)) w
theorem lst_get {K : PySem.W.Frag} {G : Gh} {S H : Hp} {w : Wd} {v : V} {d : D} {f : List D → Prop} (hr : HR K G S w H) (r : Rep K G S v d) (h : lstK d w f) : ∃ a xs ds, v = .ref a ∧ H a = some (.lst xs) ∧ RepAll K G S xs ds ∧ f ds := by
  cases r with
  | lst e r => exact ⟨_, _, _, rfl, hr.same _ _ e, r, h⟩
  | rf e =>
    obtain ⟨es, xs, _, _, h2, h3, h4⟩ := cell_get hr e h
    exact ⟨_, _, _, rfl, h2, h3, h4⟩
  | _ => exact h.elim
theorem ok_addLD {K : PySem.W.Frag} : BinOk K rCat addLD := by
  intro G S H w x y d e k Q hr rx ry kl h
  obtain ⟨a, xs, ds, rfl, h1, h2, h⟩ := lst_get hr rx h
  obtain ⟨b, ys, es, rfl, h3, h4, h5, h6⟩ := lst_get hr ry h
  exact ⟨_, _, _, _, rfl, rfl, h1, h3, by rw [h2.length, h4.length]; exact h5, kl.newL hr (h2.append h4) h6⟩
theorem de_addl {X : Cx} {E : XK} {a b : Expr} {ga gb : GE} {pos : Pos} (ha : DE X E a ga) (hb : DE X E b gb) : DE X E (.BinOp a .Add b pos) (gBin addLD ga gb) := de_bin op_cat ok_addLD ha hb
theorem lstK_l {xs : List D} {w : Wd} {f : List D → Prop} : lstK (.lst xs) w f = f xs := rfl
theorem lstK_r {i : Nat} {w : Wd} {f : List D → Prop} : lstK (.rf i) w f = cellK i w f := rfl
theorem addLD_eq {x y : D} {w : Wd} {k : KD} : addLD x y w k = lstK x w fun xs => lstK y w fun ys => xs.length + ys.length ≤ sizeLine ∧ k (.lst (xs ++ ys)) w := rfl
end DL

namespace DL
open PySem PySem.Spec PyProof.Rows L2 RZ

theorem lc_tyf {α : Type} {gt : GG} {tt : GT} {ge : GE} {Ok : Wd → Prop} {ρ : Rho} {k : KD} {w : Wd} (toD f : α → D) (p : α → Bool) (xs : List α) (hOk : Ok w) (hl : xs.length ≤ 100000)
    (h : ∀ a, a ∈ xs → ∀ (A : KD) (B : Wd → Prop), (p a = true → A (f a) w) → (p a = false → B w) → gt (toD a) ρ w fun ρ1 w1 => tt ρ1 w1 noX fun c w2 => if c = true then ge ρ1 w2 noX A else B w2)
    (hk : k (.lst ((xs.filter p).map f)) w) : ∃ P : List D → List D → Wd → Prop, P (xs.map toD) [] w ∧ LcS gt tt ge Ok ρ k P := by
  refine ⟨fun rem acc w' => w' = w ∧ ∃ dn rs, xs = dn ++ rs ∧ rem = rs.map toD ∧ acc = (dn.filter p).map f, ⟨rfl, [], xs, rfl, rfl, rfl⟩, ?_, ?_⟩
  · rintro acc w' ⟨rfl, dn, rs, e, e2, rfl⟩
    have : rs = [] := by simpa using e2.symm
    subst this
    rw [List.append_nil] at e
    subst e
    exact ⟨hOk, hk⟩
  · rintro x rem acc w' ⟨rfl, dn, rs, e, e2, rfl⟩
    cases rs with
    | nil => cases e2
    | cons a rs =>
      rw [List.map_cons] at e2
      injection e2 with e2 e3
      subst e2
      subst e3
      refine ⟨hOk, ?_⟩
      have ha : a ∈ xs := by rw [e]; simp
      have hlen : dn.length ≤ xs.length := by rw [e]; simp
      refine h a ha _ _ (fun hp => ⟨?_, rfl, dn ++ [a], rs, by rw [e]; simp, rfl, ?_⟩) (fun hp => ⟨rfl, dn ++ [a], rs, by rw [e]; simp, rfl, ?_⟩)
      · rw [List.length_map]
        have := List.length_filter_le p dn
        exact Nat.lt_of_le_of_lt (show (dn.filter p).length ≤ 100000 by omega) (by decide)
      · rw [List.filter_append, List.filter_cons, if_pos hp, List.map_append]
        rfl
      · rw [List.filter_append, List.filter_cons, if_neg (by rw [hp]; decide), List.filter_nil, List.append_nil]
theorem lc_ty {α : Type} {gt : GG} {ge : GE} {Ok : Wd → Prop} {ρ : Rho} {k : KD} {w : Wd} (toD f : α → D) (xs : List α) (hOk : Ok w) (hl : xs.length ≤ 100000)
    (h : ∀ a, a ∈ xs → ∀ k' : KD, k' (f a) w → gt (toD a) ρ w fun ρ1 w1 => ge ρ1 w1 noX k') (hk : k (.lst (xs.map f)) w) : ∃ P : List D → List D → Wd → Prop, P (xs.map toD) [] w ∧ LcS gt gYes ge Ok ρ k P := by
  refine lc_tyf toD f (fun _ => true) xs hOk hl (fun a ha A B h1 _ => ?_) ?_
  · exact h a ha A (h1 rfl)
  · rw [List.filter_eq_self.mpr fun _ _ => rfl]
    exact hk
end DL

namespace DL
open PySem PySem.Spec PyProof.Rows L2 RZ

def keyD : D → Option Key
  | .int i => some (.inl i)
  | .str s => some (.inr s)
  | _ => none
section
variable {K : PySem.W.Frag} {G : Gh} {S H : Hp} {w : Wd}
section
variable {κ : Type} [DecidableEq κ]
def valD (kvs : List (κ × D)) (k : κ) : Option D := (kvs.find? fun kv => decide (kv.1 = k)).map (·.2)
def putD (kvs : List (κ × D)) (k : κ) (d : D) : List (κ × D) := if (kvs.any fun kv => decide (kv.1 = k)) = true then kvs.map fun kv => if kv.1 = k then (kv.1, d) else kv else kvs ++ [(k, d)]
end
def dkK (i : Nat) (w : Wd) (f : List (Key × D) → Prop) : Prop := match w.M[i]? with
  | some (.dk xs) => f xs
  | _ => False
end
def gDNew : GE := fun _ w _ k => k (.rf w.M.length) ⟨w.M ++ [.dk []], w.n⟩
def keyK (d : D) (f : Key → Prop) : Prop := match keyD d with
  | some k => f k
  | none => False
def rfK (d : D) (f : Nat → Prop) : Prop := match d with
  | .rf i => f i
  | _ => False
def gDGet (go gi : GE) : GE := fun ρ w kx k => go ρ w kx fun x w1 => gi ρ w1 kx fun y w2 => rfK x fun i => keyK y fun q => dkK i w2 fun kvs => someK (valD kvs q) fun d => k d w2
def gDGet2 (go gi gd : GE) : GE := fun ρ w kx k => go ρ w kx fun x w1 => rfK x fun i => dkK i w1 fun _ => gi ρ w1 kx fun y w2 => gd ρ w2 kx fun z w3 => keyK y fun q => dkK i w3 fun kvs => k ((valD kvs q).getD z) w3
def gDSetd (go gi gd : GE) : GE := fun ρ w kx k => go ρ w kx fun x w1 => rfK x fun i => dkK i w1 fun _ => gi ρ w1 kx fun y w2 => gd ρ w2 kx fun z w3 => keyK y fun q => dkK i w3 fun kvs => kvs.length < sizeLine ∧ match valD kvs q with
  | some d => k d w3
  | none => k z ⟨w3.M.set i (.dk (putD kvs q z)), w3.n⟩
def ggDPut (go gi : GE) : GG := fun d ρ w k => go ρ w noX fun x w1 => gi ρ w1 noX fun y w2 => rfK x fun i => keyK y fun q => dkK i w2 fun kvs => kvs.length < sizeLine ∧ k ρ ⟨w2.M.set i (.dk (putD kvs q d)), w2.n⟩
theorem rfK_rep {K : PySem.W.Frag} {G : Gh} {S : Hp} {v : V} {d : D} {f : Nat → Prop} (r : Rep K G S v d) (h : rfK d f) : ∃ a i, v = .ref a ∧ d = .rf i ∧ G.al[i]? = some a ∧ f i := by
  cases r with
  | rf e => exact ⟨_, _, rfl, rfl, e, h⟩
  | _ => exact h.elim
theorem someK_get {o : Option D} {f : D → Prop} (h : someK o f) : ∃ d, o = some d ∧ f d := by
  unfold someK at h
  split at h
  · exact ⟨_, rfl, h⟩
  · exact h.elim
section
variable {X : Cx} {E : XK} {o i e : Expr} {go gi gd : GE} {pos apos cpos : Pos}
end
def fSortD : FB := fun ds w k => match ds with
  | [.rf i] => dkK i w fun kvs => ∃ ks : List Str, kvs.map (·.1) = ks.map Sum.inr ∧ ks.length < 64 ∧ ∀ ys : List Str, ys.Perm ks → sortedS ys = true → k (.lst (ys.map D.str)) w
  | _ => False
def insK (C : Addr) (i : Nat) (w : Wd) (f : List (Str × D) → Prop) : Prop := match w.M[i]? with
  | some (.ins C' fs) => C' = C ∧ f fs
  | _ => False
def putFD (f : Str) (d : D) : List (Str × D) → List (Str × D)
  | [] => [(f, d)]
  | (g, x) :: r => if g = f then (g, d) :: r else (g, x) :: putFD f d r
section
variable {K : PySem.W.Frag} {G : Gh} {S : Hp}
theorem fs_look {f : Str} {d : D} : ∀ {xs : List (Str × V)} {ys : List (Str × D)}, FsRep K G S xs ys → ys.lookup f = some d → ∃ v, xs.lookup f = some v ∧ Rep K G S v d
  | _, _, .nil, e => nomatch e
  | (g, x) :: xs, (g', y) :: ys, .cons h r, e => by
    have eg : g = g' := h.1
    subst eg
    rw [List.lookup_cons] at e ⊢
    split at e
    · cases e
      exact ⟨x, rfl, h.2⟩
    · exact fs_look r e
end
def gFld (C : Addr) (go : GE) (f : Str) : GE := fun ρ w kx k => go ρ w kx fun x w1 => rfK x fun i => insK C i w1 fun fs => someK (fs.lookup f) fun d => k d w1
def gSetF (C : Addr) (go gv : GE) (f : Str) : GS := fun F ρ w => gv ρ w F.ex fun d w1 => go ρ w1 F.ex fun x w2 => rfK x fun i => insK C i w2 fun fs => fs.length < 1000 ∧ F.nx ρ ⟨w2.M.set i (.ins C (putFD f d fs)), w2.n⟩
def gMeth (C : Addr) (n : Nat) (sp : GF) (m : Str) (go : GE) (ga : GA) : GE := fun ρ w kx k => go ρ w kx fun x w1 => rfK x fun i => insK C i w1 fun fs => fs.lookup m = none ∧ ga ρ w1 kx fun xs w2 => (x :: xs).length = n ∧ sp (x :: xs) w2 noX k
def gMake (C : Addr) (n : Nat) (sp : GF) (ga : GA) : GE := fun ρ w kx k => ga ρ w kx fun xs w1 => (D.rf w1.M.length :: xs).length = n ∧ sp (.rf w1.M.length :: xs) ⟨w1.M ++ [.ins C []], w1.n⟩ noX fun d w2 => d = .non ∧ k (.rf w1.M.length) w2
structure ClsAt (K : PySem.W.Frag) (mg : Str → Option Value) (x : Str) (C : Addr) (fs : List Str) : Prop where
  cl : Cls K C
  mgC : mg x = some (.ref C)
  na : ∀ f ∈ fs, NoAttr K C f
structure MethAt (K : PySem.W.Frag) (C : Addr) (m qual : Str) (st : Stmt) (ps : List Str) : Prop where
  ex : ∃ f fd, Fun K m qual st f fd ∧ Meth K C m f ∧ Binds K fd ps []
structure InitAt (K : PySem.W.Frag) (C : Addr) (qual : Str) (st : Stmt) (ps : List Str) : Prop where
  ex : ∃ f fd, Fun K "__init__" qual st f fd ∧ Mk K C f ∧ Binds K fd ps []
structure MtAt (P : Program) (w : World) (K : PySem.W.Frag) (mg : Str → Option Value) (base : Heap) (CX : CXT) (k : Nat) (C : Addr) (m : Str) (n : Nat) (g : GF) : Prop where
  ex : ∃ f fd ps, FnOk P w K mg base CX k f fd ps (upF n K g) ∧ Meth K C m f ∧ Binds K fd ps []
structure InAt (P : Program) (w : World) (K : PySem.W.Frag) (mg : Str → Option Value) (base : Heap) (CX : CXT) (k : Nat) (C : Addr) (n : Nat) (g : GF) : Prop where
  ex : ∃ f fd ps, FnOk P w K mg base CX k f fd ps (upF n K g) ∧ Mk K C f ∧ Binds K fd ps []
section
variable {P : Program} {w : World} {K : PySem.W.Frag} {mg : Str → Option Value} {base : Heap}
theorem MtAt.imp {CX : CXT} {k : Nat} {C : Addr} {m : Str} {n : Nat} {g g' : GF} (h : MtAt P w K mg base CX k C m n g) (i : ∀ ds w kx k, g' ds w kx k → g ds w kx k) : MtAt P w K mg base CX k C m n g' := by
  obtain ⟨f, fd, ps, h1, h2⟩ := h.ex
  exact ⟨f, fd, ps, h1.imp (up_imp i), h2⟩
theorem InAt.imp {CX : CXT} {k : Nat} {C : Addr} {n : Nat} {g g' : GF} (h : InAt P w K mg base CX k C n g) (i : ∀ ds w kx k, g' ds w kx k → g ds w kx k) : InAt P w K mg base CX k C n g' := by
  obtain ⟨f, fd, ps, h1, h2⟩ := h.ex
  exact ⟨f, fd, ps, h1.imp (up_imp i), h2⟩
theorem MtAt.trunc {CX : CXT} {k : Nat} {C : Addr} {m : Str} {n : Nat} {g : GF} (h : MtAt P w K mg base CX k C m n g) : MtAt P w K mg base CX k C m n (gTr g) := by
  obtain ⟨f, fd, ps, h1, h2⟩ := h.ex
  exact ⟨f, fd, ps, h1.imp tr_up, h2⟩
theorem fun_fnq {x q : Str} {st : Stmt} {f : Addr} {fd : FuncData} {N ps : List Str} {k : Nat} {g : GS} (F : Fun K x q st f fd) (S : FnScope N ps (defScope st))
    (hbody : ∀ (f : Addr) (cdv : Value) (A : Around) (outer : List Env) (s : Shared) (H : Hp) (E : XK), Room k (A.deeper (envOfC q (defScope st) s.heap.objs.size f cdv)) →
      DSs (cxOf CX0 P w K mg base N q (defScope st) f cdv A outer s H E).nox E0 (defBody st) g) : FnOk P w K mg base CX0 (k + 1) f fd ps (upF ps.length K (sem0 N.length g)) := by
  refine F.ok S (fun vs H Q E h => ?_) (fun cdv A outer s H vs Q E hr h => ?_)
  · obtain ⟨G, S, ds, w, kx, k, h1, h2, h3, _⟩ := h
    rw [h3.length, h1]
  · obtain ⟨G, S1, ds, w1, kx, k1, h1, h2, h3, h4, h5, h6⟩ := h
    refine ⟨_, hbody f cdv A outer s H E hr, G, S1, rho N.length ds, w1, { nx := fun _ w' => k1 .non w', rt := k1, ex := noX }, h2, sr_start h3, ⟨fun G' S' H' w' ρ' σ' x1 hr1 _ hk => h5 _ _ _ _ _ _ x1 hr1 .non hk, h5, ?_, ?_, xl_no⟩, h6⟩
    · intro _ _ _ _ _ _ _ _ _ z
      exact z.elim
    · intro _ _ _ _ _ _ _ _ _ z
      exact z.elim
theorem MethAt.fn0 {C : Addr} {m q : Str} {st : Stmt} {N ps : List Str} {k : Nat} {g : GS} (T : MethAt K C m q st ps) (S : FnScope N ps (defScope st))
    (hbody : ∀ (f : Addr) (cdv : Value) (A : Around) (outer : List Env) (s : Shared) (H : Hp) (E : XK), Room k (A.deeper (envOfC q (defScope st) s.heap.objs.size f cdv)) →
      DSs (cxOf CX0 P w K mg base N q (defScope st) f cdv A outer s H E).nox E0 (defBody st) g) : MtAt P w K mg base CX0 (k + 1) C m ps.length (sem0 N.length g) := by
  obtain ⟨f, fd, F, hm, hb⟩ := T.ex
  exact ⟨f, fd, ps, fun_fnq F S hbody, hm, hb⟩
theorem InitAt.fn0 {C : Addr} {q : Str} {st : Stmt} {N ps : List Str} {k : Nat} {g : GS} (T : InitAt K C q st ps) (S : FnScope N ps (defScope st))
    (hbody : ∀ (f : Addr) (cdv : Value) (A : Around) (outer : List Env) (s : Shared) (H : Hp) (E : XK), Room k (A.deeper (envOfC q (defScope st) s.heap.objs.size f cdv)) →
      DSs (cxOf CX0 P w K mg base N q (defScope st) f cdv A outer s H E).nox E0 (defBody st) g) : InAt P w K mg base CX0 (k + 1) C ps.length (sem0 N.length g) := by
  obtain ⟨f, fd, F, hm, hb⟩ := T.ex
  exact ⟨f, fd, ps, fun_fnq F S hbody, hm, hb⟩
end
section
variable {X : Cx} {E : XK} {o e value : Expr} {es : List Expr} {go gv : GE} {ga : GA} {pos pos' apos p : Pos} {f x m : Str} {C : Addr} {fs : List Str} {k n : Nat} {g : GF}
end
end DL

namespace DL
open PySem PySem.Spec PyProof.Rows L2 RZ
structure XCls (K : PySem.W.Frag) (mg : Str → Option Value) (x : Str) (C : Addr) : Prop where
  mgC : mg x = some (.ref C)
  kp : PySem.W.keepIn K (.ref C) = true
  exc : PySem.W.excIn K C [.type "ValueError", .type "Exception", .type "BaseException", .type "object"] "ValueError.__new__" = true
  sub : PySem.W.subIn K (.ref C) (.type "BaseException") = some true
  ty : PySem.W.typeIn K (.ref C) = some (.type "type")
structure Tk (X : Cx) (E : XK) : Prop where
  tk : Takes X (fun cls d _ H => E cls d H)
def gRaise (C : Addr) : GS := fun F _ w => F.ex (.own C) w
section
variable {P : Program} {w : World} {K : PySem.W.Frag} {mg : Str → Option Value} {base : Heap}
theorem fun_fnX {x q : Str} {st : Stmt} {f : Addr} {fd : FuncData} {N ps : List Str} {k : Nat} {g : GS} (F : Fun K x q st f fd) (S : FnScope N ps (defScope st))
    (hbody : ∀ (f : Addr) (cdv : Value) (A : Around) (outer : List Env) (s : Shared) (H : Hp) (E : XK), Room k (A.deeper (envOfC q (defScope st) s.heap.objs.size f cdv)) →
      Tk (cxOf (L2.CX P w) P w K mg base N q (defScope st) f cdv A outer s H E) E → DSs (cxOf (L2.CX P w) P w K mg base N q (defScope st) f cdv A outer s H E) E (defBody st) g) : FnOk P w K mg base (L2.CX P w) (k + 1) f fd ps (upF ps.length K (semX N.length g)) := by
  refine F.okX S (fun vs H Q E h => ?_) (fun cdv A outer s H vs Q E hr h => ?_)
  · obtain ⟨G, S, ds, w, kx, k, h1, h2, h3, _⟩ := h
    rw [h3.length, h1]
  · obtain ⟨G, S1, ds, w1, kx, k1, h1, h2, h3, h4, h5, h6⟩ := h
    refine ⟨_, hbody f cdv A outer s H E hr ⟨takes_of rfl rfl rfl rfl⟩, G, S1, rho N.length ds, w1, { nx := fun _ w' => k1 .non w', rt := k1, ex := kx }, h2, sr_start h3, ⟨fun G' S' H' w' ρ' σ' x1 hr1 _ hk => h5 _ _ _ _ _ _ x1 hr1 .non hk, h5, ?_, ?_, h4⟩, h6⟩
    · intro _ _ _ _ _ _ _ _ _ z
      exact z.elim
    · intro _ _ _ _ _ _ _ _ _ z
      exact z.elim
theorem DefAt.fnX {x : Str} {st : Stmt} {N ps : List Str} {k : Nat} {g : GS} (T : DefAt K mg x st ps) (S : FnScope N ps (defScope st))
    (hbody : ∀ (f : Addr) (cdv : Value) (A : Around) (outer : List Env) (s : Shared) (H : Hp) (E : XK), Room k (A.deeper (envOfC x (defScope st) s.heap.objs.size f cdv)) →
      Tk (cxOf (L2.CX P w) P w K mg base N x (defScope st) f cdv A outer s H E) E → DSs (cxOf (L2.CX P w) P w K mg base N x (defScope st) f cdv A outer s H E) E (defBody st) g) : FnAt P w K mg base (L2.CX P w) (k + 1) x ps.length (semX N.length g) := by
  obtain ⟨f, fd, F, hm, hb⟩ := T.ex
  exact ⟨f, fd, ps, fun_fnX F S hbody, hm, F.kp, hb⟩
theorem MethAt.fnX {C : Addr} {m q : Str} {st : Stmt} {N ps : List Str} {k : Nat} {g : GS} (T : MethAt K C m q st ps) (S : FnScope N ps (defScope st))
    (hbody : ∀ (f : Addr) (cdv : Value) (A : Around) (outer : List Env) (s : Shared) (H : Hp) (E : XK), Room k (A.deeper (envOfC q (defScope st) s.heap.objs.size f cdv)) →
      Tk (cxOf (L2.CX P w) P w K mg base N q (defScope st) f cdv A outer s H E) E → DSs (cxOf (L2.CX P w) P w K mg base N q (defScope st) f cdv A outer s H E) E (defBody st) g) : MtAt P w K mg base (L2.CX P w) (k + 1) C m ps.length (semX N.length g) := by
  obtain ⟨f, fd, F, hm, hb⟩ := T.ex
  exact ⟨f, fd, ps, fun_fnX F S hbody, hm, hb⟩
end
def gCallX (n : Nat) (g : GF) (ga : GA) : GE := fun ρ w kx k => ga ρ w kx fun ds w1 => ds.length = n ∧ g ds w1 kx k
def gMethX (C : Addr) (n : Nat) (sp : GF) (m : Str) (go : GE) (ga : GA) : GE := fun ρ w kx k => go ρ w kx fun x w1 => rfK x fun i => insK C i w1 fun fs => fs.lookup m = none ∧ ga ρ w1 kx fun xs w2 => (x :: xs).length = n ∧ sp (x :: xs) w2 kx k
section
variable {X : Cx} {E : XK} {k n : Nat} {g : GF} {x m : Str} {e o : Expr} {es : List Expr} {ga : GA} {go : GE} {p pos apos : Pos} {C : Addr} {fs : List Str}
end
end DL

namespace DL
open PySem PySem.Spec PyProof.Rows L2 RZ
def DEW (X : Cx) (W : WX) (e : Expr) (g : GE) : Prop := PE X e (fun σ H Q => upE X.K (WE W σ) g σ H Q)
def DSW (X : Cx) (W : WX) (st : Stmt) (g : GS) : Prop := PS X st (fun D σ H => upS X.K (WE W σ) g D σ H)
def DSsW (X : Cx) (W : WX) (st : List Stmt) (g : GS) : Prop := PSs X st (fun D σ H => upS X.K (WE W σ) g D σ H)
section
variable {X : Cx} {W : WX} {k n : Nat} {g : GF} {x m : Str} {e o : Expr} {es : List Expr} {ga : GA} {go ge : GE} {p pos apos : Pos} {C : Addr} {fs : List Str}
def tMethS (C : Addr) (m : Str) (sp : Sp) (E : L2.St → XK) (ta : TE) (t : TA) : TE := fun σ H Q => ta σ H fun x H1 => ∃ a dx fs, x = .ref a ∧ H1 a = some (.ins C dx fs) ∧ fs.lookup m = none ∧ t σ H1 fun vs H2 => sp (x :: vs) H2 Q (E σ)
end
def gTry (i j : Nat) (P : Addr → Prop) (body : GS) : GS := fun F ρ w => i < ρ.length ∧ body { F with ex := fun e w' => match e with
  | .own C => P C ∧ F.nx ((ρ.set j (some (.rf w'.M.length))).set i none) ⟨w'.M ++ [.exc C], w'.n⟩
  | _ => False } ρ w
end DL

namespace DL
open PySem PySem.Spec PyProof.Rows L2 RZ
structure XF where
  (bf taken noname toomuch norate noneleft endless badrow royal : Addr)
  nd : [bf, taken, noname, toomuch, norate, noneleft].Nodup
  ne : ∀ a ∈ [bf, taken, noname, toomuch, norate, noneleft], a ≠ endless ∧ a ≠ badrow ∧ a ≠ royal
  nr : endless ≠ royal ∧ badrow ≠ royal
  nb : endless ≠ badrow
def XF.all (X : XF) : List (Str × Addr) := [("BadFraction", X.bf), ("Taken", X.taken), ("NoName", X.noname), ("TooMuch", X.toomuch), ("NoRate", X.norate), ("NoneLeft", X.noneleft), ("Endless", X.endless), ("BadRow", X.badrow), ("RoyalError", X.royal)]
def XF.addrs (X : XF) : List Addr := [X.bf, X.taken, X.noname, X.toomuch, X.norate, X.noneleft, X.endless, X.badrow, X.royal]
def XF.raised (X : XF) : List Addr := [X.bf, X.taken, X.noname, X.toomuch, X.norate, X.noneleft]
def isEV (X : XF) (D : Addr) : V → Option Bool
  | .ref C => if C ∈ X.addrs then some (decide (D = C ∨ C = X.royal)) else none
  | .ty n => if n = "ValueError" then some true else none
  | _ => none
def isEVs (X : XF) (A : Addr) : List D → Option Bool
  | [] => some false
  | .ob v :: r => match isEV X A v, isEVs X A r with
    | some a, some b => some (a || b)
    | _, _ => none
  | _ :: _ => none
def excK (X : XF) (i : Nat) (w : Wd) (f : Addr → Prop) : Prop := match w.M[i]? with
  | some (.exc A) => A ∈ X.raised ∧ f A
  | _ => False
def optK (o : Option Bool) (f : Bool → Prop) : Prop := match o with
  | some b => f b
  | none => False
def fIsE (X : XF) : FB := fun ds w k => match ds with
  | [.rf i, .ob v] => excK X i w fun A => optK (isEV X A v) fun b => k (.bl b) w
  | _ => False
def fIsET (X : XF) : FB := fun ds w k => match ds with
  | [.rf i, .tup cs] => excK X i w fun A => optK (isEVs X A cs) fun b => k (.bl b) w
  | _ => False
structure XFK (K : PySem.W.Frag) (mg : Str → Option Value) (X : XF) : Prop where
  at_ : ∀ p ∈ X.all, mg p.1 = some (.ref p.2) ∧ PySem.W.keepIn K (.ref p.2) = true ∧ PySem.W.hasDictIn K p.2 = true ∧ PySem.W.typeIn K (.ref p.2) = some (.type "type") ∧ PySem.W.subIn K (.ref p.2) (.type "BaseException") = some true
  exc : ∀ A ∈ X.raised, PySem.W.excIn K A [.type "ValueError", .type "Exception", .type "BaseException", .type "object"] "ValueError.__new__" = true ∧ ExcC K A ∧ PySem.W.subIn K (.ref A) (.type "ValueError") = some true
  sub : ∀ A ∈ X.raised, ∀ C ∈ X.addrs, PySem.W.subIn K (.ref A) (.ref C) = some (decide (A = C ∨ C = X.royal))
section
variable {K : PySem.W.Frag} {mg : Str → Option Value} {X : XF}
theorem XFK.addr (h : XFK K mg X) {C : Addr} (hC : C ∈ X.addrs) : ∃ x, mg x = some (.ref C) ∧ PySem.W.keepIn K (.ref C) = true ∧ PySem.W.hasDictIn K C = true ∧ PySem.W.typeIn K (.ref C) = some (.type "type") ∧ PySem.W.subIn K (.ref C) (.type "BaseException") = some true := by
  have : ∃ p ∈ X.all, p.2 = C := by
    have e : X.addrs = X.all.map (·.2) := rfl
    rw [e] at hC
    exact List.mem_map.mp hC
  obtain ⟨p, hp, rfl⟩ := this
  exact ⟨p.1, h.at_ p hp⟩
theorem XFK.one (h : XFK K mg X) {A : Addr} (hA : A ∈ X.raised) {v : V} {b : Bool} (e : isEV X A v = some b) : ∃ u, ClsV v u ∧ PySem.W.kitOne K (.ref A) u = some b := by
  unfold isEV at e
  split at e
  · rename_i C
    split at e
    · rename_i hC
      refine ⟨.ref C, .own C, ?_⟩
      obtain ⟨_, _, _, hd, ht, _⟩ := h.addr hC
      obtain ⟨cd, hc, _⟩ := PySem.W.any_some hd
      have hs := h.sub A hA C hC
      unfold PySem.W.kitOne PySem.W.kitCls
      by_cases hAC : A = C
      · subst hAC
        simp only [beq_self_eq_true, if_true]
        rw [← e]
        simp
      · rw [if_neg (by simpa using hAC)]
        have e2 : ((PySem.W.clsIn K C).isSome && PySem.W.typeIn K (.ref C) == some (.type "type")) = true := by rw [hc, ht] <;> rfl
        simp only [e2, if_true]
        rw [hs, e]
    · cases e
  · rename_i n
    split at e
    · rename_i hn
      subst hn
      cases e
      refine ⟨.type "ValueError", .ty _, ?_⟩
      unfold PySem.W.kitOne PySem.W.kitCls
      rw [if_neg (by simp)]
      have e2 : PySem.W.kitMeta "ValueError" = true := by decide +kernel
      simp only [e2, if_true]
      exact (h.exc A hA).2.2
    · cases e
  · cases e
theorem XFK.any (h : XFK K mg X) {G : Gh} {S : Hp} {A : Addr} (hA : A ∈ X.raised) : ∀ {vs : List V} {ds : List D} {b : Bool}, RepAll K G S vs ds → isEVs X A ds = some b → ∃ us, Paired ClsV vs us ∧ PySem.W.kitAny K (.ref A) us = some b := by
  intro vs ds b r e
  induction ds generalizing vs b with
  | nil =>
    cases r
    cases e
    exact ⟨[], .nil, rfl⟩
  | cons d ds ih =>
    cases r with
    | cons h1 r =>
      cases d with
      | ob v =>
        simp only [isEVs] at e
        cases e1 : isEV X A v with
        | none => rw [e1] at e; cases e
        | some a1 =>
          cases e2 : isEVs X A ds with
          | none => rw [e1, e2] at e; cases e
          | some b1 =>
            rw [e1, e2] at e
            cases e
            cases h1
            obtain ⟨u, c, hu⟩ := h.one hA e1
            obtain ⟨us, p, hus⟩ := ih r e2
            refine ⟨u :: us, .cons c p, ?_⟩
            unfold PySem.W.kitAny
            rw [hu]
            cases a1
            · exact hus
            · rfl
      | _ => simp [isEVs] at e
theorem optK_get {o : Option Bool} {f : Bool → Prop} (h : optK o f) : ∃ b, o = some b ∧ f b := by
  unfold optK at h
  split at h
  · exact ⟨_, rfl, h⟩
  · exact h.elim
end
section
variable {X : Cx} {E : XK} {e : Expr} {es : List Expr} {ga : GA} {p pos : Pos} {F : XF}
theorem de_own {x : Str} {C : Addr} (hg : Gl X x) (hm : X.mg x = some (.ref C)) (hd : (x == ("__debug__" : Str)) = false := by decide) : DE X E (.Name x pos) (gC (.ob (.ref C))) := pe_imp (pe_glob (v := .ref C) hg hm rfl hd) (by
  rintro σ H Q ⟨G, S, ρ, w, kx, k, hr, sr, xl, kl, h⟩
  exact kl _ _ _ _ _ _ (Ext.refl _ _) hr (.ob rfl) h)
theorem tk0 {X : Cx} : Takes X (fun _ _ _ _ => False) := fun _ _ ⟨_, _, _, _, _, _, _, _, _, _, _, _, _, _, _, _, h⟩ => h.elim
theorem Tk.no {X : Cx} : Tk X E0 := ⟨tk0⟩
theorem XFK.xcls {K : PySem.W.Frag} {mg : Str → Option Value} (h : XFK K mg F) {x : Str} {C : Addr} (hx : (x, C) ∈ F.all) (hr : C ∈ F.raised) : XCls K mg x C := by
  obtain ⟨h1, h2, h3, h4, h5⟩ := h.at_ _ hx
  exact ⟨h1, h2, (h.exc C hr).1, h5, h4⟩
theorem XFK.royal {K : PySem.W.Frag} {mg : Str → Option Value} (h : XFK K mg F) : ∀ B, B ∈ F.raised → PySem.W.exmOne K (.ref B) (.ref F.royal) = some true := by
  intro B hB
  obtain ⟨_, _, hd, ht, hb⟩ := h.at_ ("RoyalError", F.royal) (by simp [XF.all])
  refine PySem.W.exm_ref hb hd ht ?_
  rw [h.sub B hB F.royal (by simp [XF.addrs])]
  simp
theorem XFK.own {K : PySem.W.Frag} {mg : Str → Option Value} (h : XFK K mg F) {x : Str} {C : Addr} (hx : (x, C) ∈ F.all) : mg x = some (.ref C) := (h.at_ _ hx).1
theorem XFK.kp {K : PySem.W.Frag} {mg : Str → Option Value} (h : XFK K mg F) {x : Str} {C : Addr} (hx : (x, C) ∈ F.all) : PySem.W.keepIn K (.ref C) = true := (h.at_ _ hx).2.1
end
theorem is_ve (X : XF) (A : Addr) : isEV X A (.ty "ValueError") = some true := by show (if ("ValueError" : String) = "ValueError" then some true else none) = some true; exact if_pos rfl
theorem ne_of_sub {K : PySem.W.Frag} {A C D : Addr} (h1 : PySem.W.subIn K (.ref A) (.ref C) = some true) (h2 : PySem.W.subIn K (.ref A) (.ref D) = some false) : C ≠ D := fun e => by subst e; rw [h1] at h2; cases h2
theorem xfk_mk {K : PySem.W.Frag} {mg : Str → Option Value} {C_bf C_taken C_noname C_toomuch C_norate C_noneleft C_endless C_badrow C_royal : Addr}
    (xa_bf : mg "BadFraction" = some (.ref C_bf))
    (xk_bf : PySem.W.keepIn K (.ref C_bf) = true)
    (xd_bf : PySem.W.hasDictIn K C_bf = true)
    (xt_bf : PySem.W.typeIn K (.ref C_bf) = some (.type "type"))
    (xb_bf : PySem.W.subIn K (.ref C_bf) (.type "BaseException") = some true)
    (xa_taken : mg "Taken" = some (.ref C_taken))
    (xk_taken : PySem.W.keepIn K (.ref C_taken) = true)
    (xd_taken : PySem.W.hasDictIn K C_taken = true)
    (xt_taken : PySem.W.typeIn K (.ref C_taken) = some (.type "type"))
    (xb_taken : PySem.W.subIn K (.ref C_taken) (.type "BaseException") = some true)
    (xa_noname : mg "NoName" = some (.ref C_noname))
    (xk_noname : PySem.W.keepIn K (.ref C_noname) = true)
    (xd_noname : PySem.W.hasDictIn K C_noname = true)
    (xt_noname : PySem.W.typeIn K (.ref C_noname) = some (.type "type"))
    (xb_noname : PySem.W.subIn K (.ref C_noname) (.type "BaseException") = some true)
    (xa_toomuch : mg "TooMuch" = some (.ref C_toomuch))
    (xk_toomuch : PySem.W.keepIn K (.ref C_toomuch) = true)
    (xd_toomuch : PySem.W.hasDictIn K C_toomuch = true)
    (xt_toomuch : PySem.W.typeIn K (.ref C_toomuch) = some (.type "type"))
    (xb_toomuch : PySem.W.subIn K (.ref C_toomuch) (.type "BaseException") = some true)
    (xa_norate : mg "NoRate" = some (.ref C_norate))
    (xk_norate : PySem.W.keepIn K (.ref C_norate) = true)
    (xd_norate : PySem.W.hasDictIn K C_norate = true)
    (xt_norate : PySem.W.typeIn K (.ref C_norate) = some (.type "type"))
    (xb_norate : PySem.W.subIn K (.ref C_norate) (.type "BaseException") = some true)
    (xa_noneleft : mg "NoneLeft" = some (.ref C_noneleft))
    (xk_noneleft : PySem.W.keepIn K (.ref C_noneleft) = true)
    (xd_noneleft : PySem.W.hasDictIn K C_noneleft = true)
    (xt_noneleft : PySem.W.typeIn K (.ref C_noneleft) = some (.type "type"))
    (xb_noneleft : PySem.W.subIn K (.ref C_noneleft) (.type "BaseException") = some true)
    (xa_endless : mg "Endless" = some (.ref C_endless))
    (xk_endless : PySem.W.keepIn K (.ref C_endless) = true)
    (xd_endless : PySem.W.hasDictIn K C_endless = true)
    (xt_endless : PySem.W.typeIn K (.ref C_endless) = some (.type "type"))
    (xb_endless : PySem.W.subIn K (.ref C_endless) (.type "BaseException") = some true)
    (xa_badrow : mg "BadRow" = some (.ref C_badrow))
    (xk_badrow : PySem.W.keepIn K (.ref C_badrow) = true)
    (xd_badrow : PySem.W.hasDictIn K C_badrow = true)
    (xt_badrow : PySem.W.typeIn K (.ref C_badrow) = some (.type "type"))
    (xb_badrow : PySem.W.subIn K (.ref C_badrow) (.type "BaseException") = some true)
    (xa_royal : mg "RoyalError" = some (.ref C_royal))
    (xk_royal : PySem.W.keepIn K (.ref C_royal) = true)
    (xd_royal : PySem.W.hasDictIn K C_royal = true)
    (xt_royal : PySem.W.typeIn K (.ref C_royal) = some (.type "type"))
    (xb_royal : PySem.W.subIn K (.ref C_royal) (.type "BaseException") = some true)
    (xe_bf : PySem.W.excIn K C_bf [.type "ValueError", .type "Exception", .type "BaseException", .type "object"] "ValueError.__new__" = true)
    (xv_bf : PySem.W.subIn K (.ref C_bf) (.type "ValueError") = some true)
    (xg_bf : PySem.W.findIn K (.ref C_bf) "__getattribute__" = some (some (.builtin "BaseException.__getattribute__")))
    (xh_bf : PySem.W.findIn K (.ref C_bf) "__getattr__" = some none)
    (xc_bf : PySem.W.findIn K (.ref C_bf) "__class__" = some (some (.builtin "object.__class__")))
    (xm_bf : PySem.W.mroIn K C_bf (.type "object") = some true)
    (xs_bf_bf : PySem.W.subIn K (.ref C_bf) (.ref C_bf) = some true)
    (xs_bf_taken : PySem.W.subIn K (.ref C_bf) (.ref C_taken) = some false)
    (xs_bf_noname : PySem.W.subIn K (.ref C_bf) (.ref C_noname) = some false)
    (xs_bf_toomuch : PySem.W.subIn K (.ref C_bf) (.ref C_toomuch) = some false)
    (xs_bf_norate : PySem.W.subIn K (.ref C_bf) (.ref C_norate) = some false)
    (xs_bf_noneleft : PySem.W.subIn K (.ref C_bf) (.ref C_noneleft) = some false)
    (xs_bf_endless : PySem.W.subIn K (.ref C_bf) (.ref C_endless) = some false)
    (xs_bf_badrow : PySem.W.subIn K (.ref C_bf) (.ref C_badrow) = some false)
    (xs_bf_royal : PySem.W.subIn K (.ref C_bf) (.ref C_royal) = some true)
    (xe_taken : PySem.W.excIn K C_taken [.type "ValueError", .type "Exception", .type "BaseException", .type "object"] "ValueError.__new__" = true)
    (xv_taken : PySem.W.subIn K (.ref C_taken) (.type "ValueError") = some true)
    (xg_taken : PySem.W.findIn K (.ref C_taken) "__getattribute__" = some (some (.builtin "BaseException.__getattribute__")))
    (xh_taken : PySem.W.findIn K (.ref C_taken) "__getattr__" = some none)
    (xc_taken : PySem.W.findIn K (.ref C_taken) "__class__" = some (some (.builtin "object.__class__")))
    (xm_taken : PySem.W.mroIn K C_taken (.type "object") = some true)
    (xs_taken_bf : PySem.W.subIn K (.ref C_taken) (.ref C_bf) = some false)
    (xs_taken_taken : PySem.W.subIn K (.ref C_taken) (.ref C_taken) = some true)
    (xs_taken_noname : PySem.W.subIn K (.ref C_taken) (.ref C_noname) = some false)
    (xs_taken_toomuch : PySem.W.subIn K (.ref C_taken) (.ref C_toomuch) = some false)
    (xs_taken_norate : PySem.W.subIn K (.ref C_taken) (.ref C_norate) = some false)
    (xs_taken_noneleft : PySem.W.subIn K (.ref C_taken) (.ref C_noneleft) = some false)
    (xs_taken_endless : PySem.W.subIn K (.ref C_taken) (.ref C_endless) = some false)
    (xs_taken_badrow : PySem.W.subIn K (.ref C_taken) (.ref C_badrow) = some false)
    (xs_taken_royal : PySem.W.subIn K (.ref C_taken) (.ref C_royal) = some true)
    (xe_noname : PySem.W.excIn K C_noname [.type "ValueError", .type "Exception", .type "BaseException", .type "object"] "ValueError.__new__" = true)
    (xv_noname : PySem.W.subIn K (.ref C_noname) (.type "ValueError") = some true)
    (xg_noname : PySem.W.findIn K (.ref C_noname) "__getattribute__" = some (some (.builtin "BaseException.__getattribute__")))
    (xh_noname : PySem.W.findIn K (.ref C_noname) "__getattr__" = some none)
    (xc_noname : PySem.W.findIn K (.ref C_noname) "__class__" = some (some (.builtin "object.__class__")))
    (xm_noname : PySem.W.mroIn K C_noname (.type "object") = some true)
    (xs_noname_bf : PySem.W.subIn K (.ref C_noname) (.ref C_bf) = some false)
    (xs_noname_taken : PySem.W.subIn K (.ref C_noname) (.ref C_taken) = some false)
    (xs_noname_noname : PySem.W.subIn K (.ref C_noname) (.ref C_noname) = some true)
    (xs_noname_toomuch : PySem.W.subIn K (.ref C_noname) (.ref C_toomuch) = some false)
    (xs_noname_norate : PySem.W.subIn K (.ref C_noname) (.ref C_norate) = some false)
    (xs_noname_noneleft : PySem.W.subIn K (.ref C_noname) (.ref C_noneleft) = some false)
    (xs_noname_endless : PySem.W.subIn K (.ref C_noname) (.ref C_endless) = some false)
    (xs_noname_badrow : PySem.W.subIn K (.ref C_noname) (.ref C_badrow) = some false)
    (xs_noname_royal : PySem.W.subIn K (.ref C_noname) (.ref C_royal) = some true)
    (xe_toomuch : PySem.W.excIn K C_toomuch [.type "ValueError", .type "Exception", .type "BaseException", .type "object"] "ValueError.__new__" = true)
    (xv_toomuch : PySem.W.subIn K (.ref C_toomuch) (.type "ValueError") = some true)
    (xg_toomuch : PySem.W.findIn K (.ref C_toomuch) "__getattribute__" = some (some (.builtin "BaseException.__getattribute__")))
    (xh_toomuch : PySem.W.findIn K (.ref C_toomuch) "__getattr__" = some none)
    (xc_toomuch : PySem.W.findIn K (.ref C_toomuch) "__class__" = some (some (.builtin "object.__class__")))
    (xm_toomuch : PySem.W.mroIn K C_toomuch (.type "object") = some true)
    (xs_toomuch_bf : PySem.W.subIn K (.ref C_toomuch) (.ref C_bf) = some false)
    (xs_toomuch_taken : PySem.W.subIn K (.ref C_toomuch) (.ref C_taken) = some false)
    (xs_toomuch_noname : PySem.W.subIn K (.ref C_toomuch) (.ref C_noname) = some false)
    (xs_toomuch_toomuch : PySem.W.subIn K (.ref C_toomuch) (.ref C_toomuch) = some true)
    (xs_toomuch_norate : PySem.W.subIn K (.ref C_toomuch) (.ref C_norate) = some false)
    (xs_toomuch_noneleft : PySem.W.subIn K (.ref C_toomuch) (.ref C_noneleft) = some false)
    (xs_toomuch_endless : PySem.W.subIn K (.ref C_toomuch) (.ref C_endless) = some false)
    (xs_toomuch_badrow : PySem.W.subIn K (.ref C_toomuch) (.ref C_badrow) = some false)
    (xs_toomuch_royal : PySem.W.subIn K (.ref C_toomuch) (.ref C_royal) = some true)
    (xe_norate : PySem.W.excIn K C_norate [.type "ValueError", .type "Exception", .type "BaseException", .type "object"] "ValueError.__new__" = true)
    (xv_norate : PySem.W.subIn K (.ref C_norate) (.type "ValueError") = some true)
    (xg_norate : PySem.W.findIn K (.ref C_norate) "__getattribute__" = some (some (.builtin "BaseException.__getattribute__")))
    (xh_norate : PySem.W.findIn K (.ref C_norate) "__getattr__" = some none)
    (xc_norate : PySem.W.findIn K (.ref C_norate) "__class__" = some (some (.builtin "object.__class__")))
    (xm_norate : PySem.W.mroIn K C_norate (.type "object") = some true)
    (xs_norate_bf : PySem.W.subIn K (.ref C_norate) (.ref C_bf) = some false)
    (xs_norate_taken : PySem.W.subIn K (.ref C_norate) (.ref C_taken) = some false)
    (xs_norate_noname : PySem.W.subIn K (.ref C_norate) (.ref C_noname) = some false)
    (xs_norate_toomuch : PySem.W.subIn K (.ref C_norate) (.ref C_toomuch) = some false)
    (xs_norate_norate : PySem.W.subIn K (.ref C_norate) (.ref C_norate) = some true)
    (xs_norate_noneleft : PySem.W.subIn K (.ref C_norate) (.ref C_noneleft) = some false)
    (xs_norate_endless : PySem.W.subIn K (.ref C_norate) (.ref C_endless) = some false)
    (xs_norate_badrow : PySem.W.subIn K (.ref C_norate) (.ref C_badrow) = some false)
    (xs_norate_royal : PySem.W.subIn K (.ref C_norate) (.ref C_royal) = some true)
    (xe_noneleft : PySem.W.excIn K C_noneleft [.type "ValueError", .type "Exception", .type "BaseException", .type "object"] "ValueError.__new__" = true)
    (xv_noneleft : PySem.W.subIn K (.ref C_noneleft) (.type "ValueError") = some true)
    (xg_noneleft : PySem.W.findIn K (.ref C_noneleft) "__getattribute__" = some (some (.builtin "BaseException.__getattribute__")))
    (xh_noneleft : PySem.W.findIn K (.ref C_noneleft) "__getattr__" = some none)
    (xc_noneleft : PySem.W.findIn K (.ref C_noneleft) "__class__" = some (some (.builtin "object.__class__")))
    (xm_noneleft : PySem.W.mroIn K C_noneleft (.type "object") = some true)
    (xs_noneleft_bf : PySem.W.subIn K (.ref C_noneleft) (.ref C_bf) = some false)
    (xs_noneleft_taken : PySem.W.subIn K (.ref C_noneleft) (.ref C_taken) = some false)
    (xs_noneleft_noname : PySem.W.subIn K (.ref C_noneleft) (.ref C_noname) = some false)
    (xs_noneleft_toomuch : PySem.W.subIn K (.ref C_noneleft) (.ref C_toomuch) = some false)
    (xs_noneleft_norate : PySem.W.subIn K (.ref C_noneleft) (.ref C_norate) = some false)
    (xs_noneleft_noneleft : PySem.W.subIn K (.ref C_noneleft) (.ref C_noneleft) = some true)
    (xs_noneleft_endless : PySem.W.subIn K (.ref C_noneleft) (.ref C_endless) = some false)
    (xs_noneleft_badrow : PySem.W.subIn K (.ref C_noneleft) (.ref C_badrow) = some false)
    (xs_noneleft_royal : PySem.W.subIn K (.ref C_noneleft) (.ref C_royal) = some true)
    (xn : PySem.W.specialIn K (.builtin "object.__class__") "__get__" = some (some (.builtin "getset_descriptor.__get__")))
    (xq : PySem.W.takesIn K (.builtin "object.__class__") = some true)
    (xs_endless_endless : PySem.W.subIn K (.ref C_endless) (.ref C_endless) = some true)
    (xs_endless_badrow : PySem.W.subIn K (.ref C_endless) (.ref C_badrow) = some false)
    : ∃ X : XF, XFK K mg X := by
  have n_bf_taken : C_bf ≠ C_taken := ne_of_sub xs_bf_bf xs_bf_taken
  have n_bf_noname : C_bf ≠ C_noname := ne_of_sub xs_bf_bf xs_bf_noname
  have n_bf_toomuch : C_bf ≠ C_toomuch := ne_of_sub xs_bf_bf xs_bf_toomuch
  have n_bf_norate : C_bf ≠ C_norate := ne_of_sub xs_bf_bf xs_bf_norate
  have n_bf_noneleft : C_bf ≠ C_noneleft := ne_of_sub xs_bf_bf xs_bf_noneleft
  have n_bf_endless : C_bf ≠ C_endless := ne_of_sub xs_bf_bf xs_bf_endless
  have n_bf_badrow : C_bf ≠ C_badrow := ne_of_sub xs_bf_bf xs_bf_badrow
  have n_bf_royal : C_bf ≠ C_royal := (ne_of_sub xs_taken_royal xs_taken_bf).symm
  have n_taken_bf : C_taken ≠ C_bf := ne_of_sub xs_taken_taken xs_taken_bf
  have n_taken_noname : C_taken ≠ C_noname := ne_of_sub xs_taken_taken xs_taken_noname
  have n_taken_toomuch : C_taken ≠ C_toomuch := ne_of_sub xs_taken_taken xs_taken_toomuch
  have n_taken_norate : C_taken ≠ C_norate := ne_of_sub xs_taken_taken xs_taken_norate
  have n_taken_noneleft : C_taken ≠ C_noneleft := ne_of_sub xs_taken_taken xs_taken_noneleft
  have n_taken_endless : C_taken ≠ C_endless := ne_of_sub xs_taken_taken xs_taken_endless
  have n_taken_badrow : C_taken ≠ C_badrow := ne_of_sub xs_taken_taken xs_taken_badrow
  have n_taken_royal : C_taken ≠ C_royal := (ne_of_sub xs_noname_royal xs_noname_taken).symm
  have n_noname_bf : C_noname ≠ C_bf := ne_of_sub xs_noname_noname xs_noname_bf
  have n_noname_taken : C_noname ≠ C_taken := ne_of_sub xs_noname_noname xs_noname_taken
  have n_noname_toomuch : C_noname ≠ C_toomuch := ne_of_sub xs_noname_noname xs_noname_toomuch
  have n_noname_norate : C_noname ≠ C_norate := ne_of_sub xs_noname_noname xs_noname_norate
  have n_noname_noneleft : C_noname ≠ C_noneleft := ne_of_sub xs_noname_noname xs_noname_noneleft
  have n_noname_endless : C_noname ≠ C_endless := ne_of_sub xs_noname_noname xs_noname_endless
  have n_noname_badrow : C_noname ≠ C_badrow := ne_of_sub xs_noname_noname xs_noname_badrow
  have n_noname_royal : C_noname ≠ C_royal := (ne_of_sub xs_toomuch_royal xs_toomuch_noname).symm
  have n_toomuch_bf : C_toomuch ≠ C_bf := ne_of_sub xs_toomuch_toomuch xs_toomuch_bf
  have n_toomuch_taken : C_toomuch ≠ C_taken := ne_of_sub xs_toomuch_toomuch xs_toomuch_taken
  have n_toomuch_noname : C_toomuch ≠ C_noname := ne_of_sub xs_toomuch_toomuch xs_toomuch_noname
  have n_toomuch_norate : C_toomuch ≠ C_norate := ne_of_sub xs_toomuch_toomuch xs_toomuch_norate
  have n_toomuch_noneleft : C_toomuch ≠ C_noneleft := ne_of_sub xs_toomuch_toomuch xs_toomuch_noneleft
  have n_toomuch_endless : C_toomuch ≠ C_endless := ne_of_sub xs_toomuch_toomuch xs_toomuch_endless
  have n_toomuch_badrow : C_toomuch ≠ C_badrow := ne_of_sub xs_toomuch_toomuch xs_toomuch_badrow
  have n_toomuch_royal : C_toomuch ≠ C_royal := (ne_of_sub xs_norate_royal xs_norate_toomuch).symm
  have n_norate_bf : C_norate ≠ C_bf := ne_of_sub xs_norate_norate xs_norate_bf
  have n_norate_taken : C_norate ≠ C_taken := ne_of_sub xs_norate_norate xs_norate_taken
  have n_norate_noname : C_norate ≠ C_noname := ne_of_sub xs_norate_norate xs_norate_noname
  have n_norate_toomuch : C_norate ≠ C_toomuch := ne_of_sub xs_norate_norate xs_norate_toomuch
  have n_norate_noneleft : C_norate ≠ C_noneleft := ne_of_sub xs_norate_norate xs_norate_noneleft
  have n_norate_endless : C_norate ≠ C_endless := ne_of_sub xs_norate_norate xs_norate_endless
  have n_norate_badrow : C_norate ≠ C_badrow := ne_of_sub xs_norate_norate xs_norate_badrow
  have n_norate_royal : C_norate ≠ C_royal := (ne_of_sub xs_noneleft_royal xs_noneleft_norate).symm
  have n_noneleft_bf : C_noneleft ≠ C_bf := ne_of_sub xs_noneleft_noneleft xs_noneleft_bf
  have n_noneleft_taken : C_noneleft ≠ C_taken := ne_of_sub xs_noneleft_noneleft xs_noneleft_taken
  have n_noneleft_noname : C_noneleft ≠ C_noname := ne_of_sub xs_noneleft_noneleft xs_noneleft_noname
  have n_noneleft_toomuch : C_noneleft ≠ C_toomuch := ne_of_sub xs_noneleft_noneleft xs_noneleft_toomuch
  have n_noneleft_norate : C_noneleft ≠ C_norate := ne_of_sub xs_noneleft_noneleft xs_noneleft_norate
  have n_noneleft_endless : C_noneleft ≠ C_endless := ne_of_sub xs_noneleft_noneleft xs_noneleft_endless
  have n_noneleft_badrow : C_noneleft ≠ C_badrow := ne_of_sub xs_noneleft_noneleft xs_noneleft_badrow
  have n_noneleft_royal : C_noneleft ≠ C_royal := (ne_of_sub xs_bf_royal xs_bf_noneleft).symm
  have n_endless_royal : C_endless ≠ C_royal := fun z => by rw [z, xs_bf_royal] at xs_bf_endless; cases xs_bf_endless
  have n_badrow_royal : C_badrow ≠ C_royal := fun z => by rw [z, xs_bf_royal] at xs_bf_badrow; cases xs_bf_badrow
  refine ⟨⟨C_bf, C_taken, C_noname, C_toomuch, C_norate, C_noneleft, C_endless, C_badrow, C_royal, by simp [n_bf_taken, n_bf_noname, n_bf_toomuch, n_bf_norate, n_bf_noneleft, n_taken_noname, n_taken_toomuch, n_taken_norate, n_taken_noneleft, n_noname_toomuch, n_noname_norate, n_noname_noneleft, n_toomuch_norate, n_toomuch_noneleft, n_norate_noneleft], by simp [n_bf_endless, n_bf_badrow, n_bf_royal, n_taken_endless, n_taken_badrow, n_taken_royal, n_noname_endless, n_noname_badrow, n_noname_royal, n_toomuch_endless, n_toomuch_badrow, n_toomuch_royal, n_norate_endless, n_norate_badrow, n_norate_royal, n_noneleft_endless, n_noneleft_badrow, n_noneleft_royal], ⟨n_endless_royal, n_badrow_royal⟩, ne_of_sub xs_endless_endless xs_endless_badrow⟩, ?_, ?_, ?_⟩
  · intro p hp
    simp only [XF.all, List.mem_cons, List.not_mem_nil, or_false] at hp
    rcases hp with rfl | rfl | rfl | rfl | rfl | rfl | rfl | rfl | rfl
    · exact ⟨xa_bf, xk_bf, xd_bf, xt_bf, xb_bf⟩
    · exact ⟨xa_taken, xk_taken, xd_taken, xt_taken, xb_taken⟩
    · exact ⟨xa_noname, xk_noname, xd_noname, xt_noname, xb_noname⟩
    · exact ⟨xa_toomuch, xk_toomuch, xd_toomuch, xt_toomuch, xb_toomuch⟩
    · exact ⟨xa_norate, xk_norate, xd_norate, xt_norate, xb_norate⟩
    · exact ⟨xa_noneleft, xk_noneleft, xd_noneleft, xt_noneleft, xb_noneleft⟩
    · exact ⟨xa_endless, xk_endless, xd_endless, xt_endless, xb_endless⟩
    · exact ⟨xa_badrow, xk_badrow, xd_badrow, xt_badrow, xb_badrow⟩
    · exact ⟨xa_royal, xk_royal, xd_royal, xt_royal, xb_royal⟩
  · intro A hA
    simp only [XF.raised, List.mem_cons, List.not_mem_nil, or_false] at hA
    rcases hA with rfl | rfl | rfl | rfl | rfl | rfl
    · exact ⟨xe_bf, ⟨xg_bf, xh_bf, xb_bf, xd_bf, xc_bf, xn, xq, xm_bf⟩, xv_bf⟩
    · exact ⟨xe_taken, ⟨xg_taken, xh_taken, xb_taken, xd_taken, xc_taken, xn, xq, xm_taken⟩, xv_taken⟩
    · exact ⟨xe_noname, ⟨xg_noname, xh_noname, xb_noname, xd_noname, xc_noname, xn, xq, xm_noname⟩, xv_noname⟩
    · exact ⟨xe_toomuch, ⟨xg_toomuch, xh_toomuch, xb_toomuch, xd_toomuch, xc_toomuch, xn, xq, xm_toomuch⟩, xv_toomuch⟩
    · exact ⟨xe_norate, ⟨xg_norate, xh_norate, xb_norate, xd_norate, xc_norate, xn, xq, xm_norate⟩, xv_norate⟩
    · exact ⟨xe_noneleft, ⟨xg_noneleft, xh_noneleft, xb_noneleft, xd_noneleft, xc_noneleft, xn, xq, xm_noneleft⟩, xv_noneleft⟩
  · intro A hA C hC
    simp only [XF.raised, XF.addrs, List.mem_cons, List.not_mem_nil, or_false] at hA hC ⊢
    rcases hA with hA | hA | hA | hA | hA | hA
    · rcases hC with hC | hC | hC | hC | hC | hC | hC | hC | hC
      · rw [hA, hC, xs_bf_bf, decide_eq_true (.inl rfl)]
      · rw [hA, hC, xs_bf_taken, decide_eq_false (not_or.mpr ⟨n_bf_taken, n_taken_royal⟩)]
      · rw [hA, hC, xs_bf_noname, decide_eq_false (not_or.mpr ⟨n_bf_noname, n_noname_royal⟩)]
      · rw [hA, hC, xs_bf_toomuch, decide_eq_false (not_or.mpr ⟨n_bf_toomuch, n_toomuch_royal⟩)]
      · rw [hA, hC, xs_bf_norate, decide_eq_false (not_or.mpr ⟨n_bf_norate, n_norate_royal⟩)]
      · rw [hA, hC, xs_bf_noneleft, decide_eq_false (not_or.mpr ⟨n_bf_noneleft, n_noneleft_royal⟩)]
      · rw [hA, hC, xs_bf_endless, decide_eq_false (not_or.mpr ⟨n_bf_endless, n_endless_royal⟩)]
      · rw [hA, hC, xs_bf_badrow, decide_eq_false (not_or.mpr ⟨n_bf_badrow, n_badrow_royal⟩)]
      · rw [hA, hC, xs_bf_royal, decide_eq_true (.inr rfl)]
    · rcases hC with hC | hC | hC | hC | hC | hC | hC | hC | hC
      · rw [hA, hC, xs_taken_bf, decide_eq_false (not_or.mpr ⟨n_taken_bf, n_bf_royal⟩)]
      · rw [hA, hC, xs_taken_taken, decide_eq_true (.inl rfl)]
      · rw [hA, hC, xs_taken_noname, decide_eq_false (not_or.mpr ⟨n_taken_noname, n_noname_royal⟩)]
      · rw [hA, hC, xs_taken_toomuch, decide_eq_false (not_or.mpr ⟨n_taken_toomuch, n_toomuch_royal⟩)]
      · rw [hA, hC, xs_taken_norate, decide_eq_false (not_or.mpr ⟨n_taken_norate, n_norate_royal⟩)]
      · rw [hA, hC, xs_taken_noneleft, decide_eq_false (not_or.mpr ⟨n_taken_noneleft, n_noneleft_royal⟩)]
      · rw [hA, hC, xs_taken_endless, decide_eq_false (not_or.mpr ⟨n_taken_endless, n_endless_royal⟩)]
      · rw [hA, hC, xs_taken_badrow, decide_eq_false (not_or.mpr ⟨n_taken_badrow, n_badrow_royal⟩)]
      · rw [hA, hC, xs_taken_royal, decide_eq_true (.inr rfl)]
    · rcases hC with hC | hC | hC | hC | hC | hC | hC | hC | hC
      · rw [hA, hC, xs_noname_bf, decide_eq_false (not_or.mpr ⟨n_noname_bf, n_bf_royal⟩)]
      · rw [hA, hC, xs_noname_taken, decide_eq_false (not_or.mpr ⟨n_noname_taken, n_taken_royal⟩)]
      · rw [hA, hC, xs_noname_noname, decide_eq_true (.inl rfl)]
      · rw [hA, hC, xs_noname_toomuch, decide_eq_false (not_or.mpr ⟨n_noname_toomuch, n_toomuch_royal⟩)]
      · rw [hA, hC, xs_noname_norate, decide_eq_false (not_or.mpr ⟨n_noname_norate, n_norate_royal⟩)]
      · rw [hA, hC, xs_noname_noneleft, decide_eq_false (not_or.mpr ⟨n_noname_noneleft, n_noneleft_royal⟩)]
      · rw [hA, hC, xs_noname_endless, decide_eq_false (not_or.mpr ⟨n_noname_endless, n_endless_royal⟩)]
      · rw [hA, hC, xs_noname_badrow, decide_eq_false (not_or.mpr ⟨n_noname_badrow, n_badrow_royal⟩)]
      · rw [hA, hC, xs_noname_royal, decide_eq_true (.inr rfl)]
    · rcases hC with hC | hC | hC | hC | hC | hC | hC | hC | hC
      · rw [hA, hC, xs_toomuch_bf, decide_eq_false (not_or.mpr ⟨n_toomuch_bf, n_bf_royal⟩)]
      · rw [hA, hC, xs_toomuch_taken, decide_eq_false (not_or.mpr ⟨n_toomuch_taken, n_taken_royal⟩)]
      · rw [hA, hC, xs_toomuch_noname, decide_eq_false (not_or.mpr ⟨n_toomuch_noname, n_noname_royal⟩)]
      · rw [hA, hC, xs_toomuch_toomuch, decide_eq_true (.inl rfl)]
      · rw [hA, hC, xs_toomuch_norate, decide_eq_false (not_or.mpr ⟨n_toomuch_norate, n_norate_royal⟩)]
      · rw [hA, hC, xs_toomuch_noneleft, decide_eq_false (not_or.mpr ⟨n_toomuch_noneleft, n_noneleft_royal⟩)]
      · rw [hA, hC, xs_toomuch_endless, decide_eq_false (not_or.mpr ⟨n_toomuch_endless, n_endless_royal⟩)]
      · rw [hA, hC, xs_toomuch_badrow, decide_eq_false (not_or.mpr ⟨n_toomuch_badrow, n_badrow_royal⟩)]
      · rw [hA, hC, xs_toomuch_royal, decide_eq_true (.inr rfl)]
    · rcases hC with hC | hC | hC | hC | hC | hC | hC | hC | hC
      · rw [hA, hC, xs_norate_bf, decide_eq_false (not_or.mpr ⟨n_norate_bf, n_bf_royal⟩)]
      · rw [hA, hC, xs_norate_taken, decide_eq_false (not_or.mpr ⟨n_norate_taken, n_taken_royal⟩)]
      · rw [hA, hC, xs_norate_noname, decide_eq_false (not_or.mpr ⟨n_norate_noname, n_noname_royal⟩)]
      · rw [hA, hC, xs_norate_toomuch, decide_eq_false (not_or.mpr ⟨n_norate_toomuch, n_toomuch_royal⟩)]
      · rw [hA, hC, xs_norate_norate, decide_eq_true (.inl rfl)]
      · rw [hA, hC, xs_norate_noneleft, decide_eq_false (not_or.mpr ⟨n_norate_noneleft, n_noneleft_royal⟩)]
      · rw [hA, hC, xs_norate_endless, decide_eq_false (not_or.mpr ⟨n_norate_endless, n_endless_royal⟩)]
      · rw [hA, hC, xs_norate_badrow, decide_eq_false (not_or.mpr ⟨n_norate_badrow, n_badrow_royal⟩)]
      · rw [hA, hC, xs_norate_royal, decide_eq_true (.inr rfl)]
    · rcases hC with hC | hC | hC | hC | hC | hC | hC | hC | hC
      · rw [hA, hC, xs_noneleft_bf, decide_eq_false (not_or.mpr ⟨n_noneleft_bf, n_bf_royal⟩)]
      · rw [hA, hC, xs_noneleft_taken, decide_eq_false (not_or.mpr ⟨n_noneleft_taken, n_taken_royal⟩)]
      · rw [hA, hC, xs_noneleft_noname, decide_eq_false (not_or.mpr ⟨n_noneleft_noname, n_noname_royal⟩)]
      · rw [hA, hC, xs_noneleft_toomuch, decide_eq_false (not_or.mpr ⟨n_noneleft_toomuch, n_toomuch_royal⟩)]
      · rw [hA, hC, xs_noneleft_norate, decide_eq_false (not_or.mpr ⟨n_noneleft_norate, n_norate_royal⟩)]
      · rw [hA, hC, xs_noneleft_noneleft, decide_eq_true (.inl rfl)]
      · rw [hA, hC, xs_noneleft_endless, decide_eq_false (not_or.mpr ⟨n_noneleft_endless, n_endless_royal⟩)]
      · rw [hA, hC, xs_noneleft_badrow, decide_eq_false (not_or.mpr ⟨n_noneleft_badrow, n_badrow_royal⟩)]
      · rw [hA, hC, xs_noneleft_royal, decide_eq_true (.inr rfl)]
end DL

namespace DL
open PySem PySem.Spec PyProof.Rows L2 RZ

def LamOut (H H1 : Hp) (P c : Addr) (q : Str) (ps : Array Value) : Prop :=
  (H1 = H ∧ H c = some (LamX.CodeO c q)) ∨ ∃ a b : Value, H c = none ∧ TriplesOk (ps ++ #[a, b, .ref c]).toList ∧ H1 = upd (upd H P (.tbl (ps ++ #[a, b, .ref c]))) c (LamX.CodeO c q) ∧
    ∀ (p' : Pos) (cv : Value), codeAmong p' (ps ++ #[a, b, .ref c]).toList = some cv → codeAmong p' ps.toList = some cv ∨ cv = .ref c
structure LamIx (params : Arguments) (scope : Scope) (one : Str) : Prop where
  kind : scope.kind = .function
  co : scope.isCoroutine = false
  gen : scope.isGenerator = false
  cell : ∀ x ∈ scope.names, x.2 ≠ .cell
  free : ∀ x ∈ scope.names, x.2 ≠ .free
  loc : scope.names.lookup one = some .local
  bind : ∀ (q : Str) (body : Expr) (cl : List (Str × Addr)) (pm cv ctv v : Value), bindArgs (PySem.W.kla_fn "<lambda>" q params body scope cl pm cv ctv) ⟨[v], []⟩ = pure [(one, v)]
end DL

namespace DL
open PySem PySem.Spec PyProof.Rows L2 RZ

def keyI (i : Int) (d : D) : Int := match d with
  | .tup ys => match atI ys i with
    | some (.int n) => n
    | _ => 0
  | _ => 0
def HasKey (i : Int) (d : D) : Prop := ∃ ys n, d = .tup ys ∧ atI ys i = some (.int n)
def leI (i : Int) (a b : D) : Bool := decide (keyI i a ≤ keyI i b)
def newK (c : Bool) (ds : List D) (w : Wd) (k : KD) : Prop := match c with
  | false => k (.lst ds) w
  | true => k (.rf w.M.length) ⟨w.M ++ [.lst ds], w.n⟩
def gSortKeyG (c : Bool) (P : Addr) (q : Str) (i : Int) (ge : GE) : GE := fun ρ w kx k => ge ρ w kx fun d w1 => lstK d w1 fun xs => (∃ j : Nat, w1.M[j]? = some (.tbl P q)) ∧ (∀ x ∈ xs, HasKey i x) ∧ newK c (xs.mergeSort (leI i)) w1 k
abbrev gSortKey := gSortKeyG false
abbrev gSortKeyC := gSortKeyG true
theorem rep_zip {K : PySem.W.Frag} {G : Gh} {S : Hp} : ∀ {vs : List V} {ds : List D}, RepAll K G S vs ds → ∃ zs : List (V × D), zs.map Prod.fst = vs ∧ zs.map Prod.snd = ds ∧ ∀ z ∈ zs, Rep K G S z.1 z.2
  | _, _, .nil => ⟨[], rfl, rfl, fun _ h => nomatch h⟩
  | _, _, .cons (v := v) (d := d) h r => by
    obtain ⟨zs, h1, h2, h3⟩ := rep_zip r
    exact ⟨(v, d) :: zs, by rw [List.map_cons, h1], by rw [List.map_cons, h2], List.forall_mem_cons.mpr ⟨h, h3⟩⟩
theorem rep_unzip {K : PySem.W.Frag} {G : Gh} {S : Hp} : ∀ {zs : List (V × D)}, (∀ z ∈ zs, Rep K G S z.1 z.2) → RepAll K G S (zs.map Prod.fst) (zs.map Prod.snd)
  | [], _ => .nil
  | z :: zs, h => .cons (h z List.mem_cons_self) (rep_unzip fun y hy => h y (List.mem_cons_of_mem _ hy))
theorem each_vals : ∀ {zs : List (V × D)} {us : List Value}, Vals (zs.map Prod.fst) us → PySem.W.EachIs (fun (u : Value) (z : V × D) => RelV z.1 u) us zs
  | [], _, h => by
    cases h
    exact .nil
  | z :: zs, _, h => by
    cases h with
    | cons h1 h2 => exact .cons h1 (each_vals h2)
theorem vals_each : ∀ {zs : List (V × D)} {us : List Value}, PySem.W.EachIs (fun (u : Value) (z : V × D) => RelV z.1 u) us zs → Vals (zs.map Prod.fst) us
  | _, _, .nil => .nil
  | _, _, .cons h1 h2 => .cons h1 (vals_each h2)
theorem laid_list {X : Cx} {pins : List (Addr × Obj)} {σ : L2.St} {H : Hp} {s : Shared} {h' : Heap} {tk : Nat} {D c : Nat} {vs : List V} {us : List Value} {Q : VK} (I : Inv X pins σ H s) (k : ∀ b u, s.heap.get? b = some u → h'.get? b = some u) (hD : s.heap.objs.size ≤ D)
    (hz : vs.length ≤ sizeLine) (r : Vals vs us) (e : h'.get? D = some (seqObj "list" us.toArray c)) (q : ∀ p, H p = none → Q (.ref p) (upd H p (.lst vs))) : EP X pins σ Q (.ref D) { s with heap := h', toks := tk } :=
  ⟨.ref D, upd H D (.lst vs), I.laid k hD ⟨hz, us, c, r, e⟩, rfl, q D (I.hok.fresh hD)⟩
section
variable {X : Cx} {E : XK}
end
end DL

namespace DL
open PySem PySem.Spec PyProof.Rows L2 RZ

def encD (d : D) : PyData := (toPD d).getD .none
def rSortDat (K : PySem.W.Frag) : List V → Hp → VK → Prop := fun xs H Q => ∃ (a : Addr) (ts : List (V × D)), xs = [.ref a] ∧ SqL K H a (ts.map Prod.fst) ∧ (∀ t ∈ ts, Dp K H t.1 (encD t.2)) ∧ PySem.W.AllAlike ((ts.map Prod.snd).map encD) ∧ PySem.W.Sortable ((ts.map Prod.snd).map encD) ∧
  (∀ t ∈ ts, (encD t.2).depth < 60) ∧ ∀ p, H p = none → Q (.ref p) (upd H p (.lst ((ts.mergeSort (PySem.W.dataLe false fun t => encD t.2)).map Prod.fst)))
theorem cr_sortDat {X : Cx} {kk : Nat} (hr : Room kk X.A) : CallR X (.builtin "sorted") (rSortDat X.K) := by
  intro pins s σ H xs us Q I rx h
  obtain ⟨a, ts, rfl, hs, hd, hal, hsk, hdp, q⟩ := h
  obtain ⟨u, rfl, ru⟩ := vals1 rx
  obtain rfl : u = Value.ref a := ru
  obtain ⟨its, rits, hl, hz⟩ := I.list hs
  have en : (ts.map Prod.snd).map encD = ts.map fun t : V × D => encD t.2 := by rw [List.map_map]; rfl
  rw [en] at hal hsk
  have ev := each_vals rits
  have er : PySem.W.EachIs (fun (u : Value) (t : V × D) => ∃ as, Reads s.heap u (encD t.2) as) its ts := (PySem.W.each_mem ev).mono fun u t ⟨r, ht⟩ => Dp.reads I _ _ _ (hd t ht) r
  refine PySem.W.sorted_data (β := V × D) (enc := fun t => encD t.2) (R := fun u z => RelV z.1 u) hl.isList ev er hal hsk (by rw [← List.length_map (f := Prod.fst)]; exact hz) (fun t ht => ?_) fun out ho eo => ?_
  · have := hdp t ht
    have := hr.units
    omega
  · have hv := vals_each eo
    obtain ⟨ep, he'⟩ := PyProof.Rows.sortedAll_at s.heap its out.toArray
    exact laid_list (tk := s.toks) I (fun _ _ => PyProof.Rows.sortedAll_old) (Nat.le_succ _) (by rw [List.length_map, List.length_mergeSort, ← List.length_map (f := Prod.fst)]; exact hz) hv he' q
def fSortDat : FB := fun ds w k => match ds with
  | [d] => lstK d w fun xs => (∀ x ∈ xs, ∃ p, toPD x = some p ∧ p.depth < 60) ∧ PySem.W.AllAlike (xs.map encD) ∧ PySem.W.Sortable (xs.map encD) ∧ k (.lst (xs.mergeSort (PySem.W.dataLe false encD))) w
  | _ => False
def fSortDatC : FB := fun ds w k => match ds with
  | [d] => lstK d w fun xs => (∀ x ∈ xs, ∃ p, toPD x = some p ∧ p.depth < 60) ∧ PySem.W.AllAlike (xs.map encD) ∧ PySem.W.Sortable (xs.map encD) ∧ k (.rf w.M.length) ⟨w.M ++ [.lst (xs.mergeSort (PySem.W.dataLe false encD))], w.n⟩
  | _ => False
theorem sort_snd (ts : List (V × D)) : (ts.mergeSort (PySem.W.dataLe false fun t : V × D => encD t.2)).map Prod.snd = (ts.map Prod.snd).mergeSort (PySem.W.dataLe false encD) := List.map_mergeSort fun _ _ _ _ => rfl
theorem sort_rep {K : PySem.W.Frag} {G : Gh} {S : Hp} {ts : List (V × D)} (h : ∀ z ∈ ts, Rep K G S z.1 z.2) : RepAll K G S ((ts.mergeSort (PySem.W.dataLe false fun t : V × D => encD t.2)).map Prod.fst) ((ts.map Prod.snd).mergeSort (PySem.W.dataLe false encD)) := by
  rw [← sort_snd]
  exact rep_unzip fun z hz => h z (List.mem_mergeSort.mp hz)
theorem ok_sortDat {K : PySem.W.Frag} : CallOk K (rSortDat K) fSortDat := by
  intro G S H w xs ds k Q hr rx kl h
  unfold fSortDat at h
  split at h
  · obtain ⟨v, rfl, r⟩ := one_rep rx
    obtain ⟨a, ys, es, rfl, h1, h2, h3, h4, h5, h6⟩ := lst_get hr r h
    obtain ⟨ts, z1, z2, z3⟩ := rep_zip h2
    subst z1
    subst z2
    refine ⟨a, ts, rfl, .inl (.inl h1), fun t ht => ?_, h4, h5, fun t ht => ?_, kl.newL hr (sort_rep z3) h6⟩
    · obtain ⟨p, e, _⟩ := h3 t.2 (List.mem_map.mpr ⟨t, ht, rfl⟩)
      unfold encD
      rw [e]
      exact rep_dp hr.same (z3 t ht) e
    · obtain ⟨p, e, e2⟩ := h3 t.2 (List.mem_map.mpr ⟨t, ht, rfl⟩)
      unfold encD
      rw [e]
      exact e2
  · exact h.elim
section
variable {X : Cx} {E : XK} {e : Expr} {es : List Expr} {ga : GA} {p pos : Pos} (B : Blt X.mg) {kk : Nat} (hr : Room kk X.A)
include B hr
theorem de_sortDat (hg : Gl X "sorted") (ha : DA X E (e :: es) ga) (he : starEach (e :: es) X.env = (false, eval e X.env) :: starEach es X.env := by rfl) (hpl : (backTo pos (starEach es X.env)).any (·.1) = false := by rfl) : DE X E (.Call (.Name "sorted" p) (e :: es) [] pos) (gCB fSortDat ga) := de_cb (cr_sortDat hr) ok_sortDat hg B.sorted_ (by decide +kernel) ha (he := he) (hpl := hpl)
end

def rInC (K : PySem.W.Frag) (neg : Bool) : R2 := fun x y H Q => (∃ (a : Addr) (o : Option V), y = .ref a ∧ DGet H a x o ∧ Q (.bl (if neg then !o.isSome else o.isSome)) H) ∨ rIn K neg x y H Q
def inL (x : D) (xs : List D) (f : Bool → Prop) : Prop := match x with
  | .str s => ∃ ss, allStr xs = some ss ∧ f (decide (s ∈ ss))
  | .int i => ∃ is, allInt xs = some is ∧ f (decide (i ∈ is))
  | _ => False
def inC (x y : D) (w : Wd) (f : Bool → Prop) : Prop := match y with
  | .lst xs => inL x xs f
  | .tup xs => inL x xs f
  | .rf i => match w.M[i]? with
    | some (.lst xs) => inL x xs f
    | some (.dk kvs) => keyK x fun q => f (valD kvs q).isSome
    | _ => False
  | _ => False
def inCD : F2 := fun x y w k => inC x y w fun b => k (.bl b) w
def notinCD : F2 := fun x y w k => inC x y w fun b => k (.bl (!b)) w
section
variable {X : Cx} {E : XK} {a b : Expr} {ga gb : GE} {pos : Pos} {kk : Nat} (hr : Room kk X.A)
include hr
end

def gDGet1 (go gi : GE) : GE := fun ρ w kx k => go ρ w kx fun x w1 => rfK x fun i => dkK i w1 fun _ => gi ρ w1 kx fun y w2 => keyK y fun q => dkK i w2 fun kvs => k ((valD kvs q).getD .non) w2
def gLock (g : GE) : GE := fun ρ w kx k => ∃ (i : Nat) (kvs : List (Key × D)), w.M[i]? = some (.dk kvs) ∧ ∀ o ks, g ρ ⟨w.M.set i (.lk o ks kvs), w.n⟩ kx fun d w1 => w1.M[i]? = some (.lk o ks kvs) ∧ k d ⟨w1.M.set i (.dk kvs), w1.n⟩
def keyOfD : Key → D
  | .inl i => .int i
  | .inr s => .str s
def itemsD (kvs : List (Key × D)) : List D := kvs.map fun p => .tup [keyOfD p.1, p.2]
def lkK (i : Nat) (w : Wd) (f : Obj → List (Key × V) → List (Key × D) → Prop) : Prop := match w.M[i]? with
  | some (.lk o ks kvs) => f o ks kvs
  | _ => False
def giItems (go : GE) : GI := fun ρ w kx k => go ρ w kx fun x w1 => rfK x fun i => lkK i w1 fun o ks kvs => k (itemsD kvs) (fun w => w.M[i]? = some (.lk o ks kvs)) w1
def giKeys (go : GE) : GI := fun ρ w kx k => go ρ w kx fun x w1 => rfK x fun i => lkK i w1 fun o ks kvs => k (kvs.map fun p => keyOfD p.1) (fun w => w.M[i]? = some (.lk o ks kvs)) w1
section
variable {X : Cx} {E : XK}
end
end DL

namespace DL
open PySem PySem.Spec PyProof.Rows L2 RZ

def gPairs : List (Str × GE) → Rho → Wd → KX → KA → Prop
  | [], _, w, _, k => k [] w
  | p :: r, ρ, w, kx, k => p.2 ρ w kx fun d w1 => gPairs r ρ w1 kx fun ds w2 => k (d :: ds) w2
def gDisp (ps : List (Str × GE)) : GE := fun ρ w kx k => gPairs ps ρ ⟨w.M ++ [.dk []], w.n⟩ kx fun ds w1 => w1.M[w.M.length]? = some (.dk []) ∧ k (.rf w.M.length) ⟨w1.M.set w.M.length (.dk ((ps.map fun p => (Sum.inr p.1 : Key)).zip ds)), w1.n⟩
def DPs (X : Cx) (E : XK) (pos : Pos) (ks : List (Option Expr)) (vs : List Expr) (ps : List (Str × GE)) : Prop := ∃ trs, PPs X pos ks vs trs ∧ ∀ σ H (Q : List (V × V) → Hp → Prop),
  (∃ G S ρ w kx k, HR X.K G S w H ∧ SR X.K G S σ ρ ∧ XL X.K G S kx E ∧ (∀ G' S' H' w' ds vs, Ext G S G' S' → HR X.K G' S' w' H' → RepAll X.K G' S' vs ds → k ds w' → vs.length = ps.length → Q ((ps.map fun p => V.str p.1).zip vs) H') ∧ gPairs ps ρ w kx k) → tPairs trs σ H Q
section
variable {X : Cx} {E : XK} {pos : Pos}
end

def fSortDC : FB := fun ds w k => match ds with
  | [.rf i] => dkK i w fun kvs => ∃ ks : List Str, kvs.map (·.1) = ks.map Sum.inr ∧ ks.length < 64 ∧ ∀ ys : List Str, ys.Perm ks → sortedS ys = true → k (.rf w.M.length) ⟨w.M ++ [.lst (ys.map D.str)], w.n⟩
  | _ => False
def toPDw (w : Wd) (d : D) : Option PyData := match d with
  | .rf i => match w.M[i]? with
    | some (.lst xs) => (toPDs xs).map .list
    | _ => none
  | d => toPD d
def neCD : F2 := fun x y w k => match x, y with
  | .str s, .str t => k (.bl (!decide (s = t))) w
  | x, y => match toPDw w x, toPD y with
    | some p, some q => SeqAt.shaped p = true ∧ SeqAt.shaped q = true ∧ k (.bl (!PyData.eqv p q)) w
    | _, _ => False
section
variable {X : Cx} {E : XK} {a b : Expr} {ga gb : GE} {pos : Pos} {kk : Nat} (hr : Room kk X.A)
include hr
end

def qLam (x : Str) : Str := (x ++ ".<locals>.") ++ "<lambda>"
structure FunC (K : PySem.W.Frag) (x qual : Str) (st : Stmt) (f : Addr) (fd : FuncData) (c : Addr) : Prop where
  ex : ∃ (oc : Value) (od : Option Addr) (kV doc pm : Value) (an : Option Addr) (ct : Value) (osl : Array (Option Value)),
    fd = PySem.W.fnOf x qual (defArgs st) (defBody st) (defScope st) .none kV doc pm an (.ref c) ct ∧ K.lookup f = some ⟨oc, od, .func fd, osl⟩ ∧ PySem.W.codeIn K (.ref c) qual = true
  kp : PySem.W.keepIn K (.ref f) = true
theorem FunC.fun {K : PySem.W.Frag} {x qual : Str} {st : Stmt} {f : Addr} {fd : FuncData} {c : Addr} (F : FunC K x qual st f fd c) : Fun K x qual st f fd := by
  obtain ⟨oc, od, kV, doc, pm, an, ct, osl, e1, e2, e3⟩ := F.ex
  exact ⟨⟨oc, od, kV, doc, pm, an, .ref c, ct, osl, e1, e2, e3⟩, F.kp⟩
structure DefAtT (K : PySem.W.Frag) (mg : Str → Option Value) (base : Heap) (x : Str) (st : Stmt) (ps : List Str) (P : Addr) : Prop where
  ex : ∃ f fd c, FunC K x x st f fd c ∧ mg x = some (.ref f) ∧ Binds K fd ps [] ∧ LamX.TabB base mg c P
theorem DefAtT.fn0 {P : Program} {w : World} {K : PySem.W.Frag} {mg : Str → Option Value} {base : Heap} {x : Str} {st : Stmt} {N ps : List Str} {Pt : Addr} {k : Nat} {g : GS} (T : DefAtT K mg base x st ps Pt) (S : FnScope N ps (defScope st))
    (hbody : ∀ (f c : Addr) (TB : LamX.TabB base mg c Pt) (A : Around) (outer : List Env) (s : Shared) (H : Hp) (E : XK), Room k (A.deeper (envOfC x (defScope st) s.heap.objs.size f (.ref c))) →
      DSs (cxOf CX0 P w K mg base N x (defScope st) f (.ref c) A outer s H E).nox E0 (defBody st) g) : FnAt P w K mg base CX0 (k + 1) x ps.length (sem0 N.length g) := by
  obtain ⟨f, fd, c, F, hm, hb, TB⟩ := T.ex
  refine ⟨f, fd, ps, ?_, hm, F.kp, hb⟩
  obtain ⟨oc, od, kV, doc, pm, an, ct, osl, rfl, lk, hcd⟩ := F.ex
  refine fn_of lk hcd S (fun vs H Q E h => ?_) fun A outer s H vs Q E hr hsp => ?_
  · obtain ⟨G, S, ds, w, kx, k, h1, h2, h3, _⟩ := h
    rw [h3.length, h1]
  · obtain ⟨G, S1, ds, w1, kx, k1, h1, h2, h3, h4, h5, h6⟩ := hsp
    refine ⟨_, (hbody f c TB A outer s H E hr).nox, G, S1, rho N.length ds, w1, { nx := fun _ w' => k1 .non w', rt := k1, ex := noX }, h2, sr_start h3, ⟨fun G' S' H' w' ρ' σ' x1 hr1 _ hk => h5 _ _ _ _ _ _ x1 hr1 .non hk, h5, ?_, ?_, xl_no⟩, h6⟩
    · intro _ _ _ _ _ _ _ _ _ z
      exact z.elim
    · intro _ _ _ _ _ _ _ _ _ z
      exact z.elim

def giEnumC (ga : GA) : GI := fun ρ w kx k => ga ρ w kx fun ds w1 => match ds with
  | [.lst xs] => k (enumD 0 xs) (fun _ => True) w1
  | [.rf i] => cellK i w1 fun xs => k (enumD 0 xs) (fun w => w.M[i]? = some (.lst xs)) w1
  | _ => False
end DL

namespace DL
open PySem PySem.Spec PyProof.Rows L2 RZ

def gPar3 (i j l : Nat) (ga : GA) : GS := fun F ρ w => ga ρ w F.ex fun ds w1 => match ds with
  | [d, e, f] => F.nx (((ρ.set i (some d)).set j (some e)).set l (some f)) w1
  | _ => False
section
variable {X : Cx} {E : XK} {pos : Pos}
end
end DL

namespace DL
open PySem PySem.Calls PySem.Spec PyProof.Rows PyProof.V L2 RZ

mutual
theorem reads_there {h : Heap} : ∀ {v : Value} {d : PyData} {as : List Addr}, Reads h v d as → ∀ a ∈ as, ∃ o, h.get? a = some o
  | _, _, _, .none, a, ha => nomatch ha
  | _, _, _, .bool _, a, ha => nomatch ha
  | _, _, _, .int _ _, a, ha => nomatch ha
  | _, _, _, .str _ _, a, ha => nomatch ha
  | _, _, _, .list e _ _ r, a, ha => by
    rcases List.mem_cons.mp ha with rfl | ha
    · exact ⟨_, e⟩
    · exact readsAll_there r a ha
  | _, _, _, .tuple _ _ _ r, a, ha => readsAll_there r a ha
  | _, _, _, .dict e _ _ r1 r2, a, ha => by
    rcases List.mem_append.mp ha with ha | ha
    · rcases List.mem_cons.mp ha with rfl | ha
      · exact ⟨_, e⟩
      · exact readsAll_there r1 a ha
    · exact readsAll_there r2 a ha
theorem readsAll_there {h : Heap} : ∀ {vs : List Value} {ds : List PyData} {as : List Addr}, ReadsAll h vs ds as → ∀ a ∈ as, ∃ o, h.get? a = some o
  | _, _, _, .nil, a, ha => nomatch ha
  | _, _, _, .cons r1 r2, a, ha => by
    rcases List.mem_append.mp ha with ha | ha
    · exact reads_there r1 a ha
    · exact readsAll_there r2 a ha
end
theorem sqL_up {K : PySem.W.Frag} {H H' : Hp} (e : ∀ b o, H b = some o → H' b = some o) {a : Addr} {xs : List V} (h : SqL K H a xs) : SqL K H' a xs := by
  unfold SqL at h ⊢
  rcases h with (h | ⟨o, h⟩) | h
  · exact .inl (.inl (e _ _ h))
  · exact .inl (.inr ⟨o, e _ _ h⟩)
  · exact .inr h
mutual
theorem dp_up {K : PySem.W.Frag} {H H' : Hp} (e : ∀ b o, H b = some o → H' b = some o) : ∀ {v : V} {d : PyData}, Dp K H v d → Dp K H' v d
  | _, _, .non => .non
  | _, _, .bl b => .bl b
  | _, _, .int i => .int i
  | _, _, .str x => .str x
  | _, _, .lst h1 h2 => .lst (sqL_up e h1) (dpAll_up e h2)
  | _, _, .tup h1 h2 => .tup (sqT_up e h1) (dpAll_up e h2)
theorem dpAll_up {K : PySem.W.Frag} {H H' : Hp} (e : ∀ b o, H b = some o → H' b = some o) : ∀ {vs : List V} {ds : List PyData}, DpAll K H vs ds → DpAll K H' vs ds
  | _, _, .nil => .nil
  | _, _, .cons h1 h2 => .cons (dp_up e h1) (dpAll_up e h2)
end
def itemsV (p d : Addr) : HO := .ext fun h => h.IsItemsView p d
section
variable {X : Cx}
def rItemsK : V → List V → Hp → VK → Prop := fun x xs H Q => ∃ (a : Addr) (kvs : List (Key × V)), x = .ref a ∧ xs = [] ∧ H a = some (.dK kvs) ∧ ∀ p, H p = none → Q (.ref p) (upd H p (itemsV p a))
def keyE : Key → PyData
  | .inl i => .int i
  | .inr s => .str s
def pairE (t : (Key × V) × D) : PyData := .tuple [keyE t.1.1, encD t.2]
def rSortItK (K : PySem.W.Frag) : List V → Hp → VK → Prop := fun xs H Q => ∃ (p a : Addr) (ts : List ((Key × V) × D)), xs = [.ref p] ∧ H p = some (itemsV p a) ∧ H a = some (.dK (ts.map Prod.fst)) ∧ (∀ t ∈ ts, Dp K H t.1.2 (encD t.2)) ∧ PySem.W.AllAlike (ts.map pairE) ∧ PySem.W.Sortable (ts.map pairE) ∧
  (∀ t ∈ ts, (encD t.2).depth < 60) ∧
  ∀ (as : List Addr) (l : Addr), as.length = ts.length → as.Nodup → (∀ b ∈ as, H b = none) → H l = none → l ∉ as → Q (.ref l) (upd (LiI.putT H as (ts.map Prod.fst)) l (.lst (((as.zip ts).mergeSort (PySem.W.dataLe false fun z => pairE z.2)).map fun z => V.ref z.1)))
end
def gSortItems (go : GE) : GE := fun ρ w kx k => go ρ w kx fun x w1 => rfK x fun i => dkK i w1 fun kvs => (∀ y ∈ kvs, ∃ p, toPD y.2 = some p ∧ p.depth < 60) ∧ PySem.W.AllAlike ((itemsD kvs).map encD) ∧ PySem.W.Sortable ((itemsD kvs).map encD) ∧ k (.lst ((itemsD kvs).mergeSort (PySem.W.dataLe false encD))) w1
def pairD (t : (Key × V) × D) : D := .tup [keyOfD t.1.1, t.2]
section
variable {X : Cx} {E : XK} {e : Expr} {ge : GE} {p apos cpos pos : Pos} {kk : Nat}
end
section
variable {X : Cx} {E : XK} {e : Expr} {ge : GE} {p apos cpos pos : Pos} {kk : Nat}
def gLockO (g : GE) : GE := fun ρ w kx k => gLock g ρ w kx k ∨ g ρ w kx k
def gMid (g : GE) : GE := fun ρ w kx k => g ρ w kx fun x w1 => k x w1 ∨ rfK x fun i => dkK i w1 fun kvs => ∀ o ks, k x ⟨w1.M.set i (.lk o ks kvs), w1.n⟩
end
def fMaxL : FB := fun ds w k => match ds with
  | [.lst xs] => match allInt xs with
    | some ns => 0 < ns.length ∧ ∀ m, m ∈ ns → (∀ y, y ∈ ns → y ≤ m) → k (.int m) w
    | none => False
  | _ => False
def gLockS (g : GS) : GS := fun F ρ w => ∃ (i : Nat) (kvs : List (Key × D)), w.M[i]? = some (.dk kvs) ∧ ∀ o ks, g { nx := fun ρ' w1 => w1.M[i]? = some (.lk o ks kvs) ∧ F.nx ρ' ⟨w1.M.set i (.dk kvs), w1.n⟩, rt := fun _ _ => False, ex := F.ex } ρ ⟨w.M.set i (.lk o ks kvs), w.n⟩
def gLockSO (g : GS) : GS := fun F ρ w => gLockS g F ρ w ∨ g F ρ w
end DL

namespace DL
open PySem PySem.Spec PyProof.Rows L2 RZ

end DL

namespace DL
open PySem PySem.Spec PyProof.Rows L2 RZ

def inDD : F2 := fun x y w k => ∃ p ps, toPD x = some p ∧ toPDw w y = some (.list ps) ∧ SeqAt.shaped p = true ∧ SeqAt.shaped (.list ps) = true ∧ k (.bl (ps.any fun z => PyData.eqv z p)) w
def notinDD : F2 := fun x y w k => inDD x y w fun d w1 => ∃ b, d = .bl b ∧ k (.bl (!b)) w1
section
variable {X : Cx} {E : XK} {a b : Expr} {ga gb : GE} {pos : Pos} {kk : Nat} (hr : Room kk X.A)
include hr
end
end DL

namespace L2
open PySem PySem.Spec PyProof.Rows
section
variable {P : Program} {w : World} {A : Around} {E : Value → Shared → Prop} {s : Shared}
abbrev newSetO (w : World) : Obj := { cls := .type "set", dict := none, data := .set #[] 0 (.fresh 0 0 (!w.params.followText "set-order")) }
end
def rSetLI (w : World) (K : PySem.W.Frag) : List V → Hp → VK → Prop := fun xs H Q => ∃ (p : Addr) (ns : List Int), xs = [.ref p] ∧ SqL K H p (ns.map V.int) ∧ ns.length ≤ 1000 ∧ ∀ (q : Addr) (c : Nat), H q = none → c ≤ ns.length → Q (.ref q) (upd H q (SetO w q (fun j => decide (j ∈ ns)) c))
end L2

namespace L2
open PySem PySem.Spec PyProof.Rows
section
variable {X : Cx} {pins : List (Addr × Obj)} {σ : St} {H : Hp} {s : Shared} {a : Addr} {A : Around} {E : Value → Shared → Prop}
end
def tDUpd (K : PySem.W.Frag) (td tx : TE) : TE := fun σ H Q => td σ H fun x H1 => ∃ a, x = .ref a ∧ IsD H1 a ∧ tx σ H1 fun y H2 => ∃ (kvs : List (Key × V)) (l : Addr) (ps : List (Addr × Key × V)), H2 a = some (.dK kvs) ∧ y = .ref l ∧ SqL K H2 l (ps.map fun p => V.ref p.1) ∧
  (∀ p ∈ ps, SqT K H2 p.1 [kV p.2.1, p.2.2]) ∧ kvs.length + ps.length ≤ sizeLine ∧ Q .non (upd H2 a (.dK (mergeK kvs (ps.map (·.2)))))
section
variable {X : Cx} {o e : Expr} {td tx : TE} {apos cpos : Pos}
end
end L2

namespace DL
open PySem PySem.Spec PyProof.Rows L2 RZ
def gSortSet (ga : GA) : GE := fun ρ w kx k => ga ρ w kx fun ds w1 => ∃ ns : List Int, ds = [.lst (ns.map D.int)] ∧ ns.length < 64 ∧ ∀ ms : List Int, ms.Pairwise (· < ·) → (∀ j, j ∈ ms ↔ j ∈ ns) → k (.lst (ms.map D.int)) w1
def fMax2 : FB := fun ds w k => match ds with
  | [.int i, .int j] => k (.int (if j > i then j else i)) w
  | _ => False
def fSortDI : FB := fun ds w k => match ds with
  | [.rf i] => dkK i w fun kvs => ∃ ks : List Int, kvs.map (·.1) = ks.map Sum.inl ∧ ks.length < 64 ∧ ∀ ys : List Int, ys.Perm ks → ys.Pairwise (· ≤ ·) → k (.lst (ys.map D.int)) w
  | _ => False
def kD : Key → D
  | .inl i => .int i
  | .inr x => .str x
def mergeD (kvs more : List (Key × D)) : List (Key × D) := more.foldl (fun acc kv => putD acc kv.1 kv.2) kvs
def gDUpd (go ga : GE) : GE := fun ρ w kx k => go ρ w kx fun x w1 => rfK x fun i => dkK i w1 fun _ => ga ρ w1 kx fun y w2 => dkK i w2 fun kvs => ∃ ps : List (Key × D), y = .lst (ps.map fun p => .tup [kD p.1, p.2]) ∧ kvs.length + ps.length ≤ sizeLine ∧
  k .non ⟨w2.M.set i (.dk (mergeD kvs ps)), w2.n⟩
end DL

namespace DL
open PySem PySem.Spec PyProof.Rows L2 RZ

theorem fs_ext {K : PySem.W.Frag} {G G' : Gh} {S S' : Hp} {κ : Type} (x : Ext G S G' S') : ∀ {xs : List (κ × V)} {ys : List (κ × D)}, FsRep K G S xs ys → FsRep K G' S' xs ys
  | _, _, .nil => .nil
  | _, _, .cons h r => .cons ⟨h.1, h.2.mono x⟩ (fs_ext x r)
def fDictD : FB := fun ds w k => match ds with
  | [.rf i] => dkK i w fun kvs => k (.rf w.M.length) ⟨w.M ++ [.dk kvs], w.n⟩
  | _ => False
def fDictP : FB := fun ds w k => match ds with
  | [.lst xs] => ∃ ps : List (Key × D), xs = ps.map (fun p => .tup [kD p.1, p.2]) ∧ k (.rf w.M.length) ⟨w.M ++ [.dk (mergeD [] ps)], w.n⟩
  | _ => False
def fListC : FB := fun ds w k => match ds with
  | [d] => match seqD d w with
    | some xs => k (.rf w.M.length) ⟨w.M ++ [.lst xs], w.n⟩
    | none => False
  | _ => False
section
variable {X : Cx} {E : XK} {e : Expr} {es : List Expr} {ga : GA} {p pos : Pos}
end
end DL

namespace DL
open PySem PySem.Spec PyProof.Rows L2 RZ

def mCountB : FM := fun x ds w k => match x, ds with
  | .lst xs, [.bl b] => ∃ bs : List Bool, xs = bs.map D.bl ∧ k (.int ((bs.count b : Nat) : Int)) w
  | _, _ => False
def mIndexB : FM := fun x ds w k => match x, ds with
  | .lst xs, [.bl b] => ∃ (bs : List Bool) (j : Nat), xs = bs.map D.bl ∧ bs[j]? = some b ∧ (∀ m < j, bs[m]? ≠ some b) ∧ k (.int (j : Int)) w
  | _, _ => False
end DL

namespace DL
open PySem PySem.Spec PyProof.Rows L2 RZ

def dkR (i : Nat) (w : Wd) (f : List (Key × D) → Prop) : Prop := match w.M[i]? with
  | some (.dk xs) => f xs
  | some (.lk _ _ xs) => f xs
  | _ => False
section
variable {K : PySem.W.Frag} {G : Gh} {S H : Hp} {w : Wd}
end
def gDGetR (go gi : GE) : GE := fun ρ w kx k => go ρ w kx fun x w1 => gi ρ w1 kx fun y w2 => rfK x fun i => keyK y fun q => dkR i w2 fun kvs => someK (valD kvs q) fun d => k d w2
section
variable {X : Cx} {E : XK} {o i e : Expr} {go gi gd : GE} {pos apos cpos : Pos}
end
def mCountS : FM := fun x ds w k => match x, ds with
  | .lst xs, [.str b] => ∃ bs : List Str, xs = bs.map D.str ∧ k (.int ((bs.count b : Nat) : Int)) w
  | _, _ => False
end DL

namespace DL
open PySem PySem.Spec PyProof.Rows L2 RZ

def inRK (x : D) (ds : List D) (w : Wd) (k : Bool → Wd → Prop) : Prop := match x, ds with
  | .int i, [.int lo, .int hi] => k (decide (lo ≤ i ∧ i < hi)) w
  | _, _ => False
def gInR (ge : GE) (ga : GA) : GE := fun ρ w kx k => ge ρ w kx fun x w1 => ga ρ w1 kx fun ds w2 => inRK x ds w2 fun b w3 => k (.bl b) w3
section
variable {X : Cx} {E : XK} {e a : Expr} {es : List Expr} {ge : GE} {ga : GA} {p pos pos2 : Pos}
end
end DL

namespace DL
open PySem PySem.Spec PyProof.Rows L2 RZ
def tLenSetF (K : PySem.W.Frag) (ta : TE) : TE := fun σ H Q => ta σ H fun x H1 => ∃ (l : Addr) (ns : List Int), x = .ref l ∧ SqL K H1 l (ns.map V.int) ∧ ns.length ≤ 4000 ∧ Q (.int ((PyProof.Rows.firstMet (fun i => ns.getD i 0) ns.length).length : Nat)) H1
def gLenSet (ga : GA) : GE := fun ρ w kx k => ga ρ w kx fun ds w1 => ∃ ns : List Int, ds = [.lst (ns.map D.int)] ∧ ns.length ≤ 4000 ∧ ∀ c : Nat, (c = ns.length → ns.Nodup) → k (.int (c : Int)) w1
end DL

namespace DL
open PySem PySem.Spec PyProof.Rows L2 RZ
def TupG (K : PySem.W.Frag) (mg : Str → Option Value) (x : Str) (ns : List Int) : Prop := ∃ a, mg x = some (.ref a) ∧ ∀ H : Hp, SqT K H a (ns.map V.int)
def mPop : FM := fun x ds w k => match x, ds with
  | .rf i, [] => cellK i w fun xs => someK xs[xs.length - 1]? fun d => k d ⟨w.M.set i (.lst xs.dropLast), w.n⟩
  | _, _ => False
def dropD {κ : Type} [DecidableEq κ] (kvs : List (κ × D)) (k : κ) : List (κ × D) := kvs.filter fun kv => decide (kv.1 ≠ k)
def gDPop1 (go gi : GE) : GE := fun ρ w kx k => go ρ w kx fun x w1 => rfK x fun i => dkK i w1 fun _ => gi ρ w1 kx fun y w2 => keyK y fun q => dkK i w2 fun kvs => someK (valD kvs q) fun d => k d ⟨w2.M.set i (.dk (dropD kvs q)), w2.n⟩
def gDPop2 (go gi gd : GE) : GE := fun ρ w kx k => go ρ w kx fun x w1 => rfK x fun i => dkK i w1 fun _ => gi ρ w1 kx fun y w2 => gd ρ w2 kx fun z w3 => keyK y fun q => dkK i w3 fun kvs => match valD kvs q with
  | some d => k d ⟨w3.M.set i (.dk (dropD kvs q)), w3.n⟩
  | none => k z w3
section
variable {X : Cx} {E : XK} {o i e : Expr} {go gi gd : GE} {pos apos cpos : Pos}
end
end DL

namespace DL
open PySem PySem.Spec PyProof.Rows L2 RZ
def gSortItemsC (go : GE) : GE := fun ρ w kx k => go ρ w kx fun x w1 => rfK x fun i => dkK i w1 fun kvs => (∀ y ∈ kvs, ∃ p, toPD y.2 = some p ∧ p.depth < 60) ∧ PySem.W.AllAlike ((itemsD kvs).map encD) ∧ PySem.W.Sortable ((itemsD kvs).map encD) ∧ k (.rf w1.M.length) ⟨w1.M ++ [.lst ((itemsD kvs).mergeSort (PySem.W.dataLe false encD))], w1.n⟩
section
variable {X : Cx} {E : XK} {e : Expr} {ge : GE} {p apos cpos pos : Pos} {kk : Nat}
end
def eqDD : F2 := fun x y w k => match x, y with
  | .rf i, .rf j => ∃ kvs : List (Key × D), w.M[i]? = some (.dk kvs) ∧ w.M[j]? = some (.dk kvs) ∧ (kvs.map (·.1)).Nodup ∧ (∀ p ∈ kvs, ∃ n, p.2 = .int n) ∧ k (.bl true) w
  | _, _ => False
def rEqDD : R2 := fun x y H Q => ∃ a b kvs, x = .ref a ∧ y = .ref b ∧ H a = some (.dK kvs) ∧ H b = some (.dK kvs) ∧ (kvs.map (·.1)).Nodup ∧ (∀ p ∈ kvs, flatB p.2 = true) ∧ Q (.bl true) H
section
variable {X : Cx} {E : XK} {a b : Expr} {ga gb : GE} {pos : Pos} {kk : Nat} (hr : Room kk X.A)
include hr
end
end DL

namespace DL
open PySem PySem.Spec PyProof.Rows L2 RZ
def giRev (ga : GA) : GI := fun ρ w kx k => ga ρ w kx fun ds w1 => match ds with
  | [.lst xs] => k xs.reverse (fun _ => True) w1
  | _ => False
section
variable {X : Cx} {E : XK} {tg : Expr}
end
def gDisp1 (gk gv : GE) : GE := fun ρ w kx k => gk ρ ⟨w.M ++ [.dk []], w.n⟩ kx fun d w1 => keyK d fun q => gv ρ w1 kx fun v w2 => w2.M[w.M.length]? = some (.dk []) ∧ k (.rf w.M.length) ⟨w2.M.set w.M.length (.dk [(q, v)]), w2.n⟩
def mExtendC : FM := fun x ds w k => match x, ds with
  | .rf i, [.rf j] => cellK i w fun xs => cellK j w fun ys => xs.length + ys.length ≤ sizeLine ∧ k .non ⟨w.M.set i (.lst (xs ++ ys)), w.n⟩
  | _, _ => False
end DL

namespace DL
open PySem PySem.Spec PyProof.Rows L2 RZ
structure RoyK (K : PySem.W.Frag) (mg : Str → Option Value) (C : Addr) (mc : Value) : Prop where
  mgC : mg "RoyalError" = some (.ref C)
  ga : PySem.W.specialIn K (.ref C) "__getattribute__" = some (some (.builtin "type.__getattribute__"))
  ty : PySem.W.typeIn K (.ref C) = some mc
  rd : PySem.W.readsIn K C mc = true
  at_ : PySem.W.findCls K (.ref C) mc "__init__" = some (.val (.builtin "ValueError.__init__"))
theorem pe_royinit {X : Cx} {C : Addr} {mc : Value} {e : Expr} {es : List Expr} {ta : TA} {p1 p2 pos : Pos} {pl : Sem Bool} (hg : Gl X "RoyalError") (k : RoyK X.K X.mg C mc) (ha : PA X (e :: es) ta)
    (hc : eval (.Call (.Attribute (.Name "RoyalError" p1) "__init__" p2) (e :: es) [] pos) X.env = (do
      let ov ← eval (.Name "RoyalError" p1) X.env
      standAt p2.atName
      let (f, first) ← holding [ov] (getMethod ov "__init__" pl)
      callWith pos f first (backTo pos (starEach (e :: es) X.env)) (backToKw pos (keywordEach [] X.env))) := by rfl)
    (he : starEach (e :: es) X.env = (false, eval e X.env) :: starEach es X.env := by rfl) (hpl : (backTo pos (starEach es X.env)).any (·.1) = false := by rfl) :
    PE X (.Call (.Attribute (.Name "RoyalError" p1) "__init__" p2) (e :: es) [] pos) (tVeI X.K ta) := by
  refine ⟨fun pins s σ H Q I h => ?_⟩
  refine PySem.W.methodCall_KW (ld_glob I hg k.mgC ?_ (by decide)) hc
  refine PySem.W.method_cls I.kIn k.ga ?_
  refine PySem.W.cls_value I.kIn k.rd k.at_ (by decide +kernel) ?_
  show wpAny _ _ (callWith pos (Value.builtin "ValueError.__init__") [] (backTo pos (starEach (e :: es) X.env)) []) _ _ _
  refine PyProof.Rows.callWith_method1 (thn (ha.run pos pins _ σ H _ (I.tok _) h) fun us s1 ⟨vs, H1, I1, r1, a, C, ws, ev, hl, T, ea, q⟩ => ?_) he hpl
  subst ev
  cases r1 with
  | @cons _ u0 _ ur ra rw' =>
    obtain rfl : u0 = Value.ref a := ra
    have hlen : ur.length ≤ sizeLine := by
      rw [← Paired.length rw', sizeLine_eq]
      omega
    exact oinit_ok T I1 ea hlen fun s' J => ⟨.non, H1, J, rfl, q⟩
theorem join1_len : ∀ ss : List Str, (Str.join " " ss).length ≤ (ss.map (·.length)).sum + ss.length
  | [] => Nat.le_of_ble_eq_true rfl
  | [x] => by
    show x.length ≤ _
    simp
  | x :: y :: r => by
    have ih := join1_len (y :: r)
    show (x ++ " " ++ Str.join " " (y :: r)).length ≤ _
    have e2 : ((" " : String) : Str).length = 1 := rfl
    rw [Str.length_append, Str.length_append, e2, List.map_cons, List.sum_cons, List.length_cons]
    omega
def spE (K : PySem.W.Frag) : Sp := fun vs H Q _ => ∃ (a C t : Addr) (ss : List Str), vs = [.ref a, .ref t] ∧ OexC K C ∧ PySem.W.findIn K (.ref C) "names" = some none ∧ H a = some (exo a C none) ∧ SqT K H t (ss.map V.str) ∧ (ss.map (·.length)).sum + ss.length * 1 ≤ 10000 ∧
  ∀ dx, H dx = none → dx ≠ a → Q .non (upd (upd H dx (exd dx [("names", .ref t)])) a (exo a C (some dx)))
theorem endless_read {K : PySem.W.Frag} {vs : List V} {H : Hp} {Q : VK} {E : XK} {N : List Str} (hN : N = [("self" : Str), "names"]) (h : spE K vs H Q E) :
    (tSeq (tDrop (tVeI K (tCons (tVar 0) (tCons (tOp (fun x y H Q => ∃ i j, x = .str i ∧ y = .str j ∧ i.length + j.length ≤ sizeLine ∧ Q (.str (i ++ j)) H) (tC (.str "endless: ")) (tM1 (fun x xs H Q => ∃ a p, ∃ ys : List Str, x = .str a ∧ xs = [.ref p] ∧ (SqL K H p (ys.map V.str) ∨ SqT K H p (ys.map V.str)) ∧
      (ys.map (·.length)).sum + ys.length * a.length ≤ 16777216 ∧ Q (.str (Txt.join a ys)) H) (tC (.str " ")) (tVar 1))) tNil)))) (tOst K "names" (tVar 0) (tVar 1)))
      { nx := fun _ H' => Q .non H', rt := Q } (L2.start N vs) H := by
  obtain ⟨a, C, t, ss, rfl, hC, hno, hH, hT, hl, hq⟩ := h
  subst hN
  refine ⟨_, rfl, ⟨_, rfl⟩, _, rfl, " ", t, ss, rfl, rfl, .inr hT, ?_, "endless: ", _, rfl, rfl, ?_, a, C, _, rfl, ?_, hC, hH, ?_⟩
  · have : (" " : Str).length = 1 := by decide +kernel
    rw [this]
    omega
  · rw [TL.join_eq]
    have h1 := join1_len ss
    have h2 : (("endless: " : String) : Str).length = 9 := rfl
    rw [h2]
    exact Nat.le_trans (show _ ≤ 20000 by omega) (by decide)
  · exact Nat.le_of_ble_eq_true rfl
  · exact ⟨_, rfl, _, rfl, a, C, rfl, hC, hno, .inl ⟨hH, hq⟩⟩
end DL

namespace L2
open PySem PySem.Spec PyProof.Rows
def rIsiF (K : PySem.W.Frag) : List V → Hp → VK → Prop := fun xs H Q => ∃ (a D dx : Addr) (fs : List (Str × V)) (c : V) (u : Value) (b : Bool), xs = [.ref a, c] ∧ ExcC K D ∧ H a = some (ExcAt a (.ref D) (some dx)) ∧ H dx = some (.xd fs) ∧ ClsV c u ∧ PySem.W.kitOne K (.ref D) u = some b ∧ Q (.bl b) H
def rIsiTF (K : PySem.W.Frag) : List V → Hp → VK → Prop := fun xs H Q => ∃ (a D dx tp : Addr) (fs : List (Str × V)) (cs : List V) (us : List Value) (b : Bool), xs = [.ref a, .ref tp] ∧ ExcC K D ∧ H a = some (ExcAt a (.ref D) (some dx)) ∧ H dx = some (.xd fs) ∧ SqT K H tp cs ∧ Paired ClsV cs us ∧ PySem.W.kitAny K (.ref D) us = some b ∧ Q (.bl b) H
def tXH (K : PySem.W.Frag) (f : Str) (te : TE) : TE := fun σ H Q => te σ H fun x H1 => ∃ (a C dd : Addr) (fs : List (Str × V)) (v : V), x = .ref a ∧ XfC K C ∧ PySem.W.findIn K (.ref C) f = some none ∧ H1 a = some (ExcAt a (.ref C) (some dd)) ∧ H1 dd = some (.xd fs) ∧ fs.lookup f = some v ∧ Q v H1
section
variable {X : Cx} {pins : List (Addr × Obj)} {σ : St} {H : Hp} {s : Shared}
theorem excAt_instF (I : Inv X pins σ H s) {a D dx : Addr} {fs : List (Str × V)} (h : H a = some (ExcAt a (.ref D) (some dx))) (h2 : H dx = some (.xd fs)) : ∃ oe od, PySem.W.InstAt s.heap a oe D (some od) ∧ ∀ n : Str, ∃ mA : Option Value, RelO (fs.lookup n) mA ∧ PySem.W.lookIn n od = some mA := by
  obtain ⟨⟨oc, od, oda, osl⟩, e, ⟨z1, z2⟩, vs, v⟩ := (I.hok a _ h).1
  dsimp only at z1 z2 v
  subst z1 z2 v
  have hx : ObjOk X.prog X.w H s.heap dx (.xd fs) := I.hok dx _ h2
  obtain ⟨mA, hns, hr⟩ := hx
  obtain ⟨o2, ho, hl⟩ := lookIn_ns hns
  exact ⟨_, o2, ⟨e, rfl, rfl, ho⟩, fun n => ⟨mA n, hr n, hl n⟩⟩
theorem call_isiF : CallR X (.builtin "isinstance") (rIsiF X.K) := by
  intro pins s σ H xs us Q I r h
  obtain ⟨a, D, dx, fs, c, u, b, rfl, C, hH, hx, k, e, q⟩ := h
  obtain ⟨u1, u2, rfl, r1, r2⟩ := vals2 r
  cases (show u1 = Value.ref a from r1)
  have e2 := k.eq r2
  subst e2
  obtain ⟨oe, od, J, _⟩ := excAt_instF I hH hx
  have hcl : (PySem.W.clsIn X.K D).isSome = true := by
    obtain ⟨cd, hc, _⟩ := PySem.W.any_some C.hd
    rw [hc]
    rfl
  exact PySem.W.kia_one (PySem.W.kitx_exc hcl C.hg C.hk C.hs C.ha C.hn C.ht C.hm) I.kIn J e (fun z => nomatch z) fun tk => ⟨.bl b, H, I.tok tk, rfl, q⟩
theorem pe_xfH {X : Cx} {e : Expr} {te : TE} {pos : Pos} {n : Str} (he : PE X e te) (hb : attributeBase e n X.env (eval e X.env) = eval e X.env := by rfl) : PE X (.Attribute e n pos) (tXH X.K n te) := by
  refine ⟨fun pins s σ H Q I h => ?_⟩
  refine attr_of hb (thn (he.run pins s σ H _ I h) fun u s1 hh => ?_)
  obtain ⟨x, H1, I1, rx, a, C, dd, fs, v, rfl, T, hno, ea, ed, l, q⟩ := hh
  obtain rfl : u = Value.ref a := rx
  obtain ⟨oe, od, J, hl⟩ := excAt_instF I1 ea ed
  obtain ⟨mA, hr, hl2⟩ := hl n
  obtain ⟨u2, hu, ru⟩ := RelO.some_of (v := v) (o := mA) (by rw [← l]; exact hr)
  exact HandSPX.exc_get I1.kIn J T.ga T.gg T.exC (PySem.W.findObj_own T.hdC hno rfl (by rw [hl2, hu])) (handed_of ru) ⟨v, H1, I1.tok _, ru, q⟩
end
end L2

namespace DL
open PySem PySem.Spec PyProof.Rows L2 RZ
structure EndK (P : Program) (w : World) (K : PySem.W.Frag) (mg : Str → Option Value) (base : Heap) (C : Addr) : Prop where
  oex : OexC K C
  no : PySem.W.findIn K (.ref C) "names" = some none
  at_ : mg "Endless" = some (.ref C)
  ex : ∃ fI fd, PySem.W.findIn K (.ref C) "__init__" = some (some (.ref fI)) ∧ PySem.W.typeIn K (.ref fI) = some (.type "function") ∧ FnOk P w K mg base CX0 1 fI fd ["self", "names"] (spE K) ∧ Binds K fd ["self", "names"] []
def gRaiseF (C : Addr) (ge : GE) : GS := fun F ρ w => ge ρ w F.ex fun d w1 => ∃ ss : List Str, d = .tup (ss.map D.str) ∧ (ss.map (·.length)).sum + ss.length * 1 ≤ 10000 ∧ F.ex (.flds C [("names", d)]) w1
theorem rep_strsF {K : PySem.W.Frag} {G : Gh} {S : Hp} : ∀ {ss : List Str} {vs : List V}, RepAll K G S vs (ss.map D.str) → vs = ss.map V.str
  | [], _, .nil => rfl
  | s :: ss, _, .cons h r => by
    cases h
    rw [rep_strsF r]
    rfl
def tryX (i j : Nat) (P : Addr → Prop) (F : DEnds) (ρ : Rho) : KX := fun e w' => match e with
  | .own C => P C ∧ F.nx ((ρ.set j (some (.rf w'.M.length))).set i none) ⟨w'.M ++ [.exc C], w'.n⟩
  | .flds C fs => P C ∧ F.nx ((ρ.set j (some (.rf w'.M.length))).set i none) ⟨w'.M ++ [.exf C fs], w'.n⟩
def gTryF (i j : Nat) (P : Addr → Prop) (body : GS) : GS := fun F ρ w => i < ρ.length ∧ body { F with ex := tryX i j P F ρ } ρ w
def exfK (i : Nat) (w : Wd) (f : Addr → List (Str × D) → Prop) : Prop := match w.M[i]? with
  | some (.exf C fs) => f C fs
  | _ => False
def gXFld (P : Addr → Prop) (n : Str) (go : GE) : GE := fun ρ w kx k => go ρ w kx fun x w1 => rfK x fun i => exfK i w1 fun C fs => P C ∧ someK (fs.lookup n) fun d => k d w1
theorem de_xfld {X : Cx} {E : XK} {P : Addr → Prop} {e : Expr} {go : GE} {pos : Pos} {n : Str} (hP : ∀ C, P C → XfC X.K C ∧ PySem.W.findIn X.K (.ref C) n = some none) (he : DE X E e go) (hb : attributeBase e n X.env (eval e X.env) = eval e X.env := by rfl) : DE X E (.Attribute e n pos) (gXFld P n go) := by
  refine pe_imp (pe_xfH he hb) ?_
  rintro σ H Q ⟨G, S, ρ, w, kx, k, hr, sr, xl, kl, h⟩
  refine ⟨G, S, ρ, w, kx, _, hr, sr, xl, fun G1 S1 H1 w1 d v x1 hr1 rp hq => ?_, h⟩
  obtain ⟨a, i, rfl, rfl, ea, hq⟩ := rfK_rep rp hq
  unfold exfK at hq
  split at hq
  · rename_i C fs eM
    obtain ⟨hC, hq⟩ := hq
    obtain ⟨d, hd, hk⟩ := someK_get hq
    obtain ⟨_, dx, gs, h2, h3, hf⟩ := hr1.cell _ _ _ ea eM
    obtain ⟨v, hv, rv⟩ := fs_look hf hd
    exact ⟨a, C, dx, gs, v, rfl, (hP C hC).1, (hP C hC).2, h2, hr1.same _ _ h3, hv, kl _ _ _ _ _ _ x1 hr1 rv hk⟩
  · exact hq.elim
end DL

namespace DL
open PySem PySem.Spec PyProof.Rows L2 RZ
structure EndF (K : PySem.W.Frag) (X : XF) : Prop where
  exc : ExcC K X.endless
  ve : PySem.W.subIn K (.ref X.endless) (.type "ValueError") = some true
  sub : ∀ C ∈ X.addrs, PySem.W.subIn K (.ref X.endless) (.ref C) = some (decide (X.endless = C ∨ C = X.royal))
  xf : XfC K X.endless
  no : PySem.W.findIn K (.ref X.endless) "names" = some none
def excK2 (X : XF) (i : Nat) (w : Wd) (f : Addr → Prop) : Prop := match w.M[i]? with
  | some (.exc A) => A ∈ X.raised ∧ f A
  | some (.exf A _) => A = X.endless ∧ f A
  | _ => False
def fIsE2 (X : XF) : FB := fun ds w k => match ds with
  | [.rf i, .ob v] => excK2 X i w fun A => optK (isEV X A v) fun b => k (.bl b) w
  | _ => False
def fIsET2 (X : XF) : FB := fun ds w k => match ds with
  | [.rf i, .tup cs] => excK2 X i w fun A => optK (isEVs X A cs) fun b => k (.bl b) w
  | _ => False
section
variable {K : PySem.W.Frag} {mg : Str → Option Value} {X : XF}
theorem EndF.one (g : EndF K X) (h : XFK K mg X) {v : V} {b : Bool} (e : isEV X X.endless v = some b) : ∃ u, ClsV v u ∧ PySem.W.kitOne K (.ref X.endless) u = some b := by
  unfold isEV at e
  split at e
  · rename_i C
    split at e
    · rename_i hC
      refine ⟨.ref C, .own C, ?_⟩
      obtain ⟨_, _, _, hd, ht, _⟩ := h.addr hC
      obtain ⟨cd, hc, _⟩ := PySem.W.any_some hd
      have hs := g.sub C hC
      unfold PySem.W.kitOne PySem.W.kitCls
      by_cases hAC : X.endless = C
      · have e1 : ((Value.ref X.endless == Value.ref C) = true) := by rw [hAC]; exact beq_self_eq_true _
        rw [if_pos e1, ← e, decide_eq_true (.inl hAC)]
      · rw [if_neg (by simpa using hAC)]
        have e2 : ((PySem.W.clsIn K C).isSome && PySem.W.typeIn K (.ref C) == some (.type "type")) = true := by rw [hc, ht] <;> rfl
        simp only [e2, if_true]
        rw [hs, e]
    · cases e
  · rename_i n
    split at e
    · rename_i hn
      subst hn
      cases e
      refine ⟨.type "ValueError", .ty _, ?_⟩
      unfold PySem.W.kitOne PySem.W.kitCls
      rw [if_neg (by simp)]
      have e2 : PySem.W.kitMeta "ValueError" = true := by decide +kernel
      simp only [e2, if_true]
      exact g.ve
    · cases e
  · cases e
theorem EndF.any (g : EndF K X) (h : XFK K mg X) {G : Gh} {S : Hp} : ∀ {ds : List D} {vs : List V} {b : Bool}, RepAll K G S vs ds → isEVs X X.endless ds = some b → ∃ us, Paired ClsV vs us ∧ PySem.W.kitAny K (.ref X.endless) us = some b
  | [], _, _, .nil, e => by
    cases e
    exact ⟨[], .nil, rfl⟩
  | .ob v :: ds, _, _, .cons h1 r, e => by
    simp only [isEVs] at e
    cases e1 : isEV X X.endless v with
    | none => rw [e1] at e; cases e
    | some a1 =>
      cases e2 : isEVs X X.endless ds with
      | none => rw [e1, e2] at e; cases e
      | some b1 =>
        rw [e1, e2] at e
        cases e
        cases h1
        obtain ⟨u, c, hu⟩ := g.one h e1
        obtain ⟨us, p, hus⟩ := g.any h r e2
        refine ⟨u :: us, .cons c p, ?_⟩
        unfold PySem.W.kitAny
        rw [hu]
        cases a1
        · exact hus
        · rfl
  | .non :: _, _, _, _, e => by simp [isEVs] at e
  | .bl _ :: _, _, _, _, e => by simp [isEVs] at e
  | .int _ :: _, _, _, _, e => by simp [isEVs] at e
  | .str _ :: _, _, _, _, e => by simp [isEVs] at e
  | .lst _ :: _, _, _, _, e => by simp [isEVs] at e
  | .tup _ :: _, _, _, _, e => by simp [isEVs] at e
  | .rf _ :: _, _, _, _, e => by simp [isEVs] at e
  | .st :: _, _, _, _, e => by simp [isEVs] at e
  | .scr _ :: _, _, _, _, e => by simp [isEVs] at e
end
section
variable {X : Cx} {E : XK} {e : Expr} {es : List Expr} {ga : GA} {p pos : Pos} {F : XF}
theorem call_isi2 : CallR X (.builtin "isinstance") (fun xs H Q => rIsiE X.K xs H Q ∨ rIsiF X.K xs H Q) := fun pins s σ H xs us Q I r h => h.elim (call_isiE pins s σ H xs us Q I r) (call_isiF pins s σ H xs us Q I r)
end
end DL

namespace L2
open PySem PySem.Spec PyProof.Rows
def tVal (t : St → Hp → XK → Prop) : TE := fun σ H Q => t σ H fun cls d H' => ∀ a, H' a = none → Q (.ref a) (upd H' a (ExcAt a cls d))
theorem pe_made {X : Cx} {e : Expr} {t : St → Hp → XK → Prop} (h : PMk X e t) : PE X e (tVal t) := by
  refine ⟨fun pins s σ H Q I q => thn (h pins s σ H _ I q) fun u s' hu => ?_⟩
  obtain ⟨a, oe, vs, sI, H', cls, d, rfl, J, k, ne, ha, hz, hd, h1, na, os, ag, r, q⟩ := hu
  exact ⟨.ref a, _, J.call' (ch := []) os (Un.laidN k ne na) (J.hok.laidN k na (excAt_ok ha hz hd)) ag (fun b z => absurd z (by simp)), rfl, q a na⟩
end L2
namespace DL
open PySem PySem.Spec PyProof.Rows L2 RZ
def gExc (C : Addr) (ge : GE) : GE := fun ρ w kx k => ge ρ w kx fun _ w1 => k (.rf w1.M.length) ⟨w1.M ++ [.exc C], w1.n⟩
theorem de_exc {X : Cx} {E : XK} {x : Str} {C : Addr} {p pos : Pos} {e : Expr} {ge : GE} (c : XCls X.K X.mg x C) (hg : Gl X x) (he : DE X E e ge) (hs : starEach [e] X.env = (false, eval e X.env) :: starEach [] X.env := by rfl) (hdb : (x == ("__debug__" : Str)) = false := by decide) :
    DE X E (.Call (.Name x p) [e] [] pos) (gExc C ge) := by
  refine pe_imp (pe_made (SkE.pmk_own1 PySem.F.excBase_ValueError c.exc c.mgC c.kp (raises_own c.sub c.ty) hg he hs hdb)) ?_
  rintro σ H Q ⟨G, S, ρ, w, kx, k, hr, sr, xl, kl, h⟩
  refine ⟨G, S, ρ, w, kx, _, hr, sr, xl, fun G1 S1 H1 w1 d v x1 hr1 rp hq a na => ?_, h⟩
  obtain ⟨hr2, x2⟩ := hr1.newC na (ExcAt a (.ref C) none) (.exc C) ⟨hr1.freshS na, upd_same⟩
  refine kl _ _ _ _ _ _ (x1.trans x2) hr2 (.rf ?_) hq
  show (G1.al ++ [a])[w1.M.length]? = some a
  rw [List.getElem?_append_right (by rw [hr1.len]; exact Nat.le_refl _), hr1.len, Nat.sub_self]
  rfl
def gExcF (C : Addr) (n : Str) (ok : D → Prop) (ge : GE) : GE := fun ρ w kx k => ge ρ w kx fun d w1 => ok d ∧ k (.rf w1.M.length) ⟨w1.M ++ [.exf C [(n, d)]], w1.n⟩
def namesOk (d : D) : Prop := ∃ ss : List Str, d = .tup (ss.map D.str) ∧ (ss.map (·.length)).sum + ss.length * 1 ≤ 10000
def rowOk (d : D) : Prop := ∃ z : Int, d = .int z ∧ z.natAbs.log2 < 1920 ∧ (Str.ofString (toString z)).length ≤ 1000
def spB (K : PySem.W.Frag) : Sp := fun vs H Q _ => ∃ (a C : Addr) (z : Int), vs = [.ref a, .int z] ∧ OexC K C ∧ PySem.W.findIn K (.ref C) "row" = some none ∧ H a = some (exo a C none) ∧ z.natAbs.log2 < 1920 ∧ (Str.ofString (toString z)).length ≤ 1000 ∧
  ∀ dx, H dx = none → dx ≠ a → Q .non (upd (upd H dx (exd dx [("row", .int z)])) a (exo a C (some dx)))
structure BadK (P : Program) (w : World) (K : PySem.W.Frag) (mg : Str → Option Value) (base : Heap) (C : Addr) : Prop where
  oex : OexC K C
  no : PySem.W.findIn K (.ref C) "row" = some none
  at_ : mg "BadRow" = some (.ref C)
  ex : ∃ fI fd, PySem.W.findIn K (.ref C) "__init__" = some (some (.ref fI)) ∧ PySem.W.typeIn K (.ref fI) = some (.type "function") ∧ FnOk P w K mg base CX0 1 fI fd ["self", "row"] (spB K) ∧ Binds K fd ["self", "row"] []
theorem made_step {K : PySem.W.Frag} {G1 : Gh} {S1 H1 : Hp} {w1 : Wd} {a dx C : Addr} {n : Str} {d : D} {v : V} {Q : VK} {k : D → Wd → Prop} {G : Gh} {S : Hp} (x1 : Ext G S G1 S1) (hr1 : HR K G1 S1 w1 H1) (ha : H1 a = none) (hd : upd H1 a (exo a C none) dx = none) (hne : dx ≠ a) (rp : Rep K G1 S1 v d)
    (kl : ∀ G' S' H' w' d' v', Ext G S G' S' → HR K G' S' w' H' → Rep K G' S' v' d' → k d' w' → Q v' H') (hk : k (.rf w1.M.length) ⟨w1.M ++ [.exf C [(n, d)]], w1.n⟩) (b : Addr) (hb : upd (del (upd (upd (upd H1 a (exo a C none)) dx (exd dx [(n, v)])) a (exo a C (some dx))) a) dx (.xd [(n, v)]) b = none) :
    Q (.ref b) (upd (upd (del (upd (upd (upd H1 a (exo a C none)) dx (exd dx [(n, v)])) a (exo a C (some dx))) a) dx (.xd [(n, v)])) b (ExcAt b (.ref C) (some dx))) := by
  have hd1 : H1 dx = none := by
    rw [upd_ne hne] at hd
    exact hd
  have eH : upd (del (upd (upd (upd H1 a (exo a C none)) dx (exd dx [(n, v)])) a (exo a C (some dx))) a) dx (.xd [(n, v)]) = upd H1 dx (.xd [(n, v)]) := by
    funext b
    by_cases h1 : b = dx
    · rw [h1, upd_same, upd_same]
    · rw [upd_ne h1, upd_ne h1]
      by_cases h2 : b = a
      · rw [h2, del_same, ha]
      · rw [del_ne h2, upd_ne h2, upd_ne h1, upd_ne h2]
  rw [eH] at hb ⊢
  obtain ⟨hr2, x2⟩ := hr1.newS hd1 (.xd [(n, v)])
  have xG : Ext G1 (upd S1 dx (.xd [(n, v)])) ⟨G1.al ++ [b], G1.st, G1.fr⟩ (upd S1 dx (.xd [(n, v)])) := ⟨⟨[b], rfl⟩, fun _ z => z, fun _ z => z, Same.refl _⟩
  obtain ⟨hr3, x3⟩ := hr2.newC hb (ExcAt b (.ref C) (some dx)) (.exf C [(n, d)]) ⟨hr2.freshS hb, dx, _, upd_same, upd_same, fs_ext xG (.cons ⟨rfl, rp.mono x2⟩ .nil)⟩
  refine kl _ _ _ _ _ _ (x1.trans (x2.trans x3)) hr3 (.rf ?_) hk
  show (G1.al ++ [b])[w1.M.length]? = some b
  rw [List.getElem?_append_right (by rw [hr2.len]; exact Nat.le_refl _), hr2.len, Nat.sub_self]
  rfl
theorem de_end {X : Cx} {E : XK} {C : Addr} {kk : Nat} {p pos : Pos} {e : Expr} {ge : GE} (c : EndK X.prog X.w X.K X.mg X.base C) (hr : Room kk X.A) (hg : Gl X "Endless") (he : DE X E e ge) (hk : 2 ≤ kk := by decide)
    (hs : starEach [e] X.env = (false, eval e X.env) :: starEach [] X.env := by rfl) (hpl : (backTo pos (starEach [] X.env)).any (·.1) = false := by rfl) : DE X E (.Call (.Name "Endless" p) [e] [] pos) (gExcF C "names" namesOk ge) := by
  obtain ⟨fI, fd, i1, i2, F1, hb⟩ := c.ex
  refine pe_imp (pe_made (pmk_oex c.oex i1 i2 F1 (hr.mono hk) hb .nil pass0 hg c.at_ (pa_cons he pa_nil hs) (he := hs) (hpl := hpl))) ?_
  rintro σ H Q ⟨G, S, ρ, w, kx, k, hr, sr, xl, kl, h⟩
  refine ⟨G, S, ρ, w, kx, _, hr, sr, xl, fun G1 S1 H1 w1 d v x1 hr1 rp hq => ?_, h⟩
  obtain ⟨⟨ss, rfl, hl⟩, hx⟩ := hq
  cases rp with
  | @tup t vs _ ht hcs =>
    have hvs := rep_strsF hcs
    refine ⟨Nat.le_of_ble_eq_true rfl, fun a ha => ?_⟩
    have hT : SqT X.K H1 t vs := sqT_up hr1.same ht
    have hT2 : SqT X.K (upd H1 a (exo a C none)) t (ss.map V.str) := hvs ▸ sqT_up (fun b o hb => by
      rw [upd_ne (ne_of_none hb ha)]
      exact hb) hT
    refine ⟨a, C, t, ss, rfl, c.oex, c.no, upd_same, hT2, hl, fun dx hd hne => ⟨rfl, dx, [("names", .ref t)], upd_same, by rw [upd_ne hne, upd_same], by rw [upd_ne hne] at hd; exact hd, fun b hb => ?_⟩⟩
    exact made_step x1 hr1 ha hd hne (Rep.tup ht hcs) kl hx b hb
theorem de_bad {X : Cx} {E : XK} {C : Addr} {kk : Nat} {p pos : Pos} {e : Expr} {ge : GE} (c : BadK X.prog X.w X.K X.mg X.base C) (hr : Room kk X.A) (hg : Gl X "BadRow") (he : DE X E e ge) (hk : 2 ≤ kk := by decide)
    (hs : starEach [e] X.env = (false, eval e X.env) :: starEach [] X.env := by rfl) (hpl : (backTo pos (starEach [] X.env)).any (·.1) = false := by rfl) : DE X E (.Call (.Name "BadRow" p) [e] [] pos) (gExcF C "row" rowOk ge) := by
  obtain ⟨fI, fd, i1, i2, F1, hb⟩ := c.ex
  refine pe_imp (pe_made (pmk_oex c.oex i1 i2 F1 (hr.mono hk) hb .nil pass0 hg c.at_ (pa_cons he pa_nil hs) (he := hs) (hpl := hpl))) ?_
  rintro σ H Q ⟨G, S, ρ, w, kx, k, hr, sr, xl, kl, h⟩
  refine ⟨G, S, ρ, w, kx, _, hr, sr, xl, fun G1 S1 H1 w1 d v x1 hr1 rp hq => ?_, h⟩
  obtain ⟨⟨z, rfl, hl, hl2⟩, hx⟩ := hq
  cases rp
  refine ⟨Nat.le_of_ble_eq_true rfl, fun a ha => ?_⟩
  refine ⟨a, C, z, rfl, c.oex, c.no, upd_same, hl, hl2, fun dx hd hne => ⟨rfl, dx, [("row", .int z)], upd_same, by rw [upd_ne hne, upd_same], by rw [upd_ne hne] at hd; exact hd, fun b hb => ?_⟩⟩
  exact made_step x1 hr1 ha hd hne (.int _) kl hx b hb
theorem bad_read {K : PySem.W.Frag} {vs : List V} {H : Hp} {Q : VK} {E : XK} {N : List Str} (hN : N = [("self" : Str), "row"]) (h : spB K vs H Q E) :
    (tSeq (tDrop (tVeI K (tCons (tVar 0) (tCons (tOp (fun x y H Q => ∃ i j, x = .str i ∧ y = .str j ∧ i.length + j.length ≤ sizeLine ∧ Q (.str (i ++ j)) H) (tC (.str "row ")) (tCB (fun xs H Q => ∃ i, xs = [.int i] ∧ i.natAbs.log2 < 1920 ∧ Q (.str (toString i)) H) (tCons (tVar 1) tNil))) tNil)))) (tOst K "row" (tVar 0) (tVar 1)))
      { nx := fun _ H' => Q .non H', rt := Q } (L2.start N vs) H := by
  obtain ⟨a, C, z, rfl, hC, hno, hH, hz, hl, hq⟩ := h
  subst hN
  refine ⟨_, rfl, _, rfl, z, rfl, hz, "row ", _, rfl, rfl, ?_, a, C, _, rfl, ?_, hC, hH, ?_⟩
  · have h2 : (("row " : String) : Str).length = 4 := rfl
    rw [h2]
    exact Nat.le_trans (show _ ≤ 20000 by omega) (by decide)
  · exact Nat.le_of_ble_eq_true rfl
  · exact ⟨_, rfl, _, rfl, a, C, rfl, hC, hno, .inl ⟨hH, hq⟩⟩
structure ExV (K : PySem.W.Frag) (X : XF) (C : Addr) : Prop where
  exc : ExcC K C
  ve : PySem.W.subIn K (.ref C) (.type "ValueError") = some true
  sub : ∀ D ∈ X.addrs, PySem.W.subIn K (.ref C) (.ref D) = some (decide (C = D ∨ D = X.royal))
def excK3 (X : XF) (i : Nat) (w : Wd) (f : Addr → Prop) : Prop := match w.M[i]? with
  | some (.exc A) => (A ∈ X.raised ∨ A = X.royal) ∧ f A
  | some (.exf A _) => (A = X.endless ∨ A = X.badrow) ∧ f A
  | _ => False
def fIsE3 (X : XF) : FB := fun ds w k => match ds with
  | [.rf i, .ob v] => excK3 X i w fun A => optK (isEV X A v) fun b => k (.bl b) w
  | _ => False
structure ExVs (K : PySem.W.Frag) (X : XF) : Prop where
  roy : ExV K X X.royal
  endl : ExV K X X.endless
  bad : ExV K X X.badrow
section
variable {K : PySem.W.Frag} {mg : Str → Option Value} {X : XF}
theorem ExV.one {C : Addr} (g : ExV K X C) (h : XFK K mg X) {v : V} {b : Bool} (e : isEV X C v = some b) : ∃ u, ClsV v u ∧ PySem.W.kitOne K (.ref C) u = some b := by
  unfold isEV at e
  split at e
  · rename_i D
    split at e
    · rename_i hD
      refine ⟨.ref D, .own D, ?_⟩
      obtain ⟨_, _, _, hd, ht, _⟩ := h.addr hD
      obtain ⟨cd, hc, _⟩ := PySem.W.any_some hd
      have hs := g.sub D hD
      unfold PySem.W.kitOne PySem.W.kitCls
      by_cases hAC : C = D
      · have e1 : ((Value.ref C == Value.ref D) = true) := by rw [hAC]; exact beq_self_eq_true _
        rw [if_pos e1, ← e, decide_eq_true (.inl hAC)]
      · rw [if_neg (by simpa using hAC)]
        have e2 : ((PySem.W.clsIn K D).isSome && PySem.W.typeIn K (.ref D) == some (.type "type")) = true := by rw [hc, ht] <;> rfl
        simp only [e2, if_true]
        rw [hs, e]
    · cases e
  · rename_i n
    split at e
    · rename_i hn
      subst hn
      cases e
      refine ⟨.type "ValueError", .ty _, ?_⟩
      unfold PySem.W.kitOne PySem.W.kitCls
      rw [if_neg (by simp)]
      have e2 : PySem.W.kitMeta "ValueError" = true := by decide +kernel
      simp only [e2, if_true]
      exact g.ve
    · cases e
  · cases e
theorem XFK.exv (h : XFK K mg X) {A : Addr} (hA : A ∈ X.raised) : ExV K X A := ⟨(h.exc A hA).2.1, (h.exc A hA).2.2, h.sub A hA⟩
theorem ExVs.exc (g : ExVs K X) (h : XFK K mg X) {A : Addr} (hA : A ∈ X.raised ∨ A = X.royal) : ExV K X A := by
  rcases hA with hA | rfl
  · exact h.exv hA
  · exact g.roy
theorem ExVs.exf (g : ExVs K X) {A : Addr} (hA : A = X.endless ∨ A = X.badrow) : ExV K X A := by
  rcases hA with rfl | rfl
  · exact g.endl
  · exact g.bad
theorem ok_isE3 (g : ExVs K X) (h : XFK K mg X) : CallOk K (fun xs H Q => rIsiE K xs H Q ∨ rIsiF K xs H Q) (fIsE3 X) := by
  intro G S H w xs ds k Q hr rx kl hq
  unfold fIsE3 at hq
  split at hq
  · rename_i i v
    obtain ⟨v1, v2, rfl, r1, r2⟩ := two_rep rx
    cases r1 with
    | rf ea =>
      cases r2
      unfold excK3 at hq
      split at hq
      · rename_i A e
        obtain ⟨hA, hf⟩ := hq
        obtain ⟨b, e4, hk⟩ := optK_get hf
        obtain ⟨u, c, hu⟩ := (g.exc h hA).one h e4
        obtain ⟨h1, h2⟩ := hr.cell _ _ _ ea e
        exact .inl ⟨_, A, _, u, b, rfl, (g.exc h hA).exc, h2, c, hu, kl.here hr (.bl _) hk⟩
      · rename_i A fs e
        obtain ⟨hA, hf⟩ := hq
        obtain ⟨b, e4, hk⟩ := optK_get hf
        obtain ⟨u, c, hu⟩ := (g.exf hA).one h e4
        obtain ⟨_, dx, gs, h2, h3, _⟩ := hr.cell _ _ _ ea e
        exact .inr ⟨_, A, dx, gs, _, u, b, rfl, (g.exf hA).exc, h2, hr.same _ _ h3, c, hu, kl.here hr (.bl _) hk⟩
      · exact hq.elim
  · exact hq.elim
end
theorem de_isE3 {X : Cx} {E : XK} {e : Expr} {es : List Expr} {ga : GA} {p pos : Pos} {F : XF} (g : ExVs X.K F) (h : XFK X.K X.mg F) (B : Blt X.mg) (hg : Gl X "isinstance") (ha : DA X E (e :: es) ga) (he : starEach (e :: es) X.env = (false, eval e X.env) :: starEach es X.env := by rfl) (hpl : (backTo pos (starEach es X.env)).any (·.1) = false := by rfl) : DE X E (.Call (.Name "isinstance" p) (e :: es) [] pos) (gCB (fIsE3 F) ga) := de_cb call_isi2 (ok_isE3 g h) hg B.isi_ (by decide +kernel) ha (he := he) (hpl := hpl)
end DL

namespace DL
open PySem PySem.Spec PyProof.Rows L2 RZ
theorem XFK.own_eq {K : PySem.W.Frag} {mg : Str → Option Value} {X : XF} (h : XFK K mg X) {x : Str} {A C : Addr} (hx : (x, A) ∈ X.all) (e : mg x = some (.ref C)) : A = C := by
  have h1 := h.own hx
  rw [e] at h1
  exact (Value.ref.inj (Option.some.inj h1)).symm
theorem oex_mk {K : PySem.W.Frag} {nm q : Str} {C N : Addr} {bs bm : List Value} {sn : List Str} {sub : List Value} {ab : Bool} {col : Option Bool} {dd : Option Addr} {k0 k1 k2 k3 k5 : Option Value}
    (h : K.lookup C = some (excClassObj nm q C N bs bm true sn sub ab col dd k0 k1 k2 k3 k5 "ValueError.__new__")) (r : PySem.HandSPX.refsVE bm = true) (sa : PySem.W.findIn K (.ref C) "__setattr__" = some (some (.builtin "object.__setattr__")))
    (b : PySem.W.subIn K (.ref C) (.type "BaseException") = some true) (t : PySem.W.typeIn K (.ref C) = some (.type "type")) (k : PySem.W.keepIn K (.ref C) = true) : OexC K C := ⟨⟨_, _, _, _, _, _, _, _, _, _, _, _, _, _, _, h, r⟩, sa, b, t, k⟩
structure ExE (P : Program) (w : World) (K : PySem.W.Frag) (mg : Str → Option Value) (base : Heap) (X : XF) : Prop where
  ee : EndK P w K mg base X.endless
  ef : EndF K X
structure ExA (P : Program) (w : World) (K : PySem.W.Frag) (mg : Str → Option Value) (base : Heap) (X : XF) : Prop where
  ev : ExVs K X
  ee : EndK P w K mg base X.endless
  be : BadK P w K mg base X.badrow
  rx : XCls K mg "RoyalError" X.royal
  fe : XfC K X.endless
  fb : XfC K X.badrow
theorem ExE.royal {P : Program} {w : World} {K : PySem.W.Frag} {mg : Str → Option Value} {base : Heap} {X : XF} (g : ExE P w K mg base X) (h : XFK K mg X) : ∀ B, B ∈ X.raised ∨ B = X.endless → PySem.W.exmOne K (.ref B) (.ref X.royal) = some true := by
  intro B hB
  rcases hB with hB | rfl
  · exact h.royal B hB
  · obtain ⟨_, _, hd, ht, hb⟩ := h.at_ ("RoyalError", X.royal) (by simp [XF.all])
    refine PySem.W.exm_ref hb hd ht ?_
    rw [g.ef.sub X.royal (by simp [XF.addrs])]
    simp
theorem ExA.fldE {P : Program} {w : World} {K : PySem.W.Frag} {mg : Str → Option Value} {base : Heap} {X : XF} (g : ExA P w K mg base X) : ∀ C, C = X.endless → XfC K C ∧ PySem.W.findIn K (.ref C) "names" = some none := fun _ e => e ▸ ⟨g.fe, g.ee.no⟩
theorem ExA.fldB {P : Program} {w : World} {K : PySem.W.Frag} {mg : Str → Option Value} {base : Heap} {X : XF} (g : ExA P w K mg base X) : ∀ C, C = X.badrow → XfC K C ∧ PySem.W.findIn K (.ref C) "row" = some none := fun _ e => e ▸ ⟨g.fb, g.be.no⟩
theorem exA_mk {P : Program} {w : World} {K : PySem.W.Frag} {mg : Str → Option Value} {base : Heap} {X : XF} (XX : XFK K mg X) {C_bf C_taken C_noname C_toomuch C_norate C_noneleft C_endless C_badrow C_royal : Addr}
    (xa_bf : mg "BadFraction" = some (.ref C_bf))
    (xk_bf : PySem.W.keepIn K (.ref C_bf) = true)
    (xd_bf : PySem.W.hasDictIn K C_bf = true)
    (xt_bf : PySem.W.typeIn K (.ref C_bf) = some (.type "type"))
    (xb_bf : PySem.W.subIn K (.ref C_bf) (.type "BaseException") = some true)
    (xa_taken : mg "Taken" = some (.ref C_taken))
    (xk_taken : PySem.W.keepIn K (.ref C_taken) = true)
    (xd_taken : PySem.W.hasDictIn K C_taken = true)
    (xt_taken : PySem.W.typeIn K (.ref C_taken) = some (.type "type"))
    (xb_taken : PySem.W.subIn K (.ref C_taken) (.type "BaseException") = some true)
    (xa_noname : mg "NoName" = some (.ref C_noname))
    (xk_noname : PySem.W.keepIn K (.ref C_noname) = true)
    (xd_noname : PySem.W.hasDictIn K C_noname = true)
    (xt_noname : PySem.W.typeIn K (.ref C_noname) = some (.type "type"))
    (xb_noname : PySem.W.subIn K (.ref C_noname) (.type "BaseException") = some true)
    (xa_toomuch : mg "TooMuch" = some (.ref C_toomuch))
    (xk_toomuch : PySem.W.keepIn K (.ref C_toomuch) = true)
    (xd_toomuch : PySem.W.hasDictIn K C_toomuch = true)
    (xt_toomuch : PySem.W.typeIn K (.ref C_toomuch) = some (.type "type"))
    (xb_toomuch : PySem.W.subIn K (.ref C_toomuch) (.type "BaseException") = some true)
    (xa_norate : mg "NoRate" = some (.ref C_norate))
    (xk_norate : PySem.W.keepIn K (.ref C_norate) = true)
    (xd_norate : PySem.W.hasDictIn K C_norate = true)
    (xt_norate : PySem.W.typeIn K (.ref C_norate) = some (.type "type"))
    (xb_norate : PySem.W.subIn K (.ref C_norate) (.type "BaseException") = some true)
    (xa_noneleft : mg "NoneLeft" = some (.ref C_noneleft))
    (xk_noneleft : PySem.W.keepIn K (.ref C_noneleft) = true)
    (xd_noneleft : PySem.W.hasDictIn K C_noneleft = true)
    (xt_noneleft : PySem.W.typeIn K (.ref C_noneleft) = some (.type "type"))
    (xb_noneleft : PySem.W.subIn K (.ref C_noneleft) (.type "BaseException") = some true)
    (xa_endless : mg "Endless" = some (.ref C_endless))
    (xk_endless : PySem.W.keepIn K (.ref C_endless) = true)
    (xd_endless : PySem.W.hasDictIn K C_endless = true)
    (xt_endless : PySem.W.typeIn K (.ref C_endless) = some (.type "type"))
    (xb_endless : PySem.W.subIn K (.ref C_endless) (.type "BaseException") = some true)
    (xa_badrow : mg "BadRow" = some (.ref C_badrow))
    (xk_badrow : PySem.W.keepIn K (.ref C_badrow) = true)
    (xd_badrow : PySem.W.hasDictIn K C_badrow = true)
    (xt_badrow : PySem.W.typeIn K (.ref C_badrow) = some (.type "type"))
    (xb_badrow : PySem.W.subIn K (.ref C_badrow) (.type "BaseException") = some true)
    (xa_royal : mg "RoyalError" = some (.ref C_royal))
    (xk_royal : PySem.W.keepIn K (.ref C_royal) = true)
    (xd_royal : PySem.W.hasDictIn K C_royal = true)
    (xt_royal : PySem.W.typeIn K (.ref C_royal) = some (.type "type"))
    (xb_royal : PySem.W.subIn K (.ref C_royal) (.type "BaseException") = some true)
    (xn : PySem.W.specialIn K (.builtin "object.__class__") "__get__" = some (some (.builtin "getset_descriptor.__get__")))
    (xq : PySem.W.takesIn K (.builtin "object.__class__") = some true)
    (xv_endless : PySem.W.subIn K (.ref C_endless) (.type "ValueError") = some true)
    (xg_endless : PySem.W.findIn K (.ref C_endless) "__getattribute__" = some (some (.builtin "BaseException.__getattribute__")))
    (xh_endless : PySem.W.findIn K (.ref C_endless) "__getattr__" = some none)
    (xc_endless : PySem.W.findIn K (.ref C_endless) "__class__" = some (some (.builtin "object.__class__")))
    (xm_endless : PySem.W.mroIn K C_endless (.type "object") = some true)
    (xs_endless_bf : PySem.W.subIn K (.ref C_endless) (.ref C_bf) = some false)
    (xs_endless_taken : PySem.W.subIn K (.ref C_endless) (.ref C_taken) = some false)
    (xs_endless_noname : PySem.W.subIn K (.ref C_endless) (.ref C_noname) = some false)
    (xs_endless_toomuch : PySem.W.subIn K (.ref C_endless) (.ref C_toomuch) = some false)
    (xs_endless_norate : PySem.W.subIn K (.ref C_endless) (.ref C_norate) = some false)
    (xs_endless_noneleft : PySem.W.subIn K (.ref C_endless) (.ref C_noneleft) = some false)
    (xs_endless_endless : PySem.W.subIn K (.ref C_endless) (.ref C_endless) = some true)
    (xs_endless_badrow : PySem.W.subIn K (.ref C_endless) (.ref C_badrow) = some false)
    (xs_endless_royal : PySem.W.subIn K (.ref C_endless) (.ref C_royal) = some true)
    (xno_endless : PySem.W.findIn K (.ref C_endless) "names" = some none)
    (xv_badrow : PySem.W.subIn K (.ref C_badrow) (.type "ValueError") = some true)
    (xg_badrow : PySem.W.findIn K (.ref C_badrow) "__getattribute__" = some (some (.builtin "BaseException.__getattribute__")))
    (xh_badrow : PySem.W.findIn K (.ref C_badrow) "__getattr__" = some none)
    (xc_badrow : PySem.W.findIn K (.ref C_badrow) "__class__" = some (some (.builtin "object.__class__")))
    (xm_badrow : PySem.W.mroIn K C_badrow (.type "object") = some true)
    (xs_badrow_bf : PySem.W.subIn K (.ref C_badrow) (.ref C_bf) = some false)
    (xs_badrow_taken : PySem.W.subIn K (.ref C_badrow) (.ref C_taken) = some false)
    (xs_badrow_noname : PySem.W.subIn K (.ref C_badrow) (.ref C_noname) = some false)
    (xs_badrow_toomuch : PySem.W.subIn K (.ref C_badrow) (.ref C_toomuch) = some false)
    (xs_badrow_norate : PySem.W.subIn K (.ref C_badrow) (.ref C_norate) = some false)
    (xs_badrow_noneleft : PySem.W.subIn K (.ref C_badrow) (.ref C_noneleft) = some false)
    (xs_badrow_endless : PySem.W.subIn K (.ref C_badrow) (.ref C_endless) = some false)
    (xs_badrow_badrow : PySem.W.subIn K (.ref C_badrow) (.ref C_badrow) = some true)
    (xs_badrow_royal : PySem.W.subIn K (.ref C_badrow) (.ref C_royal) = some true)
    (xno_badrow : PySem.W.findIn K (.ref C_badrow) "row" = some none)
    (xv_royal : PySem.W.subIn K (.ref C_royal) (.type "ValueError") = some true)
    (xg_royal : PySem.W.findIn K (.ref C_royal) "__getattribute__" = some (some (.builtin "BaseException.__getattribute__")))
    (xh_royal : PySem.W.findIn K (.ref C_royal) "__getattr__" = some none)
    (xc_royal : PySem.W.findIn K (.ref C_royal) "__class__" = some (some (.builtin "object.__class__")))
    (xm_royal : PySem.W.mroIn K C_royal (.type "object") = some true)
    (xs_royal_bf : PySem.W.subIn K (.ref C_royal) (.ref C_bf) = some false)
    (xs_royal_taken : PySem.W.subIn K (.ref C_royal) (.ref C_taken) = some false)
    (xs_royal_noname : PySem.W.subIn K (.ref C_royal) (.ref C_noname) = some false)
    (xs_royal_toomuch : PySem.W.subIn K (.ref C_royal) (.ref C_toomuch) = some false)
    (xs_royal_norate : PySem.W.subIn K (.ref C_royal) (.ref C_norate) = some false)
    (xs_royal_noneleft : PySem.W.subIn K (.ref C_royal) (.ref C_noneleft) = some false)
    (xs_royal_endless : PySem.W.subIn K (.ref C_royal) (.ref C_endless) = some false)
    (xs_royal_badrow : PySem.W.subIn K (.ref C_royal) (.ref C_badrow) = some false)
    (xs_royal_royal : PySem.W.subIn K (.ref C_royal) (.ref C_royal) = some true)
    (xe_royal : PySem.W.excIn K C_royal [.type "ValueError", .type "Exception", .type "BaseException", .type "object"] "ValueError.__new__" = true)
    (EE : EndK P w K mg base C_endless) (BE : BadK P w K mg base C_badrow) : ExA P w K mg base X := by
  have q_bf := XX.own_eq (x := "BadFraction") (A := X.bf) (by simp [XF.all]) xa_bf
  have q_taken := XX.own_eq (x := "Taken") (A := X.taken) (by simp [XF.all]) xa_taken
  have q_noname := XX.own_eq (x := "NoName") (A := X.noname) (by simp [XF.all]) xa_noname
  have q_toomuch := XX.own_eq (x := "TooMuch") (A := X.toomuch) (by simp [XF.all]) xa_toomuch
  have q_norate := XX.own_eq (x := "NoRate") (A := X.norate) (by simp [XF.all]) xa_norate
  have q_noneleft := XX.own_eq (x := "NoneLeft") (A := X.noneleft) (by simp [XF.all]) xa_noneleft
  have q_endless := XX.own_eq (x := "Endless") (A := X.endless) (by simp [XF.all]) xa_endless
  have q_badrow := XX.own_eq (x := "BadRow") (A := X.badrow) (by simp [XF.all]) xa_badrow
  have q_royal := XX.own_eq (x := "RoyalError") (A := X.royal) (by simp [XF.all]) xa_royal
  subst q_bf
  subst q_taken
  subst q_noname
  subst q_toomuch
  subst q_norate
  subst q_noneleft
  subst q_endless
  subst q_badrow
  subst q_royal
  refine ⟨⟨⟨⟨xg_royal, xh_royal, xb_royal, xd_royal, xc_royal, xn, xq, xm_royal⟩, xv_royal, ?_⟩, ⟨⟨xg_endless, xh_endless, xb_endless, xd_endless, xc_endless, xn, xq, xm_endless⟩, xv_endless, ?_⟩, ⟨⟨xg_badrow, xh_badrow, xb_badrow, xd_badrow, xc_badrow, xn, xq, xm_badrow⟩, xv_badrow, ?_⟩⟩, EE, BE, ⟨xa_royal, xk_royal, xe_royal, xb_royal, xt_royal⟩, ⟨xg_endless, xh_endless, xb_endless, xd_endless⟩, ⟨xg_badrow, xh_badrow, xb_badrow, xd_badrow⟩⟩
  · intro D hD
    simp only [XF.addrs, List.mem_cons, List.not_mem_nil, or_false] at hD
    rcases hD with rfl | rfl | rfl | rfl | rfl | rfl | rfl | rfl | rfl
    · rw [decide_eq_false (not_or.mpr ⟨ne_of_sub xs_royal_royal xs_royal_bf, fun z => ne_of_sub xs_royal_royal xs_royal_bf z.symm⟩)]; exact xs_royal_bf
    · rw [decide_eq_false (not_or.mpr ⟨ne_of_sub xs_royal_royal xs_royal_taken, fun z => ne_of_sub xs_royal_royal xs_royal_taken z.symm⟩)]; exact xs_royal_taken
    · rw [decide_eq_false (not_or.mpr ⟨ne_of_sub xs_royal_royal xs_royal_noname, fun z => ne_of_sub xs_royal_royal xs_royal_noname z.symm⟩)]; exact xs_royal_noname
    · rw [decide_eq_false (not_or.mpr ⟨ne_of_sub xs_royal_royal xs_royal_toomuch, fun z => ne_of_sub xs_royal_royal xs_royal_toomuch z.symm⟩)]; exact xs_royal_toomuch
    · rw [decide_eq_false (not_or.mpr ⟨ne_of_sub xs_royal_royal xs_royal_norate, fun z => ne_of_sub xs_royal_royal xs_royal_norate z.symm⟩)]; exact xs_royal_norate
    · rw [decide_eq_false (not_or.mpr ⟨ne_of_sub xs_royal_royal xs_royal_noneleft, fun z => ne_of_sub xs_royal_royal xs_royal_noneleft z.symm⟩)]; exact xs_royal_noneleft
    · rw [decide_eq_false (not_or.mpr ⟨ne_of_sub xs_royal_royal xs_royal_endless, fun z => ne_of_sub xs_royal_royal xs_royal_endless z.symm⟩)]; exact xs_royal_endless
    · rw [decide_eq_false (not_or.mpr ⟨ne_of_sub xs_royal_royal xs_royal_badrow, fun z => ne_of_sub xs_royal_royal xs_royal_badrow z.symm⟩)]; exact xs_royal_badrow
    · rw [decide_eq_true (.inl rfl)]; exact xs_royal_royal
  · intro D hD
    simp only [XF.addrs, List.mem_cons, List.not_mem_nil, or_false] at hD
    rcases hD with rfl | rfl | rfl | rfl | rfl | rfl | rfl | rfl | rfl
    · rw [decide_eq_false (not_or.mpr ⟨ne_of_sub xs_endless_endless xs_endless_bf, fun z => ne_of_sub xs_endless_royal xs_endless_bf z.symm⟩)]; exact xs_endless_bf
    · rw [decide_eq_false (not_or.mpr ⟨ne_of_sub xs_endless_endless xs_endless_taken, fun z => ne_of_sub xs_endless_royal xs_endless_taken z.symm⟩)]; exact xs_endless_taken
    · rw [decide_eq_false (not_or.mpr ⟨ne_of_sub xs_endless_endless xs_endless_noname, fun z => ne_of_sub xs_endless_royal xs_endless_noname z.symm⟩)]; exact xs_endless_noname
    · rw [decide_eq_false (not_or.mpr ⟨ne_of_sub xs_endless_endless xs_endless_toomuch, fun z => ne_of_sub xs_endless_royal xs_endless_toomuch z.symm⟩)]; exact xs_endless_toomuch
    · rw [decide_eq_false (not_or.mpr ⟨ne_of_sub xs_endless_endless xs_endless_norate, fun z => ne_of_sub xs_endless_royal xs_endless_norate z.symm⟩)]; exact xs_endless_norate
    · rw [decide_eq_false (not_or.mpr ⟨ne_of_sub xs_endless_endless xs_endless_noneleft, fun z => ne_of_sub xs_endless_royal xs_endless_noneleft z.symm⟩)]; exact xs_endless_noneleft
    · rw [decide_eq_true (.inl rfl)]; exact xs_endless_endless
    · rw [decide_eq_false (not_or.mpr ⟨ne_of_sub xs_endless_endless xs_endless_badrow, fun z => ne_of_sub xs_endless_royal xs_endless_badrow z.symm⟩)]; exact xs_endless_badrow
    · rw [decide_eq_true (.inr rfl)]; exact xs_endless_royal
  · intro D hD
    simp only [XF.addrs, List.mem_cons, List.not_mem_nil, or_false] at hD
    rcases hD with rfl | rfl | rfl | rfl | rfl | rfl | rfl | rfl | rfl
    · rw [decide_eq_false (not_or.mpr ⟨ne_of_sub xs_badrow_badrow xs_badrow_bf, fun z => ne_of_sub xs_badrow_royal xs_badrow_bf z.symm⟩)]; exact xs_badrow_bf
    · rw [decide_eq_false (not_or.mpr ⟨ne_of_sub xs_badrow_badrow xs_badrow_taken, fun z => ne_of_sub xs_badrow_royal xs_badrow_taken z.symm⟩)]; exact xs_badrow_taken
    · rw [decide_eq_false (not_or.mpr ⟨ne_of_sub xs_badrow_badrow xs_badrow_noname, fun z => ne_of_sub xs_badrow_royal xs_badrow_noname z.symm⟩)]; exact xs_badrow_noname
    · rw [decide_eq_false (not_or.mpr ⟨ne_of_sub xs_badrow_badrow xs_badrow_toomuch, fun z => ne_of_sub xs_badrow_royal xs_badrow_toomuch z.symm⟩)]; exact xs_badrow_toomuch
    · rw [decide_eq_false (not_or.mpr ⟨ne_of_sub xs_badrow_badrow xs_badrow_norate, fun z => ne_of_sub xs_badrow_royal xs_badrow_norate z.symm⟩)]; exact xs_badrow_norate
    · rw [decide_eq_false (not_or.mpr ⟨ne_of_sub xs_badrow_badrow xs_badrow_noneleft, fun z => ne_of_sub xs_badrow_royal xs_badrow_noneleft z.symm⟩)]; exact xs_badrow_noneleft
    · rw [decide_eq_false (not_or.mpr ⟨ne_of_sub xs_badrow_badrow xs_badrow_endless, fun z => ne_of_sub xs_badrow_royal xs_badrow_endless z.symm⟩)]; exact xs_badrow_endless
    · rw [decide_eq_true (.inl rfl)]; exact xs_badrow_badrow
    · rw [decide_eq_true (.inr rfl)]; exact xs_badrow_royal
def gJoin (sep : Str) (ge : GE) : GE := fun ρ w kx k => ge ρ w kx fun d w1 => ∃ ss : List Str, (d = .lst (ss.map D.str) ∨ d = .tup (ss.map D.str)) ∧ (ss.map (·.length)).sum + ss.length * sep.length ≤ 16777216 ∧ k (.str (Txt.join sep ss)) w1
theorem de_join {X : Cx} {E : XK} {sep : Str} {e : Expr} {ge : GE} {j : Nat} {p2 apos pos : Pos} (he : DE X E e ge) (hs : starEach [e] X.env = [(false, eval e X.env)] := by rfl) (hbase : attributeBase (.Constant (.str sep) j p2) "join" X.env (eval (.Constant (.str sep) j p2) X.env) = eval (.Constant (.str sep) j p2) X.env := by rfl) (hline : (apos.endLine == pos.line) = true := by rfl) :
    DE X E (.Call (.Attribute (.Constant (.str sep) j p2) "join" apos) [e] [] pos) (gJoin sep ge) := by
  refine pe_imp (pe_join pe_str he hs hbase hline) ?_
  rintro σ H Q ⟨G, S, ρ, w, kx, k, hr, sr, xl, kl, h⟩
  refine ⟨⟨_, rfl⟩, G, S, ρ, w, kx, _, hr, sr, xl, fun G1 S1 H1 w1 d v x1 hr1 rp hq => ?_, h⟩
  obtain ⟨ss, hd, hl, hx⟩ := hq
  rcases hd with rfl | rfl
  · cases rp with
    | @lst t vs _ ht hcs =>
      refine ⟨sep, t, ss, rfl, rfl, .inl ?_, hl, kl _ _ _ _ _ _ x1 hr1 (.str _) hx⟩
      rw [← rep_strsF hcs]
      exact .inl (.inl (hr1.same _ _ ht))
  · cases rp with
    | @tup t vs _ ht hcs =>
      refine ⟨sep, t, ss, rfl, rfl, .inr ?_, hl, kl _ _ _ _ _ _ x1 hr1 (.str _) hx⟩
      rw [← rep_strsF hcs]
      exact sqT_up hr1.same ht
end DL

namespace LW
open PySem PySem.Spec PyProof.Rows L2 RZ DL
local macro_rules | `(tactic| simp! only [$xs,*] $[$loc]?) => `(tactic| simp only [$xs,*, sem0,List.map_cons,List.map_nil,List.length_cons,List.length_nil,gSeq,gNext,gRet,gRetN,gIfS,gSet,gPar,gAsg,gDrop,gVar,gC,gBin,gUn,gB,gTru,gAnd,gOr,gNot,gAndV,gOrV,gNotV,gIf,gChain,gaNil,gaCons,DL.gTup,DL.gLst,gCB,gCall0,gAug,addD_i,addD_s,addD_l,addD_t,subD_i,mulD_i,mulD_l,fdivD_i,modD_i,powD_i,ltD_i,ltD_s,leD_i,gtD_i,geD_i,isD_n,isnotD_n,isNonD_non,isNonD_bl,isNonD_int,isNonD_str,isNonD_lst,isNonD_tup,negD_i,iaddD_i,truD_non,truD_bl,truD_int,truD_str,truD_lst,truD_tup,someK_some,ixD_l,ixD_t,fAbs_i,fInt_i,fInt_b,fMin2_i,fLen_l,fLen_t,fLen_s,fList_l,fList_t,fTuple_l,fTuple_t,optBK_some,fIsi_non,fIsi_bl,fIsi_int,fIsi_str,fIsi_lst,fIsi_tup,List.getElem?_cons_zero,List.getElem?_cons_succ,List.set_cons_zero,List.set_cons_succ,DL.ggName,ggNil0,ggCons1,ggTup2,ggTup3,gFor,giSeq,gLc,gYes,wipeR,true_and,and_true,at_0,at_1,at_2,kit_int_int,kit_bool_int,kit_str_int,kit_non_int,kit_list_int,kit_tuple_int,kit_int_bool,kit_bool_bool,kit_str_bool,kit_non_bool,kit_list_bool,kit_tuple_bool,kit_int_str,kit_bool_str,kit_str_str,kit_non_str,kit_list_str,kit_tuple_str,kit_int_list,kit_bool_list,kit_str_list,kit_non_list,kit_list_list,kit_tuple_list,kit_int_tuple,kit_bool_tuple,kit_str_tuple,kit_non_tuple,kit_list_tuple,kit_tuple_tuple,eqD_i,neD_i,eqD_s,neD_s,eqD_f,neD_f,Nat.zero_add,Nat.reduceAdd,nc0,nc1,nc2,nc3,nc4,nc5,nc6,nc7,nc8,nc9,eq_self,decide_true,decide_false,Int.reduceEq,Int.reduceLT,Int.reduceLE,Int.reduceNeg,Bool.not_true,Bool.not_false,Bool.false_eq_true,if_true,if_false,↓reduceIte,false_and,and_false,List.all_cons,List.all_nil,List.any_cons,List.any_nil,id_eq,Bool.and_true,Bool.true_and,Bool.or_false,Bool.false_or,Bool.and_false,Bool.false_and,gCut,eqD_b,neD_b,giZip,reduceCtorEq,Bool.true_eq_false,Bool.false_eq_true,gRevL,gSl,goNone,goSome,slD_l,ne_eq,not_false_eq_true,not_true_eq_false,gBM,isTy_l,isTy_s,new_at,new_set,isTy_new,cellK_new,append_new,popAt_new,gFrz_eq,frzK_new,fLen_new,fTuple_new,ixD_new,slA_l,slA_t,slA_new,addTD_t,addCD_l,mulCD_l,isbD_b,isnotbD_b,mSplitC_s,gLstC,gTr,ggSub,lstK_l,lstK_r,addLD_eq] $[$loc]?)
def topS (i : Nat) : Stmt := PySem.Challenge.pw_royaltree_k53_refusals_stand_apart.main.body.getD i (.Pass ⟨0, 0, 0, 0⟩)


def sp__law_take : GF := gTake
def sp__law_begin : GF := gBegin
abbrev s__law_begin : Stmt := topS 11
theorem sc__law_begin : FnScope ["_law_script", "_law_cells"] ["_law_script"] (defScope s__law_begin) := ⟨rfl, rfl, rfl, by decide +kernel, rfl, by decide +kernel, by decide +kernel⟩

theorem ok__law_begin {P : Program} {w : World} {K : PySem.W.Frag} {mg : Str → Option Value} {base : Heap} (T : DefAt K mg "_law_begin" s__law_begin ["_law_script"]) (B : Blt mg) : FnAt P w K mg base CX0 1 "_law_begin" 1 gBegin := by
  have nd := sc__law_begin.nd
  refine T.mk0 fun f fd F => F.ok sc__law_begin (fun vs H Q E h => ?_) (fun cdv A outer s H vs Q E hr h => ?_)
  · obtain ⟨G, S, ds, w, kx, k, h1, h2, h3, _⟩ := h
    rw [h3.length, h1]
    rfl
  · obtain ⟨G, S, ds, w, kx, k, h1, h2, h3, h4, h5, ns, rfl, hn, hk⟩ := h
    obtain ⟨v, rfl, r⟩ := one_rep h3
    cases r with
    | scr hS =>
      rename_i a
      have hS1 := h2.same.seq hS
      refine ⟨_, pss_cons (ps_set (i := 1) nd rfl (by first | exact Or.inl rfl | exact Or.inr rfl) (pe_callTy call_list_of (by rfl) B.list_ (by decide +kernel) (pa_cons (pe_slice sl_list (pv 0) po_none (po_some pe_int)) pa_nil)))
        (pss_cons (ps_if (pt_cmpR (op_eqD hr.units) (pv 1) (pe_lst pa_nil) (nomark _)) (pss_one (ps_set (i := 1) nd rfl (by first | exact Or.inl rfl | exact Or.inr rfl) (pe_lst (pa_cons pe_int pa_nil)))) pss_nil)
        (pss_one (ps_ret (pe_disp (pps_cons pe_str (pv 1) (pps_cons pe_str pe_int pps_nil)) (by rfl) (by rfl) (by intro z; cases z) (by decide))))), ?_⟩
      -- list(script[:63])
      refine ⟨.ref a, rfl, 63, rfl, a, ns.map V.int, rfl, hS1, fun c1 n1 => ?_⟩
      refine ⟨c1, _, rfl, .inl (.inl (.inl upd_same)), fun c n2 => ?_⟩
      have cv : cutV (ns.map V.int) none (some 63) = (ns.take 63).map V.int := by
        unfold cutV
        rw [HT.sIx_none, show (some (63 : Int)) = some ((63 : Nat) : Int) from rfl, HT.sIx_nat, List.drop_zero, List.map_take, List.length_map, Nat.sub_zero]
        rcases Nat.le_total 63 ns.length with hle | hle
        · rw [Nat.min_eq_left hle]
        · rw [Nat.min_eq_right hle, List.take_of_length_le (by rw [List.length_map]; exact Nat.le_refl _), List.take_of_length_le (by rw [List.length_map]; exact hle)]
      rw [cv] at n2 ⊢
      have hlen : (ns.take 63).length ≤ 63 := by
        rw [List.length_take]
        exact Nat.min_le_left _ _
      clear cv
      generalize ns.take 63 = l at n2 hlen ⊢
      have nc1 : H c1 = none := n1
      have nc : (upd H c1 (.lst (l.map V.int))) c = none := n2
      have nc0 : H c = none := by
        rw [upd_ne] at nc
        · exact nc
        · intro z
          rw [z, upd_same] at nc
          cases nc
      -- the same heap but the copies
      have fin : ∀ (H3 : Hp) (c : Addr) (cells : List Int), Same H H3 → H c = none → H3 c = some (.lst (cells.map V.int)) → cells ≠ [] → cells.length ≤ 63 → HR K G S w H3 →
          (tRet (tDisp [(tC (.str "cells"), tVar 1), (tC (.str "turn"), tC (.int 0))])) { nx := fun _ H' => Q .non H', rt := Q } [some (.ref a), some (.ref c)] H3 := by
        intro H3 c cells sm hc0 hc3 hne hl63 hr3 p hp
        refine ⟨.ref c, rfl, upd_same, [(.inr "cells", .ref c), (.inr "turn", .int 0)], rfl, (by show 2 ≤ 15; decide), ?_⟩
        have em : mergeK [] [((Sum.inr ("cells" : Str) : Key), V.ref c), ((Sum.inr ("turn" : Str) : Key), V.int 0)] = stKv c 0 := by
          show putK (putK [] (Sum.inr ("cells" : Str) : Key) (V.ref c)) (Sum.inr ("turn" : Str) : Key) (V.int 0) = stKv c 0
          rw [putK_new (V.ref c) (valV_nil), List.nil_append, putK_new (V.int 0) (by rw [valV_neg key_ne, valV_nil])]
          rfl
        have ncp : c ≠ p := ne_of_none hc3 hp
        have e1 : upd (upd H3 p (.dK [])) p (.dK (mergeK [] [((Sum.inr ("cells" : Str) : Key), V.ref c), ((Sum.inr ("turn" : Str) : Key), V.int 0)])) = upd H3 p (.dK (stKv c 0)) := by
          rw [upd_upd, em]
        show Q (.ref p) (upd (upd H3 p (.dK [])) p (.dK (mergeK [] [((Sum.inr ("cells" : Str) : Key), V.ref c), ((Sum.inr ("turn" : Str) : Key), V.int 0)])))
        rw [e1]
        have hr4 := (hr3.push (o := .dK (stKv c 0)) hp).1
        -- out of the frame again
        have hr5 : HR K G S w (upd H3 p (.dK (stKv c 0))) := ⟨hr4.same, hr4.len, hr4.nod, fun i b cc e1 e2 => by
            have q := hr3.cell i b cc e1 e2
            exact q.mono (Ext.refl _ _) (upd_ne (fun z => hr3.freshAl hp (z ▸ List.mem_of_getElem? e1))) q.sNone, ⟨hr4.st.1, fun b cc e => by
            obtain ⟨y1, y2, y3, y4, y5, y6, y7⟩ := hr4.st.2 b cc e
            exact ⟨y1, y2, y3, y4, y5, fun q hq => y6 q (List.mem_cons_of_mem _ hq), y7⟩⟩, fun q hq => by
            obtain ⟨y1, y2, y3⟩ := hr3.fr q hq
            exact ⟨y1, y2, by rw [upd_ne (hr3.freshFr hp q hq)]; exact y3⟩⟩
        obtain ⟨hr6, x6⟩ := hr5.made hn (c := c) (a := p) (cells := cells) (by rw [upd_ne ncp]; exact hc3) ⟨h2.freshS hc0, h2.freshAl hc0, h2.freshFr hc0⟩ upd_same ⟨hr3.freshS hp, hr3.freshAl hp, hr3.freshFr hp⟩ ncp.symm hne hl63
        exact h5 _ _ _ _ _ _ x6 hr6 (.st rfl) hk
      have hrN : ∀ {H3 : Hp} {p : Addr} {o : HO}, HR K G S w H3 → H3 p = none → HR K G S w (upd H3 p o) := fun {H3 p o} hr3 hp => by
        have hr4 := (hr3.push (o := o) hp).1
        exact ⟨hr4.same, hr4.len, hr4.nod, fun i b cc e1 e2 => by
            have q := hr3.cell i b cc e1 e2
            exact q.mono (Ext.refl _ _) (upd_ne (fun z => hr3.freshAl hp (z ▸ List.mem_of_getElem? e1))) q.sNone, ⟨hr4.st.1, fun b cc e => by
            obtain ⟨y1, y2, y3, y4, y5, y6, y7⟩ := hr4.st.2 b cc e
            exact ⟨y1, y2, y3, y4, y5, fun q hq => y6 q (List.mem_cons_of_mem _ hq), y7⟩⟩, fun q hq => by
            obtain ⟨y1, y2, y3⟩ := hr3.fr q hq
            exact ⟨y1, y2, by rw [upd_ne (hr3.freshFr hp q hq)]; exact y3⟩⟩
      have hr1 := hrN (o := .lst (l.map V.int)) h2 nc1
      have hr2 := hrN (o := .lst (l.map V.int)) hr1 nc
      have sm1 : Same H (upd (upd H c1 (.lst (l.map V.int))) c (.lst (l.map V.int))) := fun b o e => by
        rw [upd_ne (ne_of_none e nc0), upd_ne (ne_of_none e nc1)]
        exact e
      have dp : ∀ (l : List Int) (H3 : Hp) (b : Addr), H3 b = some (.lst (l.map V.int)) → Dp K H3 (.ref b) (.list (l.map PyData.int)) := fun l H3 b e => by
        refine .lst (.inl (.inl e)) ?_
        clear e
        induction l with
        | nil => exact .nil
        | cons x r ih => exact .cons (.int x) ih
      -- cells == []
      refine ⟨.ref c, rfl, Nat.zero_le _, fun e n3 => ?_⟩
      have nce : c ≠ e := fun z => by
        have q := n3
        rw [← z, upd_same] at q
        cases q
      have hc3 : (upd (upd (upd H c1 (.lst (l.map V.int))) c (.lst (l.map V.int))) e (.lst [])) c = some (.lst (l.map V.int)) := by
        rw [upd_ne nce, upd_same]
      have hr3 := hrN (o := .lst []) hr2 n3
      have sm2 : Same H (upd (upd (upd H c1 (.lst (l.map V.int))) c (.lst (l.map V.int))) e (.lst [])) := fun b o eb => by
        rw [upd_ne (ne_of_none (sm1 b o eb) n3)]
        exact sm1 b o eb
      refine ⟨_, _, dp l _ c hc3, dp [] _ e upd_same, ?_, rfl, _, rfl, ?_⟩
      · exact shaped_ints _
      · cases l with
        | nil =>
          refine iteT ⟨by decide, fun d n4 => ?_⟩
          refine fin _ d [7] (fun b o eb => ?_) ?_ upd_same (by intro z; cases z) (by decide) (hrN hr3 n4)
          · rw [upd_ne (ne_of_none (sm2 b o eb) n4)]
            exact sm2 b o eb
          · cases q : H d with
            | none => rfl
            | some o =>
              have := sm2 d o q
              rw [n4] at this
              cases this
        | cons x r =>
          exact iteF (fin _ c (x :: r) sm2 nc0 hc3 (by intro z; cases z) hlen hr3)

abbrev s__law_take : Stmt := topS 12
theorem sc__law_take : FnScope ["_law_state", "_law_many", "_law_turn", "_law_place", "_law_cell", "_law_digit", "_law_mixed"] ["_law_state", "_law_many"] (defScope s__law_take) := ⟨rfl, rfl, rfl, by decide +kernel, rfl, by decide +kernel, by decide +kernel⟩

theorem ok__law_take {P : Program} {w : World} {K : PySem.W.Frag} {mg : Str → Option Value} {base : Heap} (T : DefAt K mg "_law_take" s__law_take ["_law_state", "_law_many"]) (B : Blt mg) : FnAt P w K mg base CX0 1 "_law_take" 2 gTake := by
  have nd := sc__law_take.nd
  refine T.mk0 fun f fd F => F.ok sc__law_take (fun vs H Q E h => ?_) (fun cdv A outer s H vs Q E hr h => ?_)
  · obtain ⟨G, S, ds, w, kx, k, h1, h2, h3, _⟩ := h
    rw [h3.length, h1]
    rfl
  · obtain ⟨G, S, ds, w, kx, k, h1, h2, h3, h4, h5, m, n, rfl, ⟨hm0, hm9⟩, hn, hk⟩ := h
    obtain ⟨v, u, rfl, r1, r2⟩ := two_rep h3
    cases r2
    cases r1 with
    | st hst =>
      rename_i a c
      obtain ⟨z1, z2, z3, z4, z5, z6, cells, turn, ha, hc, hne, hl63, ht0, htn⟩ := h2.st.2 a c hst
      rw [hn] at htn
      have htn' : turn + ((n + 1 : Nat) : Int) ≤ 1000000000 := htn
      have hu := hu_of hr
      have ha' : H a = some (.dK (stKv c turn)) := ha
      refine ⟨_, pss_cons (ps_set (i := 2) nd rfl (by first | exact Or.inl rfl | exact Or.inr rfl) (pe_op op_add (pe_dget hu (pv 0) pe_str (fun _ _ => rfl)) pe_int))
        (pss_cons (ps_dput hu (pv 0) pe_str (pv 2) (by rfl))
        (pss_cons (ps_set (i := 3) nd rfl (by first | exact Or.inl rfl | exact Or.inr rfl) (pe_op op_mod (pv 2) (pe_callB call_len_seq (by rfl) B.len_ PySem.boot_len (pa_cons (pe_dget hu (pv 0) pe_str (fun _ _ => rfl)) pa_nil))))
        (pss_cons (ps_set (i := 4) nd rfl (by first | exact Or.inl rfl | exact Or.inr rfl) (pe_ix ix_list (pe_dget hu (pv 0) pe_str (fun _ _ => rfl)) (pv 3) (fun _ _ => rfl)))
        (pss_cons (ps_if (pt_cmpR op_ge (pv 4) (pe_op op_pow pe_int pe_int) (nomark _))
          (pss_cons (ps_asg (pe_callB call_divmodW (by rfl) B.divmod_ (by decide +kernel) (pa_cons (pv 4) (pa_cons (pv 1) pa_nil))) (pg_tup rfl (pgs_cons (pg_sub (pe_dget hu (pv 0) pe_str (fun _ _ => rfl)) (pv 3) set_list) (pgs_cons (pg_name (i := 5) nd rfl (by first | exact Or.inl rfl | exact Or.inr rfl)) pgs_nil))))
            (pss_one (ps_ret (pv 5)))) pss_nil)
        (pss_cons (ps_set (i := 6) nd rfl (by first | exact Or.inl rfl | exact Or.inr rfl) (pe_op op_mod (pe_op op_mulX (pe_op op_add (pe_op op_add (pe_op op_mod (pv 4) pe_int) (pe_op op_mulX (pe_op op_mulX (pv 2) (pv 2)) pe_int)) pe_int) pe_int) pe_int))
        (pss_cons (ps_set (i := 6) nd rfl (by first | exact Or.inl rfl | exact Or.inr rfl) (pe_op op_mod (pe_op op_mulX (pv 6) (pv 6)) pe_int))
        (pss_one (ps_ret (pe_op op_mod (pe_op op_fdiv (pe_op op_mod (pe_op op_mulX (pe_op op_add (pv 6) (pe_op op_mulX (pv 2) pe_int)) pe_int) pe_int) pe_int) (pv 1)))))))))), ?_⟩
      have gT : DGet H a (.str "turn") (some (.int turn)) := by
        have q := DGet.k (k := .inr "turn") ha'
        rw [st_turn] at q
        exact q
      -- turn = state['turn'] + 1; state['turn'] = turn
      refine ⟨.ref a, rfl, a, .int turn, rfl, gT, turn, 1, rfl, rfl, ?_⟩
      refine ⟨.int (turn + 1), rfl, .ref a, rfl, a, _, rfl, DPut.k (k := .inr "turn") ha' (by show 2 < sizeLine; decide), ?_⟩
      rw [st_put]
      have hr1 : HR K G S ⟨w.M, some n⟩ (upd H a (.dK (stKv c (turn + 1)))) := h2.drawn hst (fun b b1 _ => upd_ne b1) upd_same (by rw [upd_ne (Ne.symm z3)]; exact hc) hne hl63 (by omega) (by omega)
      have ea1 : (upd H a (.dK (stKv c (turn + 1)))) a = some (.dK (stKv c (turn + 1))) := upd_same
      have ec1 : (upd H a (.dK (stKv c (turn + 1)))) c = some (.lst (cells.map V.int)) := by
        rw [upd_ne (Ne.symm z3)]
        exact hc
      generalize upd H a (.dK (stKv c (turn + 1))) = H1 at hr1 ea1 ec1
      have gC : ∀ {H2 : Hp}, H2 a = some (.dK (stKv c (turn + 1))) → DGet H2 a (.str "cells") (some (.ref c)) := fun {H2} e => by
        have q := DGet.k (k := .inr "cells") e
        rw [st_cells] at q
        exact q
      have hlc : 0 < cells.length := List.length_pos_iff.mpr hne
      -- place = turn % len(state['cells'])
      refine ⟨.int (turn + 1), rfl, .ref a, rfl, a, _, rfl, gC ea1, c, _, rfl, .inl (.inl (.inl ec1)), turn + 1, _, rfl, rfl, by rw [List.length_map]; omega, ?_⟩
      rw [List.length_map]
      obtain ⟨j, hj, hjl⟩ : ∃ j : Nat, (turn + 1) % (cells.length : Int) = (j : Int) ∧ j < cells.length := by
        have p1 := Int.emod_nonneg (turn + 1) (b := (cells.length : Int)) (by omega)
        have p2 := Int.emod_lt_of_pos (turn + 1) (b := (cells.length : Int)) (by omega)
        exact ⟨((turn + 1) % (cells.length : Int)).toNat, by omega, by omega⟩
      dsimp only
      rw [hj]
      have hcj : (cells.map V.int)[j]? = some (.int cells[j]) := by
        rw [List.getElem?_map, List.getElem?_eq_getElem hjl]
        rfl
      generalize hcell : cells[j] = cell at hcj
      -- cell = state['cells'][place]
      refine ⟨.ref a, rfl, a, _, rfl, gC ea1, .int (j : Int), rfl, c, _, (j : Int), _, rfl, rfl, .inl (.inl ec1), atI_nat hcj, ?_⟩
      refine ⟨.int cell, rfl, 10, 18, rfl, rfl, ⟨by decide, by decide, by decide⟩, cell, _, rfl, rfl, _, rfl, ite2 (fun _ => ?_) (fun _ => ?_)⟩
      · -- a digit
        refine ⟨.int cell, rfl, .int m, rfl, cell, m, rfl, ⟨hm0, PyProof.noPylong_of_log2 hm9⟩, fun p hp => ?_⟩
        obtain ⟨hr2, x2⟩ := hr1.newS hp (.tup [.int (cell / m), .int (cell % m)])
        have nap : a ≠ p := ne_of_none ea1 hp
        have ncp : c ≠ p := ne_of_none ec1 hp
        have ea2 : (upd H1 p (.tup [.int (cell / m), .int (cell % m)])) a = some (.dK (stKv c (turn + 1))) := by
          rw [upd_ne nap]
          exact ea1
        have ec2 : (upd H1 p (.tup [.int (cell / m), .int (cell % m)])) c = some (.lst (cells.map V.int)) := by
          rw [upd_ne ncp]
          exact ec1
        have ep2 : (upd H1 p (.tup [.int (cell / m), .int (cell % m)])) p = some (.tup [.int (cell / m), .int (cell % m)]) := upd_same
        refine ⟨p, [.int (cell / m), .int (cell % m)], rfl, .inl (.inl upd_same), rfl, ?_⟩
        generalize upd H1 p (.tup [.int (cell / m), .int (cell % m)]) = H2 at hr2 ea2 ec2 ep2
        refine ⟨_, _, rfl, .ref a, rfl, a, _, rfl, gC ea2, .int (j : Int), rfl, c, _, (j : Int), j, rfl, rfl, ec2, ?_, ?_⟩
        · show L2.ixN _ (j : Int) = some j
          unfold L2.ixN
          rw [if_pos (by omega), if_pos (by rw [List.length_map]; omega)]
          rfl
        refine ⟨_, _, rfl, rfl, .int (cell % m), rfl, ?_⟩
        have es : (cells.map V.int).set j (.int (cell / m)) = (cells.set j (cell / m)).map V.int := by rw [List.map_set]
        have hst2 : (⟨G.al, G.st, G.fr⟩ : Gh).st = some (a, c) := hst
        have hr3 : HR K G (upd S p (.tup [.int (cell / m), .int (cell % m)])) ⟨w.M, some n⟩ (upd H2 c (.lst ((cells.set j (cell / m)).map V.int))) :=
          hr2.drawn hst (fun b _ b2 => upd_ne b2) (by rw [upd_ne z3]; exact ea2) upd_same (by intro z; have := congrArg List.length z; rw [List.length_set] at this; simp at this; exact hne this) (by rw [List.length_set]; exact hl63) (by omega) (by omega)
        rw [es]
        exact h5 _ _ _ _ _ _ x2 hr3 (.int _) (hk _ (Int.emod_nonneg _ (by omega)) (Int.emod_lt_of_pos _ hm0))
      · have a0 := Int.emod_nonneg cell (b := 2147483629) (by decide)
        have a1 := Int.emod_lt_of_pos cell (b := 2147483629) (by decide)
        have t1 : (turn + 1).natAbs < 2 ^ 30 := by omega
        have t2 : ((turn + 1) * (turn + 1)).natAbs < 2 ^ 60 := wide_lt (a := 30) (b := 30) t1 t1
        have t3 : ((turn + 1) * (turn + 1) * 7919).natAbs < 2 ^ 73 := wide_lt (a := 60) (b := 13) t2 (by decide)
        refine ⟨.int cell, rfl, cell, 2147483629, rfl, rfl, (by show (0 : Int) < 2147483629; decide), .int (turn + 1), rfl, .int (turn + 1), rfl, turn + 1, turn + 1, rfl, rfl, mulx_ok t1 t1 (by decide), _, 7919, rfl, rfl, mulx_ok (a := 60) (b := 13) t2 (by decide) (by decide), _, _, rfl, rfl, _, 11, rfl, rfl, _, 48271, rfl, rfl, mulx_ok (a := 75) (b := 16) ?_ (by decide) (by decide), _, 2147483647, rfl, rfl, (by show (0 : Int) < 2147483647; decide), ?_⟩
        · generalize cell % 2147483629 = A at a0 a1 ⊢
          generalize (turn + 1) * (turn + 1) * 7919 = B at t3 ⊢
          omega
        dsimp only
        have b0 := Int.emod_nonneg ((cell % 2147483629 + (turn + 1) * (turn + 1) * 7919 + 11) * 48271) (b := 2147483647) (by decide)
        have b1 := Int.emod_lt_of_pos ((cell % 2147483629 + (turn + 1) * (turn + 1) * 7919 + 11) * 48271) (b := 2147483647) (by decide)
        generalize (cell % 2147483629 + (turn + 1) * (turn + 1) * 7919 + 11) * 48271 % 2147483647 = M1 at b0 b1 ⊢
        refine ⟨.int M1, rfl, .int M1, rfl, M1, M1, rfl, rfl, mulx_ok (a := 32) (b := 32) (by omega) (by omega) (by decide), _, 2147483587, rfl, rfl, (by show (0 : Int) < 2147483587; decide), ?_⟩
        dsimp only
        have c0 := Int.emod_nonneg (M1 * M1) (b := 2147483587) (by decide)
        have c1 := Int.emod_lt_of_pos (M1 * M1) (b := 2147483587) (by decide)
        generalize M1 * M1 % 2147483587 = M2 at c0 c1 ⊢
        refine ⟨.int M2, rfl, .int (turn + 1), rfl, turn + 1, 104729, rfl, rfl, mulx_ok (b := 17) t1 (by decide) (by decide), M2, _, rfl, rfl, _, 39373, rfl, rfl, mulx_ok (a := 64) (b := 16) (by omega) (by decide) (by decide), _, 2147483629, rfl, rfl, (by show (0 : Int) < 2147483629; decide), _, 64, rfl, rfl, ⟨by decide, by decide⟩, .int m, rfl, _, m, rfl, rfl, hm0, ?_⟩
        exact h5 _ _ _ _ _ _ (Ext.refl _ _) hr1 (.int _) (hk _ (Int.emod_nonneg _ (by omega)) (Int.emod_lt_of_pos _ hm0))

def sp__law_same : GF := gSame 8
abbrev s__law_same : Stmt := topS 13
theorem sc__law_same : FnScope ["_law_found", "_law_due", "_law_one", "_law_other"] ["_law_found", "_law_due"] (defScope s__law_same) := ⟨rfl, rfl, rfl, by decide +kernel, rfl, by decide +kernel, by decide +kernel⟩
def g__law_same (sp_rec : GF) : GS := (gSeq (gIfS (gB (gBin isD (gVar 1) (gC .non))) (gRet (gBin isD (gVar 0) (gC .non))) gNext)
  (gSeq (gIfS (gOr (gTru (gCB fIsi (gaCons (gVar 1) (gaCons (gC (.ob (.ty "list"))) gaNil)))) (gTru (gCB fIsi (gaCons (gVar 1) (gaCons (gC (.ob (.ty "tuple"))) gaNil))))) (gSeq (gIfS (gB (gBin neD (gCB fIsi (gaCons (gVar 0) (gaCons (gC (.ob (.ty "list"))) gaNil))) (gCB fIsi (gaCons (gVar 1) (gaCons (gC (.ob (.ty "list"))) gaNil))))) (gRet (gC (.bl false))) gNext)
  (gSeq (gIfS (gOr (gB (gBin neD (gCB fIsi (gaCons (gVar 0) (gaCons (gC (.ob (.ty "tuple"))) gaNil))) (gCB fIsi (gaCons (gVar 1) (gaCons (gC (.ob (.ty "tuple"))) gaNil))))) (gB (gBin neD (gCB fLen (gaCons (gVar 0) gaNil)) (gCB fLen (gaCons (gVar 1) gaNil))))) (gRet (gC (.bl false))) gNext)
  (gRet (gCB fAll (gaCons (gLc (giZip (gaCons (gVar 0) (gaCons (gVar 1) gaNil))) (ggTup 2 (ggCons (ggName 2) (ggCons (ggName 3) ggNil))) gYes (gCall0 2 sp_rec (gaCons (gVar 2) (gaCons (gVar 3) gaNil))) [2, 3]) gaNil))))) gNext)
  (gSeq (gIfS (gTru (gCB fIsi (gaCons (gVar 1) (gaCons (gC (.ob (.ty "str"))) gaNil)))) (gRet (gAndV (gCB fIsi (gaCons (gVar 0) (gaCons (gC (.ob (.ty "str"))) gaNil))) (gBin eqD (gVar 0) (gVar 1)))) gNext)
  (gRet (gAndV (gCB fIsi (gaCons (gVar 0) (gaCons (gC (.ob (.ty "int"))) gaNil))) (gAndV (gNotV (gCB fIsi (gaCons (gVar 0) (gaCons (gC (.ob (.ty "bool"))) gaNil)))) (gBin eqD (gVar 0) (gVar 1))))))))
theorem w__law_same {P : Program} {w : World} {K : PySem.W.Frag} {mg : Str → Option Value} {base : Heap} (T : DefAt K mg "_law_same" s__law_same ["_law_found", "_law_due"]) (B : Blt mg) {j : Nat} {sp_rec : GF} (F_rec : FnAt P w K mg base CX0 j "_law_same" 2 sp_rec) : FnAt P w K mg base CX0 (j + 1) "_law_same" 2 (sem0 4 (g__law_same sp_rec)) := by
  have nd := sc__law_same.nd
  exact T.fn0 sc__law_same (fun f cdv A outer s H E hr => (dss_cons (ds_if (dt_is (de_var 1) de_non) (dss_one (ds_ret (de_is (de_var 0) de_non))) dss_nil)
  (dss_cons (ds_if (dt_w (dw_or (dt_truth (de_isi B (by rfl) (da_cons (de_var 1) (da_cons (de_type (by rfl) B.list_ (by decide +kernel)) da_nil)))) (dw_or1 (dt_truth (de_isi B (by rfl) (da_cons (de_var 1) (da_cons (de_type (by rfl) B.tuple_ (by decide +kernel)) da_nil))))))) (dss_cons (ds_if (dt_ne hr (de_isi B (by rfl) (da_cons (de_var 0) (da_cons (de_type (by rfl) B.list_ (by decide +kernel)) da_nil))) (de_isi B (by rfl) (da_cons (de_var 1) (da_cons (de_type (by rfl) B.list_ (by decide +kernel)) da_nil)))) (dss_one (ds_ret de_bl)) dss_nil)
  (dss_cons (ds_if (dt_w (dw_or (dt_ne hr (de_isi B (by rfl) (da_cons (de_var 0) (da_cons (de_type (by rfl) B.tuple_ (by decide +kernel)) da_nil))) (de_isi B (by rfl) (da_cons (de_var 1) (da_cons (de_type (by rfl) B.tuple_ (by decide +kernel)) da_nil)))) (dw_or1 (dt_ne hr (de_len B (by rfl) (da_cons (de_var 0) da_nil)) (de_len B (by rfl) (da_cons (de_var 1) da_nil)))))) (dss_one (ds_ret de_bl)) dss_nil)
  (dss_one (ds_ret (de_all B rfl (by rfl) (da_cons (de_lc (own := [("_law_one", 2), ("_law_other", 3)]) (us := [2, 3]) rfl nd (di_zip B (by rfl) (da_cons (de_var 0) (da_cons (de_var 1) da_nil))) (blkOk_by (N := ["_law_found", "_law_due", "_law_one", "_law_other"]) (sc := defScope s__law_same) (by decide +kernel)) (by decide) (fun _ _ _ _ _ => (dg_tup rfl (dgs_cons (dg_name (i := 2) nd rfl (by first | exact Or.inl rfl | exact Or.inr rfl)) (dgs_cons (dg_name (i := 3) nd rfl (by first | exact Or.inl rfl | exact Or.inr rfl)) dgs_nil)))) (fun _ _ _ _ _ => dts_nil) (fun _ _ _ _ _ => (de_call0 F_rec hr (by rfl) (da_cons (de_var 2) (da_cons (de_var 3) da_nil)) (hjk := Nat.le_refl _)))) da_nil)))))) dss_nil)
  (dss_cons (ds_if (dt_truth (de_isi B (by rfl) (da_cons (de_var 1) (da_cons (de_type (by rfl) B.str_ (by decide +kernel)) da_nil)))) (dss_one (ds_ret (de_and (de_isi B (by rfl) (da_cons (de_var 0) (da_cons (de_type (by rfl) B.str_ (by decide +kernel)) da_nil))) (de_one (de_eq hr (de_var 0) (de_var 1)))))) dss_nil)
  (dss_one (ds_ret (de_and (de_isi B (by rfl) (da_cons (de_var 0) (da_cons (de_type (by rfl) B.int_ (by decide +kernel)) da_nil))) (de_and (de_not (de_isi B (by rfl) (da_cons (de_var 0) (da_cons (de_type (by rfl) B.bool_ (by decide +kernel)) da_nil)))) (de_one (de_eq hr (de_var 0) (de_var 1)))))))))))

theorem v__law_same (j : Nat) : ∀ ds w kx k, gSame (j + 1) ds w kx k → sem0 4 (g__law_same (gSame j)) ds w kx k := by
  rintro ds w kx k ⟨a, b, rfl, ⟨ha, hb, hd, wa, wb⟩, hk⟩
  have e : rho 4 [a, b] = [some a, some b, none, none] := rfl
  simp! only [g__law_same, e]
  have hT : ∀ {w' : Wd}, w' = w → a = b → k (.bl true) w' := fun hw h => hw ▸ hk true (by simp [h])
  have hF : ∀ {w' : Wd}, w' = w → a ≠ b → k (.bl false) w' := fun hw h => hw ▸ hk false (by simp [h])
  cases b with
  | non =>
    simp! only [id_eq]
    cases a <;> first | exact hT rfl rfl | exact hF rfl (by simp) | simp [okF] at ha
  | bl q => simp [DL.plain] at hb
  | rf q => simp [DL.plain] at hb
  | st => simp [DL.plain] at hb
  | ob q => simp [DL.plain] at hb
  | scr q => simp [DL.plain] at hb
  | int i =>
    simp! only [id_eq]
    cases a <;> (first | (exfalso; simp [okF] at ha; done) | simp! only [id_eq]) <;> first
      | exact hF rfl (by simp)
      | (rename_i i'
         by_cases h : i' = i
         · rw [decide_eq_true h]
           exact hT rfl (by rw [h])
         · rw [decide_eq_false h]
           exact hF rfl (by simpa using h))
      | simp [okF] at ha
  | str i =>
    simp! only [id_eq]
    cases a <;> (first | (exfalso; simp [okF] at ha; done) | simp! only [id_eq]) <;> first
      | exact hF rfl (by simp)
      | (rename_i i'
         by_cases h : i' = i
         · rw [decide_eq_true h]
           exact hT rfl (by rw [h])
         · rw [decide_eq_false h]
           exact hF rfl (by simpa using h))
      | simp [okF] at ha
  | lst ys =>
    simp! only [id_eq]
    cases a <;> (first | (exfalso; simp [okF] at ha; done) | simp! only [id_eq]) <;> first
      | exact hF rfl (by simp)
      | skip
    rename_i xs
    by_cases hl : xs.length = ys.length
    · rw [decide_eq_true (show ((xs.length : Nat) : Int) = ys.length by rw [hl])]
      simp! only [id_eq]
      unfold okF at ha
      unfold DL.plain at hb
      unfold dep at hd
      unfold wid at wa wb
      rw [Bool.and_eq_true] at wa wb
      refine lc_rel (fun p y => ∃ c a b, p = D.tup [a, b] ∧ y = D.bl c ∧ (c = true ↔ a = b)) trivial ?_ (fun p hp k' hk' => ?_) (fun cs hcs => ?_)
      · unfold zipD
        rw [List.length_zipWith]
        have := of_decide_eq_true wa.1
        omega
      · obtain ⟨i, hi⟩ := List.getElem?_of_mem hp
        obtain ⟨x, y, h1, h2, rfl⟩ := DL.zip_get hi
        have mx := List.mem_of_getElem? h1
        have my := List.mem_of_getElem? h2
        simp! only [id_eq]
        cases j with
        | zero => omega
        | succ j =>
          refine ⟨x, y, rfl, ⟨okFs_mem ha mx, plains_mem hb my, ?_, wids_mem wa.2 mx, wids_mem wb.2 my⟩, fun c hc => hk' _ ⟨c, x, y, rfl, rfl, hc⟩⟩
          have := deps_mem my
          omega
      · obtain ⟨bs, rfl, hbs⟩ := zip_pairs hl hcs
        rw [fAll_m]
        exact hk _ (by rw [hbs]; simp)
    · rw [decide_eq_false (show ¬ ((xs.length : Nat) : Int) = ys.length by omega)]
      simp! only [id_eq]
      exact hF rfl (by intro h; cases h; exact hl rfl)
  | tup ys =>
    simp! only [id_eq]
    cases a <;> (first | (exfalso; simp [okF] at ha; done) | simp! only [id_eq]) <;> first
      | exact hF rfl (by simp)
      | skip
    rename_i xs
    by_cases hl : xs.length = ys.length
    · rw [decide_eq_true (show ((xs.length : Nat) : Int) = ys.length by rw [hl])]
      simp! only [id_eq]
      unfold okF at ha
      unfold DL.plain at hb
      unfold dep at hd
      unfold wid at wa wb
      rw [Bool.and_eq_true] at wa wb
      refine lc_rel (fun p y => ∃ c a b, p = D.tup [a, b] ∧ y = D.bl c ∧ (c = true ↔ a = b)) trivial ?_ (fun p hp k' hk' => ?_) (fun cs hcs => ?_)
      · unfold zipD
        rw [List.length_zipWith]
        have := of_decide_eq_true wa.1
        omega
      · obtain ⟨i, hi⟩ := List.getElem?_of_mem hp
        obtain ⟨x, y, h1, h2, rfl⟩ := DL.zip_get hi
        have mx := List.mem_of_getElem? h1
        have my := List.mem_of_getElem? h2
        simp! only [id_eq]
        cases j with
        | zero => omega
        | succ j =>
          refine ⟨x, y, rfl, ⟨okFs_mem ha mx, plains_mem hb my, ?_, wids_mem wa.2 mx, wids_mem wb.2 my⟩, fun c hc => hk' _ ⟨c, x, y, rfl, rfl, hc⟩⟩
          have := deps_mem my
          omega
      · obtain ⟨bs, rfl, hbs⟩ := zip_pairs hl hcs
        rw [fAll_m]
        exact hk _ (by rw [hbs]; simp)
    · rw [decide_eq_false (show ¬ ((xs.length : Nat) : Int) = ys.length by omega)]
      simp! only [id_eq]
      exact hF rfl (by intro h; cases h; exact hl rfl)
theorem okr__law_same {P : Program} {w : World} {K : PySem.W.Frag} {mg : Str → Option Value} {base : Heap} (T : DefAt K mg "_law_same" s__law_same ["_law_found", "_law_due"]) (B : Blt mg) : ∀ j, FnAt P w K mg base CX0 j "_law_same" 2 (gSame j)
  | 0 => T.mk0 fun f fd F => ⟨fun vs H Q E h => by
      obtain ⟨_, _, _, _, _, _, _, _, _, _, _, h⟩ := h
      exact h.elim, fun A outer s H args us vs Q E _ _ _ _ h => by
      obtain ⟨_, _, _, _, _, _, _, _, _, _, _, h⟩ := h
      exact h.elim⟩
  | j + 1 => (w__law_same T B (okr__law_same T B j)).imp (v__law_same j)
theorem ok__law_same {P : Program} {w : World} {K : PySem.W.Frag} {mg : Str → Option Value} {base : Heap} (T : DefAt K mg "_law_same" s__law_same ["_law_found", "_law_due"]) (B : Blt mg) : FnAt P w K mg base CX0 8 "_law_same" 2 sp__law_same := okr__law_same T B 8
theorem erase_map {α β : Type} (f : α → β) : ∀ (xs : List α) (i : Nat), (xs.map f).eraseIdx i = (xs.eraseIdx i).map f
  | [], i => by simp
  | x :: xs, 0 => rfl
  | x :: xs, i + 1 => by
    simp [erase_map f xs i]
theorem lt_sl {n : Nat} (h : n ≤ 100000) : n < sizeLine := Nat.lt_of_le_of_lt h (by decide)
def NameOk (s : Str) : Prop := (PyData.strOk s && decide (s.length ≤ 100)) = true
def pool : List Str := Txt.split "b aa zebra c quartzes ab m knows d mm likes z ba abcdefgh y zz e x f g hh jj kk pave" " "
theorem pool_len : pool.length = 24 := by decide +kernel
theorem pool_nd : (pool ++ [("never" : Str)]).Nodup := by decide +kernel
def Drawn (ss : List Str) : Prop := ∃ rest, (ss ++ rest).Perm pool
theorem Drawn.nd {ss : List Str} (h : Drawn ss) : (ss ++ [("never" : Str)]).Nodup := by
  obtain ⟨rest, p⟩ := h
  have h1 : ((ss ++ rest) ++ [("never" : Str)]).Nodup := (p.append_right _).nodup_iff.mpr pool_nd
  refine h1.sublist ?_
  exact (List.sublist_append_left ss rest).append_right _
theorem erase_perm {α : Type} : ∀ {l : List α} {i : Nat} (h : i < l.length), (l[i] :: l.eraseIdx i).Perm l
  | x :: l, 0, _ => List.Perm.refl _
  | x :: l, i + 1, h => by
    have h' : i < l.length := by simpa using h
    show (l[i] :: x :: l.eraseIdx i).Perm (x :: l)
    exact (List.Perm.swap x l[i] _).trans ((erase_perm h').cons x)
theorem pool_ok : ∀ s ∈ pool, PyData.strOk s = true := by
  have : pool.all (fun s => PyData.strOk s) = true := by decide +kernel
  exact List.all_eq_true.mp this
theorem Drawn.ok {ss : List Str} (h : Drawn ss) : ∀ s ∈ ss, PyData.strOk s = true := fun s hs => by
  obtain ⟨rest, p⟩ := h
  exact pool_ok s (p.mem_iff.mp (List.mem_append_left _ hs))
def sp__law_names : GF := fun ds w _ k => ∃ (m c n : Nat), ds = [.st, .int (m : Int)] ∧ (m ≤ 24 ∧ w.n = some c ∧ n + m ≤ c) ∧ ∀ (ss : List Str) c', ss.length = m → Drawn ss → n ≤ c' → k (.lst (ss.map D.str)) ⟨w.M, some c'⟩
abbrev s__law_names : Stmt := topS 14
theorem sc__law_names : FnScope ["_law_state", "_law_many", "_law_some", "_law_turn"] ["_law_state", "_law_many"] (defScope s__law_names) := ⟨rfl, rfl, rfl, by decide +kernel, rfl, by decide +kernel, by decide +kernel⟩
def g__law_names : GS := (gSeq (gSet 2 (gBM "str" mSplitC (gC (.str "b aa zebra c quartzes ab m knows d mm likes z ba abcdefgh y zz e x f g hh jj kk pave")) (gaCons (gC (.str " ")) gaNil)))
  (gRet (gLc (giRange1 (gaCons (gVar 1) gaNil)) (ggName 3) gYes (gBM "list" mPopAt (gVar 2) (gaCons (gCall0 2 sp__law_take (gaCons (gVar 0) (gaCons (gCB fLen (gaCons (gVar 2) gaNil)) gaNil))) gaNil)) [3])))
theorem w__law_names {P : Program} {w : World} {K : PySem.W.Frag} {mg : Str → Option Value} {base : Heap} (T : DefAt K mg "_law_names" s__law_names ["_law_state", "_law_many"]) (B : Blt mg) (F__law_take : FnAt P w K mg base CX0 1 "_law_take" 2 sp__law_take) : FnAt P w K mg base CX0 2 "_law_names" 2 (sem0 4 g__law_names) := by
  have nd := sc__law_names.nd
  exact T.fn0 sc__law_names (fun f cdv A outer s H E hr => (dss_cons (ds_set (i := 2) nd rfl (by first | exact Or.inl rfl | exact Or.inr rfl) (de_bm PySem.F.plainAttrs_str PySem.F.slot_str_split (by rfl) mt_split ok_splitC de_str (da_cons de_str da_nil) (by rfl) (by rfl) (by rfl) (by rfl) (by rfl)))
  (dss_one (ds_ret (de_lc (own := [("_law_turn", 3)]) (us := [3]) rfl nd (di_range1 B (by rfl) (da_cons (de_var 1) da_nil)) (blkOk_by (N := ["_law_state", "_law_many", "_law_some", "_law_turn"]) (sc := defScope s__law_names) (by decide +kernel)) (by decide) (fun _ _ _ _ _ => (dg_name (i := 3) nd rfl (by first | exact Or.inl rfl | exact Or.inr rfl))) (fun _ _ _ _ _ => dts_nil) (fun _ _ _ _ _ => (de_bm PySem.F.plainAttrs_list PySem.F.slot_list_pop (by rfl) mt_popAt ok_popAt (de_var 2) (da_cons (de_call0 F__law_take hr (by rfl) (da_cons (de_var 0) (da_cons (de_len B (by rfl) (da_cons (de_var 2) da_nil)) da_nil))) da_nil) (by rfl) (by rfl) (by rfl) (by rfl) (by rfl))))))))

theorem v__law_names : ∀ ds w kx k, sp__law_names ds w kx k → gTr (sem0 4 g__law_names) ds w kx k := by
  rintro ds w kx k ⟨m, c, n, rfl, ⟨hm, hn, hc⟩, hk⟩
  have e : rho 4 [D.st, D.int (m : Int)] = [some .st, some (.int m), none, none] := rfl
  simp! only [g__law_names, e, giRange1, sp__law_take]
  refine ⟨by decide +kernel, by decide +kernel, ⟨by omega, by omega⟩, ?_⟩
  refine ⟨fun rem acc w' => ∃ (ss rest : List Str) (c' : Nat), acc = ss.map D.str ∧ w' = ⟨w.M ++ [.lst (rest.map D.str)], some c'⟩ ∧ ss.length + rem.length = m ∧ (ss ++ rest).Perm pool ∧ n + rem.length ≤ c', ⟨[], pool, c, rfl, by rw [hn]; rfl, ?_, List.Perm.refl _, ?_⟩, ?_, ?_⟩
  · rw [Int.toNat_natCast, range_len]
    exact Nat.zero_add _
  · rw [Int.toNat_natCast, range_len]
    exact hc
  · rintro acc w' ⟨ss, rest, c', rfl, rfl, h1, h2, h3⟩
    refine ⟨trivial, ⟨_, rfl⟩, lows_of fun x hx => ?_, hk ss c' (by simpa using h1) ⟨_, h2⟩ (by simpa using h3)⟩
    obtain ⟨s, _, rfl⟩ := List.mem_map.mp hx
    rfl
  · rintro x xs acc w' ⟨ss, rest, c', rfl, rfl, h1, h2, h3⟩
    rw [List.length_cons] at h1 h3
    have hlen : ss.length + rest.length = 24 := by
      have := h2.length_eq
      rw [List.length_append, pool_len] at this
      exact this
    simp! only [id_eq]
    have hr : 0 < (rest.map D.str).length := by rw [List.length_map]; omega
    refine take_use (n + xs.length) rfl (by omega) ⟨by omega, log_of (by rw [List.length_map]; exact Nat.lt_of_le_of_lt (show rest.length ≤ 24 by omega) (by decide))⟩ fun r c2 h4 h5 h6 => ?_
    simp! only [id_eq]
    rw [List.length_map] at h5
    have hl : r.toNat < rest.length := by omega
    refine ⟨h4, by rw [List.length_map]; exact h5, by omega, ?_⟩
    rw [List.getElem?_map, List.getElem?_eq_getElem hl]
    refine ⟨lt_sl (by rw [List.length_map]; omega), ss ++ [rest[r.toNat]], rest.eraseIdx r.toNat, c2, by simp, ?_, by simp; omega, ?_, h6⟩
    · rw [erase_map]
    · rw [List.append_assoc]
      exact ((erase_perm hl).append_left ss).trans h2
theorem ok__law_names {P : Program} {w : World} {K : PySem.W.Frag} {mg : Str → Option Value} {base : Heap} (T : DefAt K mg "_law_names" s__law_names ["_law_state", "_law_many"]) (B : Blt mg) (F__law_take : FnAt P w K mg base CX0 1 "_law_take" 2 sp__law_take) : FnAt P w K mg base CX0 2 "_law_names" 2 sp__law_names := (w__law_names T B F__law_take).trunc.imp v__law_names


abbrev s_Endless___init__ : Stmt := inClass (topS 8) 0
theorem sc_Endless___init__ : FnScope ["self", "names"] ["self", "names"] (defScope s_Endless___init__) := ⟨rfl, rfl, rfl, by decide +kernel, rfl, by decide +kernel, by decide +kernel⟩
theorem fn_endless {P : Program} {w : World} {K : PySem.W.Frag} {mg : Str → Option Value} {base : Heap} {q : Str} {f : Addr} {fd : FuncData} (F : Fun K "__init__" q s_Endless___init__ f fd) {Cr : Addr} {mc : Value} (k : RoyK K mg Cr mc) : FnOk P w K mg base CX0 1 f fd ["self", "names"] (spE K) := by
  refine F.ok sc_Endless___init__ (fun vs H Q E h => ?_) (fun cdv A outer s H vs Q E hr h => ⟨_, pss_cons (ps_expr (pe_royinit (by rfl) k (pa_cons (pe_var (i := 0) rfl (by first | exact Or.inl rfl | exact Or.inr rfl)) (pa_cons (pe_op op_add_str pe_str (pe_join pe_str (pe_var (i := 1) rfl (by first | exact Or.inl rfl | exact Or.inr rfl)))) pa_nil)))) (pss_one (ps_ost (pe_var (i := 0) rfl (by first | exact Or.inl rfl | exact Or.inr rfl)) (pe_var (i := 1) rfl (by first | exact Or.inl rfl | exact Or.inr rfl)))), endless_read rfl h⟩)
  obtain ⟨a, C, t, ss, rfl, _⟩ := h
  rfl

abbrev s_BadRow___init__ : Stmt := inClass (topS 9) 0
theorem sc_BadRow___init__ : FnScope ["self", "row"] ["self", "row"] (defScope s_BadRow___init__) := ⟨rfl, rfl, rfl, by decide +kernel, rfl, by decide +kernel, by decide +kernel⟩
theorem fn_badrow {P : Program} {w : World} {K : PySem.W.Frag} {mg : Str → Option Value} {base : Heap} {q : Str} {f : Addr} {fd : FuncData} (F : Fun K "__init__" q s_BadRow___init__ f fd) {Cr : Addr} {mc : Value} (k : RoyK K mg Cr mc) (nstr : mg "str" = none) : FnOk P w K mg base CX0 1 f fd ["self", "row"] (spB K) := by
  refine F.ok sc_BadRow___init__ (fun vs H Q E h => ?_) (fun cdv A outer s H vs Q E hr h => ⟨_, pss_cons (ps_expr (pe_royinit (by rfl) k (pa_cons (pe_var (i := 0) rfl (by first | exact Or.inl rfl | exact Or.inr rfl)) (pa_cons (pe_op op_add_str pe_str (pe_callTy call_str_int (by rfl) nstr (by decide +kernel) (pa_cons (pe_var (i := 1) rfl (by first | exact Or.inl rfl | exact Or.inr rfl)) pa_nil))) pa_nil)))) (pss_one (ps_ost (pe_var (i := 0) rfl (by first | exact Or.inl rfl | exact Or.inr rfl)) (pe_var (i := 1) rfl (by first | exact Or.inl rfl | exact Or.inr rfl)))), bad_read rfl h⟩)
  obtain ⟨a, C, z, rfl, _⟩ := h
  rfl

end LW

namespace LW
open PySem PySem.Spec PyProof.Rows L2 RZ DL


def clsJ (X : XF) : Nat → Addr
  | 0 => X.bf
  | 1 => X.taken
  | 2 => X.noname
  | 3 => X.toomuch
  | 4 => X.norate
  | 5 => X.noneleft
  | 6 => X.endless
  | 7 => X.badrow
  | _ => X.royal
theorem perm_strs {l : List Str} {ys : List D} (h : ys.Perm (l.map D.str)) : ∃ m : List Str, ys = m.map D.str ∧ m.Perm l := by
  have g : ∀ x ∈ ys, ∃ s, x = .str s := fun x hx => by
    obtain ⟨s, _, rfl⟩ := List.mem_map.mp (h.mem_iff.mp hx)
    exact ⟨s, rfl⟩
  let p : D → Str := fun d => match d with
    | .str s => s
    | _ => ""
  refine ⟨ys.map p, ?_, ?_⟩
  · rw [List.map_map]
    have : ∀ x ∈ ys, (D.str ∘ p) x = x := fun x hx => by
      obtain ⟨s, rfl⟩ := g x hx
      rfl
    exact (List.map_congr_left this).trans (List.map_id ys) |>.symm
  · have h2 := h.map p
    rw [List.map_map] at h2
    exact h2.trans (by rw [show (p ∘ D.str) = id from rfl, List.map_id])
theorem names_sortable (l : List Str) : (∀ x ∈ l.map D.str, ∃ p, toPD x = some p ∧ p.depth < 60) ∧ PySem.W.AllAlike ((l.map D.str).map DL.encD) ∧ PySem.W.Sortable ((l.map D.str).map DL.encD) := by
  refine ⟨fun x hx => ?_, ?_, ?_⟩
  · obtain ⟨s, _, rfl⟩ := List.mem_map.mp hx
    exact ⟨.str s, rfl, by simp [PyData.depth]⟩
  · rw [List.map_map]
    exact PySem.W.AllAlike.of fun a b => by simp [DL.encD, toPD, PySem.W.alike]
  · rw [List.map_map]
    exact PySem.W.Sortable.others fun a => ⟨by simp [DL.encD, toPD], by simp [DL.encD, toPD]⟩
theorem pool_sum : (pool.map (·.length)).sum ≤ 200 := by decide +kernel
theorem Drawn.sum {ss : List Str} (h : Drawn ss) : (ss.map (·.length)).sum ≤ 200 := by
  obtain ⟨rest, p⟩ := h
  have := (p.map (·.length)).sum_nat
  rw [List.map_append, List.sum_append] at this
  have := pool_sum
  omega
theorem Drawn.le24 {ss : List Str} (h : Drawn ss) : ss.length ≤ 24 := by
  obtain ⟨rest, p⟩ := h
  have := p.length_eq
  rw [List.length_append, pool_len] at this
  omega
def tupS (ss : List Str) : D := .tup (ss.map D.str)
def MadeC (X : XF) (j : Nat) (c : Cell) (d : D) : Prop :=
  (j < 6 ∧ c = .exc (clsJ X j) ∧ d = .non) ∨ (j = 6 ∧ ∃ ss : List Str, c = .exf X.endless [("names", tupS ss)] ∧ d = tupS ss ∧ ss.length ≤ 24) ∨ (j = 7 ∧ ∃ z : Int, c = .exf X.badrow [("row", .int z)] ∧ d = .int z)
def sp__law_made (X : XF) : GF := fun ds w _ k => ∃ (j c n : Nat), ds = [.st, .int (j : Int)] ∧ (j < 8 ∧ w.n = some c ∧ n + 30 ≤ c) ∧ ∀ (Ms : List Cell) (i : Nat) (cl : Cell) (d : D) c', (w.M ++ Ms)[i]? = some cl → MadeC X j cl d → Ms.length ≤ 6 → n ≤ c' → k (.tup [.rf i, d]) ⟨w.M ++ Ms, some c'⟩
abbrev s__law_made : Stmt := topS 15
theorem sc__law_made : FnScope ["_law_state", "_law_which", "_law_word", "_law_row", "_law_some", "_law_names_here"] ["_law_state", "_law_which"] (defScope s__law_made) := ⟨rfl, rfl, rfl, by decide +kernel, rfl, by decide +kernel, by decide +kernel⟩
def g__law_made (X : XF) : GS := (gSeq (gSet 2 (gJoin " " (gCall0 2 sp__law_names (gaCons (gVar 0) (gaCons (gCall0 2 sp__law_take (gaCons (gVar 0) (gaCons (gC (.int 4)) gaNil))) gaNil)))))
  (gSeq (gIfS (gB (gBin ltD (gVar 1) (gC (.int 6)))) (gSeq (gSet 4 (DL.gLst (gaCons (gExc X.bf (gVar 2)) (gaCons (gExc X.taken (gVar 2)) (gaCons (gExc X.noname (gVar 2)) (gaCons (gExc X.toomuch (gVar 2)) (gaCons (gExc X.norate (gVar 2)) (gaCons (gExc X.noneleft (gVar 2)) gaNil))))))))
  (gRet (gTup (gaCons (gBin ixD (gVar 4) (gVar 1)) (gaCons (gC .non) gaNil))))) gNext)
  (gSeq (gIfS (gB (gBin eqD (gVar 1) (gC (.int 6)))) (gSeq (gSet 5 (gCB fTuple (gaCons (gCB fSortDat (gaCons (gCall0 2 sp__law_names (gaCons (gVar 0) (gaCons (gCall0 2 sp__law_take (gaCons (gVar 0) (gaCons (gC (.int 13)) gaNil))) gaNil))) gaNil)) gaNil)))
  (gRet (gTup (gaCons (gExcF X.endless "names" namesOk (gVar 5)) (gaCons (gVar 5) gaNil))))) gNext)
  (gSeq (gSet 3 (gCall0 2 sp__law_take (gaCons (gVar 0) (gaCons (gBin ixD (DL.gLst (gaCons (gC (.int 9)) (gaCons (gC (.int 200)) (gaCons (gBin powD (gC (.int 10)) (gC (.int 9))) gaNil)))) (gCall0 2 sp__law_take (gaCons (gVar 0) (gaCons (gC (.int 3)) gaNil)))) gaNil))))
  (gRet (gTup (gaCons (gExcF X.badrow "row" rowOk (gVar 3)) (gaCons (gVar 3) gaNil))))))))
theorem w__law_made {P : Program} {w : World} {K : PySem.W.Frag} {mg : Str → Option Value} {base : Heap} (T : DefAt K mg "_law_made" s__law_made ["_law_state", "_law_which"]) (B : Blt mg) {X : XF} (XX : XFK K mg X) (EA : ExA P w K mg base X) (F__law_take : FnAt P w K mg base CX0 1 "_law_take" 2 sp__law_take) (F__law_names : FnAt P w K mg base CX0 2 "_law_names" 2 sp__law_names) : FnAt P w K mg base CX0 3 "_law_made" 2 (sem0 6 (g__law_made X)) := by
  have nd := sc__law_made.nd
  exact T.fn0 sc__law_made (fun f cdv A outer s H E hr => (dss_cons (ds_set (i := 2) nd rfl (by first | exact Or.inl rfl | exact Or.inr rfl) (de_join (de_call0 F__law_names hr (by rfl) (da_cons (de_var 0) (da_cons (de_call0 F__law_take hr (by rfl) (da_cons (de_var 0) (da_cons de_int da_nil))) da_nil)))))
  (dss_cons (ds_if (dt_lt (de_var 1) de_int) (dss_cons (ds_set (i := 4) nd rfl (by first | exact Or.inl rfl | exact Or.inr rfl) (de_lst (da_cons (de_exc (XX.xcls (x := "BadFraction") (C := X.bf) (by simp [XF.all]) (by simp [XF.raised])) (by rfl) (de_var 2)) (da_cons (de_exc (XX.xcls (x := "Taken") (C := X.taken) (by simp [XF.all]) (by simp [XF.raised])) (by rfl) (de_var 2)) (da_cons (de_exc (XX.xcls (x := "NoName") (C := X.noname) (by simp [XF.all]) (by simp [XF.raised])) (by rfl) (de_var 2)) (da_cons (de_exc (XX.xcls (x := "TooMuch") (C := X.toomuch) (by simp [XF.all]) (by simp [XF.raised])) (by rfl) (de_var 2)) (da_cons (de_exc (XX.xcls (x := "NoRate") (C := X.norate) (by simp [XF.all]) (by simp [XF.raised])) (by rfl) (de_var 2)) (da_cons (de_exc (XX.xcls (x := "NoneLeft") (C := X.noneleft) (by simp [XF.all]) (by simp [XF.raised])) (by rfl) (de_var 2)) da_nil))))))))
  (dss_one (ds_ret (de_tup (da_cons (de_ix (de_var 4) (de_var 1)) (da_cons de_non da_nil)))))) dss_nil)
  (dss_cons (ds_if (dt_eq hr (de_var 1) de_int) (dss_cons (ds_set (i := 5) nd rfl (by first | exact Or.inl rfl | exact Or.inr rfl) (de_tuple B (by rfl) (da_cons (de_sortDat B hr (by rfl) (da_cons (de_call0 F__law_names hr (by rfl) (da_cons (de_var 0) (da_cons (de_call0 F__law_take hr (by rfl) (da_cons (de_var 0) (da_cons de_int da_nil))) da_nil))) da_nil)) da_nil)))
  (dss_one (ds_ret (de_tup (da_cons (de_end EA.ee hr (by rfl) (de_var 5)) (da_cons (de_var 5) da_nil)))))) dss_nil)
  (dss_cons (ds_set (i := 3) nd rfl (by first | exact Or.inl rfl | exact Or.inr rfl) (de_call0 F__law_take hr (by rfl) (da_cons (de_var 0) (da_cons (de_ix (de_lst (da_cons de_int (da_cons de_int (da_cons (de_pow de_int de_int) da_nil)))) (de_call0 F__law_take hr (by rfl) (da_cons (de_var 0) (da_cons de_int da_nil)))) da_nil))))
  (dss_one (ds_ret (de_tup (da_cons (de_bad EA.be hr (by rfl) (de_var 3)) (da_cons (de_var 3) da_nil))))))))))

theorem str_small {z : Int} (h0 : 0 ≤ z) (h : z < 1000000000) : (Str.ofString (toString z)).length ≤ 1000 := by
  obtain ⟨m, rfl⟩ := Int.eq_ofNat_of_zero_le h0
  have h1 := PySem.W.KIN.signs_num m
  have h2 : (Str.ofString (toString ((m : Nat) : Int))).length = ((Str.ofString (toString ((m : Nat) : Int))).cps.toList).length := (Array.length_toList).symm
  rw [h2, h1, List.length_map]
  have : (Nat.toDigits 10 m).length ≤ 9 := (Nat.length_toDigits_le_iff (by decide) (by decide)).mpr (by
    have : (10 : Nat) ^ 9 = 1000000000 := by decide
    omega)
  omega
theorem v__law_made (X : XF) : ∀ ds w kx k, sp__law_made X ds w kx k → sem0 6 (g__law_made X) ds w kx k := by
  rintro ds w kx k ⟨j, c, n, rfl, ⟨hj, hn, hc⟩, hk⟩
  have e : rho 6 [D.st, D.int (j : Int)] = [some .st, some (.int j), none, none, none, none] := rfl
  simp only [g__law_made, e, sp__law_take, gJoin, gExc, gExcF, sem0,List.map_cons,List.map_nil,List.length_cons,List.length_nil,gSeq,gNext,gRet,gRetN,gIfS,gSet,gPar,gAsg,gDrop,gVar,gC,gBin,gUn,gB,gTru,gAnd,gOr,gNot,gAndV,gOrV,gNotV,gIf,gChain,gaNil,gaCons,DL.gTup,DL.gLst,gCB,gCall0,gAug,addD_i,addD_s,addD_l,addD_t,subD_i,mulD_i,mulD_l,fdivD_i,modD_i,powD_i,ltD_i,ltD_s,leD_i,gtD_i,geD_i,isD_n,isnotD_n,isNonD_non,isNonD_bl,isNonD_int,isNonD_str,isNonD_lst,isNonD_tup,negD_i,iaddD_i,truD_non,truD_bl,truD_int,truD_str,truD_lst,truD_tup,someK_some,ixD_l,ixD_t,fAbs_i,fInt_i,fInt_b,fMin2_i,fLen_l,fLen_t,fLen_s,fList_l,fList_t,fTuple_l,fTuple_t,optBK_some,fIsi_non,fIsi_bl,fIsi_int,fIsi_str,fIsi_lst,fIsi_tup,List.getElem?_cons_zero,List.getElem?_cons_succ,List.set_cons_zero,List.set_cons_succ,DL.ggName,ggNil0,ggCons1,ggTup2,ggTup3,gFor,giSeq,gLc,gYes,wipeR,true_and,and_true,at_0,at_1,at_2,kit_int_int,kit_bool_int,kit_str_int,kit_non_int,kit_list_int,kit_tuple_int,kit_int_bool,kit_bool_bool,kit_str_bool,kit_non_bool,kit_list_bool,kit_tuple_bool,kit_int_str,kit_bool_str,kit_str_str,kit_non_str,kit_list_str,kit_tuple_str,kit_int_list,kit_bool_list,kit_str_list,kit_non_list,kit_list_list,kit_tuple_list,kit_int_tuple,kit_bool_tuple,kit_str_tuple,kit_non_tuple,kit_list_tuple,kit_tuple_tuple,eqD_i,neD_i,eqD_s,neD_s,eqD_f,neD_f,Nat.zero_add,Nat.reduceAdd,nc0,nc1,nc2,nc3,nc4,nc5,nc6,nc7,nc8,nc9,eq_self,decide_true,decide_false,Int.reduceEq,Int.reduceLT,Int.reduceLE,Int.reduceNeg,Bool.not_true,Bool.not_false,Bool.false_eq_true,if_true,if_false,↓reduceIte,false_and,and_false,List.all_cons,List.all_nil,List.any_cons,List.any_nil,id_eq,Bool.and_true,Bool.true_and,Bool.or_false,Bool.false_or,Bool.and_false,Bool.false_and,gCut,eqD_b,neD_b,giZip,reduceCtorEq,Bool.true_eq_false,Bool.false_eq_true,gRevL,gSl,goNone,goSome,slD_l,ne_eq,not_false_eq_true,not_true_eq_false,gBM,isTy_l,isTy_s,new_at,new_set,isTy_new,cellK_new,append_new,popAt_new,gFrz_eq,frzK_new,fLen_new,fTuple_new,ixD_new,slA_l,slA_t,slA_new,addTD_t,addCD_l,mulCD_l,isbD_b,isnotbD_b,mSplitC_s,gLstC,gTr,ggSub,lstK_l,lstK_r,addLD_eq]
  refine take_use (m := 4) (n + 29) hn (by omega) ⟨by decide, log_of (by decide)⟩ fun r c1 h0 h1 hc1 => ?_
  refine ⟨r.toNat, c1, n + 20, by rw [Int.toNat_of_nonneg h0], ⟨by omega, rfl, by omega⟩, fun ss c2 hl hd hc2 => ?_⟩
  refine ⟨ss, .inl rfl, ?_, ?_⟩
  · have := hd.sum
    have := hd.le24
    have e1 : ((" " : String) : Str).length = 1 := rfl
    rw [e1]
    omega
  have h7 : j = 0 ∨ j = 1 ∨ j = 2 ∨ j = 3 ∨ j = 4 ∨ j = 5 ∨ j = 6 ∨ j = 7 := by omega
  have l6 : ∀ {a b c d e f : Cell}, (w.M ++ [a] ++ [b] ++ [c] ++ [d] ++ [e] ++ [f]) = w.M ++ [a, b, c, d, e, f] := by intros; simp
  rcases h7 with rfl | rfl | rfl | rfl | rfl | rfl | rfl | rfl
  iterate 6
    · rw [if_pos (by decide)]
      refine ⟨by decide, ?_⟩
      show someK (some _) _
      refine ⟨by decide, ?_⟩
      dsimp only
      rw [l6]
      exact hk _ _ _ _ c2 (by simp [List.length_append]; rfl) (.inl ⟨by decide, rfl, rfl⟩) (by simp) (by omega)
  · rw [if_neg (by decide), if_pos (by decide)]
    refine take_use (m := 13) (n + 19) rfl (by omega) ⟨by decide, log_of (by decide)⟩ fun r3 c3 h5 h6 hc3 => ?_
    refine ⟨r3.toNat, c3, n, by rw [Int.toNat_of_nonneg h5], ⟨by omega, rfl, by omega⟩, fun ss2 c4 hl2 hd2 hc4 => ?_⟩
    dsimp only
    unfold fSortDat
    dsimp only
    show lstK (.lst (ss2.map D.str)) _ _
    refine ⟨(names_sortable ss2).1, (names_sortable ss2).2.1, (names_sortable ss2).2.2, ?_⟩
    obtain ⟨ss3, e3, p3⟩ := perm_strs (List.mergeSort_perm (ss2.map D.str) (PySem.W.dataLe false DL.encD))
    rw [e3]
    refine ⟨⟨ss3, rfl, ?_⟩, by decide, ?_⟩
    · have s3 := (p3.map (·.length)).sum_nat
      have := hd2.sum
      have := hd2.le24
      have := p3.length_eq
      omega
    · exact hk [_] _ _ _ c4 (by simp; rfl) (.inr (.inl ⟨rfl, ss3, rfl, rfl, by rw [p3.length_eq]; exact hd2.le24⟩)) (by simp) hc4
  · rw [if_neg (by decide), if_neg (by decide)]
    refine ⟨by unfold CPow; decide, by decide, take_use (m := 3) (n + 19) rfl (by omega) ⟨by decide, log_of (by decide)⟩ fun r3 c3 h5 h6 hc3 => ?_⟩
    refine ix_all (fun d => ∃ b : Int, d = .int b ∧ 0 < b ∧ b ≤ 1000000000) h5 h6 (all_cons ⟨_, rfl, by decide, by decide⟩ (all_cons ⟨_, rfl, by decide, by decide⟩ (all_cons ⟨_, rfl, by decide, by decide⟩ all_nil))) ?_
    rintro d ⟨b, rfl, hb0, hb⟩
    refine take_use (n + 18) rfl (by omega) ⟨hb0, log_of (Nat.lt_of_le_of_lt (show b.natAbs ≤ 1000000000 by omega) (by decide))⟩ fun r4 c4 h7 h8 hc4 => ?_
    refine ⟨⟨r4, rfl, ?_, str_small h7 (by omega)⟩, by decide, ?_⟩
    · exact Nat.lt_trans (PySem.Flt.log2_lt_of (k := 200) (by decide) (Nat.lt_of_le_of_lt (show r4.natAbs ≤ 1000000000 by omega) (by decide))) (by decide)
    · exact hk [_] _ _ _ c4 (by simp) (.inr (.inr ⟨rfl, r4, rfl, rfl⟩)) (by simp) (by omega)
theorem ok__law_made {P : Program} {w : World} {K : PySem.W.Frag} {mg : Str → Option Value} {base : Heap} (T : DefAt K mg "_law_made" s__law_made ["_law_state", "_law_which"]) (B : Blt mg) {X : XF} (XX : XFK K mg X) (EA : ExA P w K mg base X) (F__law_take : FnAt P w K mg base CX0 1 "_law_take" 2 sp__law_take) (F__law_names : FnAt P w K mg base CX0 2 "_law_names" 2 sp__law_names) : FnAt P w K mg base CX0 3 "_law_made" 2 (sp__law_made X) := (w__law_made T B XX EA F__law_take F__law_names).imp (v__law_made X)

end LW

namespace LW
open PySem PySem.Spec PyProof.Rows L2 RZ DL


theorem clsJ_nd (X : XF) : [X.bf, X.taken, X.noname, X.toomuch, X.norate, X.noneleft, X.endless, X.badrow, X.royal].Nodup := by
  have e : [X.bf, X.taken, X.noname, X.toomuch, X.norate, X.noneleft, X.endless, X.badrow, X.royal] = [X.bf, X.taken, X.noname, X.toomuch, X.norate, X.noneleft] ++ [X.endless, X.badrow, X.royal] := rfl
  rw [e, List.nodup_append]
  refine ⟨X.nd, ?_, fun a ha b hb => ?_⟩
  · have := X.nb
    have := X.nr
    simp [X.nb, X.nr.1, X.nr.2]
  · obtain ⟨h1, h2, h3⟩ := X.ne a ha
    simp only [List.mem_cons, List.not_mem_nil, or_false] at hb
    rcases hb with rfl | rfl | rfl
    · exact h1
    · exact h2
    · exact h3
theorem clsJ_at (X : XF) : ∀ j, j ≤ 8 → [X.bf, X.taken, X.noname, X.toomuch, X.norate, X.noneleft, X.endless, X.badrow, X.royal][j]? = some (clsJ X j)
  | 0, _ => rfl
  | 1, _ => rfl
  | 2, _ => rfl
  | 3, _ => rfl
  | 4, _ => rfl
  | 5, _ => rfl
  | 6, _ => rfl
  | 7, _ => rfl
  | 8, _ => rfl
  | n + 9, h => absurd h (by omega)
theorem clsJ_inj (X : XF) {a b : Nat} (ha : a ≤ 8) (hb : b ≤ 8) : clsJ X a = clsJ X b ↔ a = b := by
  refine ⟨fun h => ?_, fun h => h ▸ rfl⟩
  have h1 := clsJ_at X a ha
  have h2 := clsJ_at X b hb
  rw [← h, ← h1] at h2
  exact (List.getElem?_inj (by show a < 9; omega) (clsJ_nd X)).mp h2.symm
theorem clsJ_mem (X : XF) {j : Nat} (h : j ≤ 8) : clsJ X j ∈ X.addrs := List.mem_of_getElem? (clsJ_at X j h)
theorem isEV_j (X : XF) {j c : Nat} (hj : j ≤ 8) (hc : c < 8) : isEV X (clsJ X j) (.ref (clsJ X c)) = some (decide (c = j)) := by
  show (if clsJ X c ∈ X.addrs then some (decide (clsJ X j = clsJ X c ∨ clsJ X c = X.royal)) else none) = _
  rw [if_pos (clsJ_mem X (by omega))]
  have h1 := clsJ_inj X (a := j) (b := c) hj (by omega)
  have h2 := clsJ_inj X (a := c) (b := 8) (by omega) (by omega)
  have h3 : clsJ X 8 = X.royal := rfl
  rw [← h3]
  congr 1
  rw [decide_eq_decide, h1, h2]
  omega
def ClsC (X : XF) (j : Nat) (c : Cell) : Prop := (c = .exc (clsJ X j) ∧ (j < 6 ∨ j = 8)) ∨ ((∃ fs, c = .exf (clsJ X j) fs) ∧ (j = 6 ∨ j = 7))
theorem MadeC.cls {X : XF} {j : Nat} {c : Cell} {d : D} (h : MadeC X j c d) : ClsC X j c ∧ j < 8 := by
  rcases h with ⟨h1, rfl, _⟩ | ⟨rfl, ss, rfl, _⟩ | ⟨rfl, z, rfl, _⟩
  · exact ⟨.inl ⟨rfl, .inl h1⟩, by omega⟩
  · exact ⟨.inr ⟨⟨_, rfl⟩, .inl rfl⟩, by omega⟩
  · exact ⟨.inr ⟨⟨_, rfl⟩, .inr rfl⟩, by omega⟩
theorem isE3_v {X : XF} {j i : Nat} {cl : Cell} {w : Wd} {k : KD} {v : V} {b : Bool} (h : ClsC X j cl) (hM : w.M[i]? = some cl) (hv : isEV X (clsJ X j) v = some b) (hk : k (.bl b) w) : fIsE3 X [.rf i, .ob v] w k := by
  show excK3 X i w _
  unfold excK3
  rw [hM]
  rcases h with ⟨rfl, h⟩ | ⟨⟨fs, rfl⟩, h⟩
  · refine ⟨?_, ?_⟩
    · rcases h with h | rfl
      · left
        have : j = 0 ∨ j = 1 ∨ j = 2 ∨ j = 3 ∨ j = 4 ∨ j = 5 := by omega
        rcases this with rfl | rfl | rfl | rfl | rfl | rfl <;> simp [XF.raised, clsJ]
      · exact .inr rfl
    · dsimp only
      rw [hv]
      exact hk
  · refine ⟨?_, ?_⟩
    · rcases h with rfl | rfl
      · exact .inl rfl
      · exact .inr rfl
    · dsimp only
      rw [hv]
      exact hk
theorem isE3_c {X : XF} {j i : Nat} (c : Nat) {cl : Cell} {w : Wd} {k : KD} (h : ClsC X j cl) (hM : w.M[i]? = some cl) (hj : j ≤ 8) (hc : c < 8) (hk : k (.bl (decide (c = j))) w) : fIsE3 X [.rf i, .ob (.ref (clsJ X c))] w k := isE3_v h hM (isEV_j X hj hc) hk
def fitsD (j : Nat) : List D := (List.range 8).map fun c : Nat => D.bl (decide (c = j))
def sp__law_fits (X : XF) : GF := fun ds w _ k => ∃ (i j : Nat) (cl : Cell), ds = [.rf i] ∧ (w.M[i]? = some cl ∧ ClsC X j cl ∧ j ≤ 8) ∧ k (.lst (fitsD j)) w
abbrev s__law_fits : Stmt := topS 16
theorem sc__law_fits : FnScope ["_law_error", "_law_fits_here"] ["_law_error"] (defScope s__law_fits) := ⟨rfl, rfl, rfl, by decide +kernel, rfl, by decide +kernel, by decide +kernel⟩
def g__law_fits (X : XF) : GS := (gSeq (gSet 1 (DL.gLst (gaCons (gCB (fIsE3 X) (gaCons (gVar 0) (gaCons (gC (.ob (.ref X.bf))) gaNil))) (gaCons (gCB (fIsE3 X) (gaCons (gVar 0) (gaCons (gC (.ob (.ref X.taken))) gaNil))) (gaCons (gCB (fIsE3 X) (gaCons (gVar 0) (gaCons (gC (.ob (.ref X.noname))) gaNil))) gaNil)))))
  (gSeq (gSet 1 (gBin addLD (gVar 1) (DL.gLst (gaCons (gCB (fIsE3 X) (gaCons (gVar 0) (gaCons (gC (.ob (.ref X.toomuch))) gaNil))) (gaCons (gCB (fIsE3 X) (gaCons (gVar 0) (gaCons (gC (.ob (.ref X.norate))) gaNil))) (gaCons (gCB (fIsE3 X) (gaCons (gVar 0) (gaCons (gC (.ob (.ref X.noneleft))) gaNil))) gaNil))))))
  (gRet (gBin addLD (gVar 1) (DL.gLst (gaCons (gCB (fIsE3 X) (gaCons (gVar 0) (gaCons (gC (.ob (.ref X.endless))) gaNil))) (gaCons (gCB (fIsE3 X) (gaCons (gVar 0) (gaCons (gC (.ob (.ref X.badrow))) gaNil))) gaNil)))))))
theorem w__law_fits {P : Program} {w : World} {K : PySem.W.Frag} {mg : Str → Option Value} {base : Heap} (T : DefAt K mg "_law_fits" s__law_fits ["_law_error"]) (B : Blt mg) {X : XF} (XX : XFK K mg X) (EA : ExA P w K mg base X) : FnAt P w K mg base CX0 3 "_law_fits" 1 (sem0 2 (g__law_fits X)) := by
  have nd := sc__law_fits.nd
  exact T.fn0 sc__law_fits (fun f cdv A outer s H E hr => (dss_cons (ds_set (i := 1) nd rfl (by first | exact Or.inl rfl | exact Or.inr rfl) (de_lst (da_cons (de_isE3 EA.ev XX B (by rfl) (da_cons (de_var 0) (da_cons (de_own (by rfl) (XX.own (x := "BadFraction") (C := X.bf) (by simp [XF.all]))) da_nil))) (da_cons (de_isE3 EA.ev XX B (by rfl) (da_cons (de_var 0) (da_cons (de_own (by rfl) (XX.own (x := "Taken") (C := X.taken) (by simp [XF.all]))) da_nil))) (da_cons (de_isE3 EA.ev XX B (by rfl) (da_cons (de_var 0) (da_cons (de_own (by rfl) (XX.own (x := "NoName") (C := X.noname) (by simp [XF.all]))) da_nil))) da_nil)))))
  (dss_cons (ds_set (i := 1) nd rfl (by first | exact Or.inl rfl | exact Or.inr rfl) (de_addl (de_var 1) (de_lst (da_cons (de_isE3 EA.ev XX B (by rfl) (da_cons (de_var 0) (da_cons (de_own (by rfl) (XX.own (x := "TooMuch") (C := X.toomuch) (by simp [XF.all]))) da_nil))) (da_cons (de_isE3 EA.ev XX B (by rfl) (da_cons (de_var 0) (da_cons (de_own (by rfl) (XX.own (x := "NoRate") (C := X.norate) (by simp [XF.all]))) da_nil))) (da_cons (de_isE3 EA.ev XX B (by rfl) (da_cons (de_var 0) (da_cons (de_own (by rfl) (XX.own (x := "NoneLeft") (C := X.noneleft) (by simp [XF.all]))) da_nil))) da_nil))))))
  (dss_one (ds_ret (de_addl (de_var 1) (de_lst (da_cons (de_isE3 EA.ev XX B (by rfl) (da_cons (de_var 0) (da_cons (de_own (by rfl) (XX.own (x := "Endless") (C := X.endless) (by simp [XF.all]))) da_nil))) (da_cons (de_isE3 EA.ev XX B (by rfl) (da_cons (de_var 0) (da_cons (de_own (by rfl) (XX.own (x := "BadRow") (C := X.badrow) (by simp [XF.all]))) da_nil))) da_nil)))))))))

theorem v__law_fits (X : XF) : ∀ ds w kx k, sp__law_fits X ds w kx k → sem0 2 (g__law_fits X) ds w kx k := by
  rintro ds w kx k ⟨i, j, cl, rfl, ⟨hM, hC, hj⟩, hk⟩
  have e : rho 2 [D.rf i] = [some (.rf i), none] := rfl
  simp only [g__law_fits, e, sem0,List.map_cons,List.map_nil,List.length_cons,List.length_nil,gSeq,gNext,gRet,gRetN,gIfS,gSet,gPar,gAsg,gDrop,gVar,gC,gBin,gUn,gB,gTru,gAnd,gOr,gNot,gAndV,gOrV,gNotV,gIf,gChain,gaNil,gaCons,DL.gTup,DL.gLst,gCB,gCall0,gAug,addD_i,addD_s,addD_l,addD_t,subD_i,mulD_i,mulD_l,fdivD_i,modD_i,powD_i,ltD_i,ltD_s,leD_i,gtD_i,geD_i,isD_n,isnotD_n,isNonD_non,isNonD_bl,isNonD_int,isNonD_str,isNonD_lst,isNonD_tup,negD_i,iaddD_i,truD_non,truD_bl,truD_int,truD_str,truD_lst,truD_tup,someK_some,ixD_l,ixD_t,fAbs_i,fInt_i,fInt_b,fMin2_i,fLen_l,fLen_t,fLen_s,fList_l,fList_t,fTuple_l,fTuple_t,optBK_some,fIsi_non,fIsi_bl,fIsi_int,fIsi_str,fIsi_lst,fIsi_tup,List.getElem?_cons_zero,List.getElem?_cons_succ,List.set_cons_zero,List.set_cons_succ,DL.ggName,ggNil0,ggCons1,ggTup2,ggTup3,gFor,giSeq,gLc,gYes,wipeR,true_and,and_true,at_0,at_1,at_2,kit_int_int,kit_bool_int,kit_str_int,kit_non_int,kit_list_int,kit_tuple_int,kit_int_bool,kit_bool_bool,kit_str_bool,kit_non_bool,kit_list_bool,kit_tuple_bool,kit_int_str,kit_bool_str,kit_str_str,kit_non_str,kit_list_str,kit_tuple_str,kit_int_list,kit_bool_list,kit_str_list,kit_non_list,kit_list_list,kit_tuple_list,kit_int_tuple,kit_bool_tuple,kit_str_tuple,kit_non_tuple,kit_list_tuple,kit_tuple_tuple,eqD_i,neD_i,eqD_s,neD_s,eqD_f,neD_f,Nat.zero_add,Nat.reduceAdd,nc0,nc1,nc2,nc3,nc4,nc5,nc6,nc7,nc8,nc9,eq_self,decide_true,decide_false,Int.reduceEq,Int.reduceLT,Int.reduceLE,Int.reduceNeg,Bool.not_true,Bool.not_false,Bool.false_eq_true,if_true,if_false,↓reduceIte,false_and,and_false,List.all_cons,List.all_nil,List.any_cons,List.any_nil,id_eq,Bool.and_true,Bool.true_and,Bool.or_false,Bool.false_or,Bool.and_false,Bool.false_and,gCut,eqD_b,neD_b,giZip,reduceCtorEq,Bool.true_eq_false,Bool.false_eq_true,gRevL,gSl,goNone,goSome,slD_l,ne_eq,not_false_eq_true,not_true_eq_false,gBM,isTy_l,isTy_s,new_at,new_set,isTy_new,cellK_new,append_new,popAt_new,gFrz_eq,frzK_new,fLen_new,fTuple_new,ixD_new,slA_l,slA_t,slA_new,addTD_t,addCD_l,mulCD_l,isbD_b,isnotbD_b,mSplitC_s,gLstC,gTr,ggSub,lstK_l,lstK_r,addLD_eq]
  refine isE3_c 0 hC hM hj (by decide) ?_
  refine isE3_c 1 hC hM hj (by decide) ?_
  refine isE3_c 2 hC hM hj (by decide) ?_
  exact ⟨by decide, isE3_c 3 hC hM hj (by decide) (isE3_c 4 hC hM hj (by decide) (isE3_c 5 hC hM hj (by decide) ⟨by decide, by decide, isE3_c 6 hC hM hj (by decide) (isE3_c 7 hC hM hj (by decide) ⟨by decide, (show 6 + 2 ≤ sizeLine by decide), hk⟩)⟩))⟩
theorem ok__law_fits {P : Program} {w : World} {K : PySem.W.Frag} {mg : Str → Option Value} {base : Heap} (T : DefAt K mg "_law_fits" s__law_fits ["_law_error"]) (B : Blt mg) {X : XF} (XX : XFK K mg X) (EA : ExA P w K mg base X) : FnAt P w K mg base CX0 3 "_law_fits" 1 (sp__law_fits X) := (w__law_fits T B XX EA).imp (v__law_fits X)

end LW

namespace LW
open PySem PySem.Spec PyProof.Rows L2 RZ DL
local macro_rules | `(tactic| simp! only [$xs,*] $[$loc]?) => `(tactic| simp only [$xs,*, sem0,List.map_cons,List.map_nil,List.length_cons,List.length_nil,gSeq,gNext,gRet,gRetN,gIfS,gSet,gPar,gAsg,gDrop,gVar,gC,gBin,gUn,gB,gTru,gAnd,gOr,gNot,gAndV,gOrV,gNotV,gIf,gChain,gaNil,gaCons,DL.gTup,DL.gLst,gCB,gCall0,gAug,addD_i,addD_s,addD_l,addD_t,subD_i,mulD_i,mulD_l,fdivD_i,modD_i,powD_i,ltD_i,ltD_s,leD_i,gtD_i,geD_i,isD_n,isnotD_n,isNonD_non,isNonD_bl,isNonD_int,isNonD_str,isNonD_lst,isNonD_tup,negD_i,iaddD_i,truD_non,truD_bl,truD_int,truD_str,truD_lst,truD_tup,someK_some,ixD_l,ixD_t,fAbs_i,fInt_i,fInt_b,fMin2_i,fLen_l,fLen_t,fLen_s,fList_l,fList_t,fTuple_l,fTuple_t,optBK_some,fIsi_non,fIsi_bl,fIsi_int,fIsi_str,fIsi_lst,fIsi_tup,List.getElem?_cons_zero,List.getElem?_cons_succ,List.set_cons_zero,List.set_cons_succ,DL.ggName,ggNil0,ggCons1,ggTup2,ggTup3,gFor,giSeq,gLc,gYes,wipeR,true_and,and_true,at_0,at_1,at_2,kit_int_int,kit_bool_int,kit_str_int,kit_non_int,kit_list_int,kit_tuple_int,kit_int_bool,kit_bool_bool,kit_str_bool,kit_non_bool,kit_list_bool,kit_tuple_bool,kit_int_str,kit_bool_str,kit_str_str,kit_non_str,kit_list_str,kit_tuple_str,kit_int_list,kit_bool_list,kit_str_list,kit_non_list,kit_list_list,kit_tuple_list,kit_int_tuple,kit_bool_tuple,kit_str_tuple,kit_non_tuple,kit_list_tuple,kit_tuple_tuple,eqD_i,neD_i,eqD_s,neD_s,eqD_f,neD_f,Nat.zero_add,Nat.reduceAdd,nc0,nc1,nc2,nc3,nc4,nc5,nc6,nc7,nc8,nc9,eq_self,decide_true,decide_false,Int.reduceEq,Int.reduceLT,Int.reduceLE,Int.reduceNeg,Bool.not_true,Bool.not_false,Bool.false_eq_true,if_true,if_false,↓reduceIte,false_and,and_false,List.all_cons,List.all_nil,List.any_cons,List.any_nil,id_eq,Bool.and_true,Bool.true_and,Bool.or_false,Bool.false_or,Bool.and_false,Bool.false_and,gCut,eqD_b,neD_b,giZip,reduceCtorEq,Bool.true_eq_false,Bool.false_eq_true,gRevL,gSl,goNone,goSome,slD_l,ne_eq,not_false_eq_true,not_true_eq_false,gBM,isTy_l,isTy_s,new_at,new_set,isTy_new,cellK_new,append_new,popAt_new,gFrz_eq,frzK_new,fLen_new,fTuple_new,ixD_new,slA_l,slA_t,slA_new,addTD_t,addCD_l,mulCD_l,isbD_b,isnotbD_b,mSplitC_s,gLstC,gTr,ggSub,lstK_l,lstK_r,addLD_eq] $[$loc]?)


def sp_law : GF := fun ds w _ k => ∃ ns : List Int, ds = [.scr ns] ∧ ns.length ≤ 63 ∧ w = ⟨[], none⟩ ∧ ∀ w', k (.bl true) w'
abbrev s_law : Stmt := topS 17
theorem sc_law : FnScope ["_law_script", "_law_state", "_law_made_here", "_law_turn", "_law_which", "_law_error", "_law_due", "_law_k"] ["_law_script"] (defScope s_law) := ⟨rfl, rfl, rfl, by decide +kernel, rfl, by decide +kernel, by decide +kernel⟩
def g_law (X : XF) : GS := (gSeq (gSet 1 (gCall0 1 sp__law_begin (gaCons (gVar 0) gaNil)))
  (gSeq (gIfS (gOr (gB (gBin neD (gCall0 1 (sp__law_fits X) (gaCons (gExc X.royal (gC (.str "none"))) gaNil)) (gBin mulD (DL.gLst (gaCons (gC (.bl false)) gaNil)) (gC (.int 8))))) (gNot (gTru (gCB (fIsE3 X) (gaCons (gExc X.royal (gC (.str "none"))) (gaCons (gC (.ob (.ty "ValueError"))) gaNil)))))) (gRet (gC (.bl false))) gNext)
  (gSeq (gSet 2 (gLstC gaNil))
  (gSeq (gFor (giRange1 (gaCons (gC (.int 16)) gaNil)) (ggName 3) (gSeq (gSet 4 (gBin modD (gVar 3) (gC (.int 8))))
  (gSeq (gAsg (gCall0 2 (sp__law_made X) (gaCons (gVar 1) (gaCons (gVar 4) gaNil))) (ggTup 2 (ggCons (ggName 5) (ggCons (ggName 6) ggNil))))
  (gSeq (gDrop (gBM "list" mAppend (gVar 2) (gaCons (gTup (gaCons (gVar 5) (gaCons (gVar 6) gaNil))) gaNil)))
  (gSeq (gIfS (gB (gBin neD (gCall0 1 (sp__law_fits X) (gaCons (gVar 5) gaNil)) (gLc (giRange1 (gaCons (gC (.int 8)) gaNil)) (ggName 7) gYes (gBin eqD (gVar 7) (gVar 4)) [7]))) (gRet (gC (.bl false))) gNext)
  (gIfS (gOr (gNot (gTru (gCB (fIsE3 X) (gaCons (gVar 5) (gaCons (gC (.ob (.ref X.royal))) gaNil))))) (gNot (gTru (gCB (fIsE3 X) (gaCons (gVar 5) (gaCons (gC (.ob (.ty "ValueError"))) gaNil)))))) (gRet (gC (.bl false))) gNext))))))
  (gSeq (gFor (giRange1 (gaCons (gC (.int 16)) gaNil)) (ggName 3) (gSeq (gAsg (gBin ixD (gVar 2) (gVar 3)) (ggTup 2 (ggCons (ggName 5) (ggCons (ggName 6) ggNil))))
  (gIfS (gOr (gAnd (gB (gBin eqD (gBin modD (gVar 3) (gC (.int 8))) (gC (.int 6)))) (gNot (gTru (gCall0 2 sp__law_same (gaCons (gXFld (· = X.endless) "names" (gVar 5)) (gaCons (gVar 6) gaNil)))))) (gAnd (gB (gBin eqD (gBin modD (gVar 3) (gC (.int 8))) (gC (.int 7)))) (gNot (gTru (gCall0 2 sp__law_same (gaCons (gXFld (· = X.badrow) "row" (gVar 5)) (gaCons (gVar 6) gaNil))))))) (gRet (gC (.bl false))) gNext)))
  (gRet (gC (.bl true))))))))
theorem w_law {P : Program} {w : World} {K : PySem.W.Frag} {mg : Str → Option Value} {base : Heap} {f : Addr} {fd : FuncData} (T : Fun K "law" "law" s_law f fd) (B : Blt mg) {X : XF} (XX : XFK K mg X) (EA : ExA P w K mg base X) (F__law_begin : FnAt P w K mg base CX0 1 "_law_begin" 1 sp__law_begin) (F__law_made : FnAt P w K mg base CX0 3 "_law_made" 2 (sp__law_made X)) (F__law_fits : FnAt P w K mg base CX0 3 "_law_fits" 1 (sp__law_fits X)) (F__law_same : FnAt P w K mg base CX0 8 "_law_same" 2 sp__law_same) (b_ValueError : mg "ValueError" = none) : FnOk P w K mg base CX0 9 f fd ["_law_script"] (upF 1 K (sem0 8 (g_law X))) := by
  have nd := sc_law.nd
  exact fun_fn0 T sc_law (fun f cdv A outer s H E hr => (dss_cons (ds_set (i := 1) nd rfl (by first | exact Or.inl rfl | exact Or.inr rfl) (de_call0 F__law_begin hr (by rfl) (da_cons (de_var 0) da_nil)))
  (dss_cons (ds_if (dt_w (dw_or (dt_ne hr (de_call0 F__law_fits hr (by rfl) (da_cons (de_exc EA.rx (by rfl) de_str) da_nil)) (de_mul (de_lst (da_cons de_bl da_nil)) de_int)) (dw_or1 (dt_not (dt_truth (de_isE3 EA.ev XX B (by rfl) (da_cons (de_exc EA.rx (by rfl) de_str) (da_cons (de_type (by rfl) b_ValueError (by decide +kernel)) da_nil)))))))) (dss_one (ds_ret de_bl)) dss_nil)
  (dss_cons (ds_set (i := 2) nd rfl (by first | exact Or.inl rfl | exact Or.inr rfl) (de_lstC da_nil))
  (dss_cons (ds_for PassesOwn.never rfl (di_range1 B (by rfl) (da_cons de_int da_nil)) (dg_name (i := 3) nd rfl (by first | exact Or.inl rfl | exact Or.inr rfl)) (dss_cons (ds_set (i := 4) nd rfl (by first | exact Or.inl rfl | exact Or.inr rfl) (de_mod (de_var 3) de_int))
  (dss_cons (ds_asg (de_call0 F__law_made hr (by rfl) (da_cons (de_var 1) (da_cons (de_var 4) da_nil))) (dg_tup rfl (dgs_cons (dg_name (i := 5) nd rfl (by first | exact Or.inl rfl | exact Or.inr rfl)) (dgs_cons (dg_name (i := 6) nd rfl (by first | exact Or.inl rfl | exact Or.inr rfl)) dgs_nil))))
  (dss_cons (ds_expr (de_bm PySem.F.plainAttrs_list PySem.F.slot_list_append (by rfl) mt_append ok_append (de_var 2) (da_cons (de_tup (da_cons (de_var 5) (da_cons (de_var 6) da_nil))) da_nil) (by rfl) (by rfl) (by rfl) (by rfl) (by rfl)))
  (dss_cons (ds_if (dt_ne hr (de_call0 F__law_fits hr (by rfl) (da_cons (de_var 5) da_nil)) (de_lc (own := [("_law_k", 7)]) (us := [7]) rfl nd (di_range1 B (by rfl) (da_cons de_int da_nil)) (blkOk_by (N := ["_law_script", "_law_state", "_law_made_here", "_law_turn", "_law_which", "_law_error", "_law_due", "_law_k"]) (sc := defScope s_law) (by decide +kernel)) (by decide) (fun _ _ _ _ _ => (dg_name (i := 7) nd rfl (by first | exact Or.inl rfl | exact Or.inr rfl))) (fun _ _ _ _ _ => dts_nil) (fun _ _ _ _ _ => (de_eq hr (de_var 7) (de_var 4))))) (dss_one (ds_ret de_bl)) dss_nil)
  (dss_one (ds_if (dt_w (dw_or (dt_not (dt_truth (de_isE3 EA.ev XX B (by rfl) (da_cons (de_var 5) (da_cons (de_own (by rfl) (XX.own (x := "RoyalError") (C := X.royal) (by simp [XF.all]))) da_nil))))) (dw_or1 (dt_not (dt_truth (de_isE3 EA.ev XX B (by rfl) (da_cons (de_var 5) (da_cons (de_type (by rfl) b_ValueError (by decide +kernel)) da_nil)))))))) (dss_one (ds_ret de_bl)) dss_nil)))))))
  (dss_cons (ds_for PassesOwn.never rfl (di_range1 B (by rfl) (da_cons de_int da_nil)) (dg_name (i := 3) nd rfl (by first | exact Or.inl rfl | exact Or.inr rfl)) (dss_cons (ds_asg (de_ix (de_var 2) (de_var 3)) (dg_tup rfl (dgs_cons (dg_name (i := 5) nd rfl (by first | exact Or.inl rfl | exact Or.inr rfl)) (dgs_cons (dg_name (i := 6) nd rfl (by first | exact Or.inl rfl | exact Or.inr rfl)) dgs_nil))))
  (dss_one (ds_if (dt_w (dw_or (dt_w (dw_and (dt_eq hr (de_mod (de_var 3) de_int) de_int) (dw_and1 (dt_not (dt_truth (de_call0 F__law_same hr (by rfl) (da_cons (de_xfld EA.fldE (de_var 5)) (da_cons (de_var 6) da_nil)))))))) (dw_or1 (dt_w (dw_and (dt_eq hr (de_mod (de_var 3) de_int) de_int) (dw_and1 (dt_not (dt_truth (de_call0 F__law_same hr (by rfl) (da_cons (de_xfld EA.fldB (de_var 5)) (da_cons (de_var 6) da_nil))))))))))) (dss_one (ds_ret de_bl)) dss_nil))))
  (dss_one (ds_ret de_bl))))))))

theorem ne_fits {j : Nat} (hj : j ≤ 8) {w : Wd} {k : KD} (hk : k (.bl false) w) : neD (.lst (fitsD j)) (.lst (fitsD j)) w k := by
  have h9 : j = 0 ∨ j = 1 ∨ j = 2 ∨ j = 3 ∨ j = 4 ∨ j = 5 ∨ j = 6 ∨ j = 7 ∨ j = 8 := by omega
  rcases h9 with rfl | rfl | rfl | rfl | rfl | rfl | rfl | rfl | rfl <;> exact ⟨by decide +kernel, by decide +kernel, hk⟩
theorem idx_lt {M : List Cell} {i : Nat} {c : Cell} (h : M[i]? = some c) : i < M.length := (List.getElem?_eq_some_iff.mp h).1
theorem cellK_at {w : Wd} {i : Nat} {xs : List D} {f : List D → Prop} (h : w.M[i]? = some (.lst xs)) : cellK i w f = f xs := by
  unfold cellK
  rw [h]
theorem strs_flat : ∀ ss : List Str, plains (ss.map D.str) = true ∧ deps (ss.map D.str) = 0 ∧ wids (ss.map D.str) = true
  | [] => ⟨rfl, rfl, rfl⟩
  | s :: ss => by
    obtain ⟨h1, h2, h3⟩ := strs_flat ss
    refine ⟨h1, ?_, h3⟩
    show max 0 (deps (ss.map D.str)) = 0
    rw [h2]
    rfl
theorem ix_cellN {w : Wd} {i u : Nat} {xs : List D} {d : D} {k : KD} (h : w.M[i]? = some (.lst xs)) (h2 : xs[u]? = some d) (hk : k d w) : ixD (.rf i) (.int (u : Int)) w k := by
  have e : seqD (.rf i) w = some xs := by simp [seqD, h]
  unfold ixD
  simp only [e]
  have e2 : atI xs (u : Int) = some d := by
    rw [at_nat (by omega) (by have := (List.getElem?_eq_some_iff.mp h2).1; omega), Int.toNat_natCast]
    exact h2
  rw [e2]
  exact hk
def Held (X : XF) (M : List Cell) (xs : List D) : Prop := ∀ u < xs.length, ∃ i cl d, xs[u]? = some (.tup [.rf i, d]) ∧ M[i]? = some cl ∧ MadeC X (u % 8) cl d ∧ i ≠ 2
theorem rng_cons {t : Nat} (f : Nat → D) (h : t < 16) : (List.range' t (16 - t)).map f = f t :: (List.range' (t + 1) (16 - (t + 1))).map f := by
  have : 16 - t = (16 - (t + 1)) + 1 := by omega
  rw [this, List.range'_succ, List.map_cons]
theorem rng_nil {t : Nat} {f : Nat → D} (h : (List.range' t (16 - t)).map f = []) : 16 ≤ t := by
  have := congrArg List.length h
  rw [List.length_map, List.length_range'] at this
  simp at this
  omega
theorem isTy_lst {w : Wd} {i : Nat} {xs : List D} (h : w.M[i]? = some (.lst xs)) : isTy "list" (.rf i) w := by
  show (match w.M[i]? with
    | some (.lst _) => "list" = "list"
    | some (.dk _) => "list" = "dict"
    | _ => False)
  rw [h]
theorem set_eq2 {M : List Cell} {i : Nat} {c c' : Cell} (h : M[i]? = some c) : (M.set i c')[i]? = some c' := by rw [List.getElem?_set_self (idx_lt h)]
def Inv1 (X : XF) (ns : List Int) (rem : List D) (ρ : Rho) (w : Wd) : Prop := ∃ (t c : Nat) (xs : List D) (o3 o4 o5 o6 o7 : Option D), t ≤ 16 ∧ rem = (List.range' t (16 - t)).map (fun i : Nat => D.int (i : Int)) ∧ ρ = [some (.scr ns), some .st, some (.rf 2), o3, o4, o5, o6, o7] ∧ w.n = some c ∧ (16 - t) * 30 ≤ c ∧ w.M[2]? = some (.lst xs) ∧ xs.length = t ∧ Held X w.M xs
def Inv2 (X : XF) (ns : List Int) (M : List Cell) (rem : List D) (ρ : Rho) (w : Wd) : Prop := ∃ (t : Nat) (o3 o4 o5 o6 o7 : Option D), t ≤ 16 ∧ rem = (List.range' t (16 - t)).map (fun i : Nat => D.int (i : Int)) ∧ ρ = [some (.scr ns), some .st, some (.rf 2), o3, o4, o5, o6, o7] ∧ w.M = M
theorem v_law (X : XF) : ∀ ds w kx k, sp_law ds w kx k → sem0 8 (g_law X) ds w kx k := by
  rintro ds w kx k ⟨ns, rfl, hl, rfl, hk⟩
  have e : rho 8 [D.scr ns] = [some (.scr ns), none, none, none, none, none, none, none] := rfl
  simp! only [g_law, e, sp__law_begin, sp__law_take, gExc]
  refine ⟨ns, rfl, rfl, ?_⟩
  refine ⟨0, 8, .exc X.royal, rfl, ⟨rfl, .inl ⟨rfl, .inr rfl⟩, by decide⟩, ?_⟩
  refine ⟨by decide, by decide, by decide, by decide, ?_⟩
  show neD (.lst (fitsD 8)) (.lst (fitsD 8)) _ _
  refine ne_fits (by decide) ?_
  dsimp only
  rw [if_neg (by decide)]
  refine isE3_v (j := 8) (cl := .exc X.royal) (.inl ⟨rfl, .inr rfl⟩) rfl (is_ve X _) ?_
  simp! only [id_eq]
  refine ⟨by decide, ⟨by decide, by decide⟩, ?_⟩
  refine ⟨Inv1 X ns, ⟨0, 1000000000, [], _, _, _, _, _, by decide, ?_, rfl, rfl, by decide, rfl, rfl, fun u h => absurd h (Nat.not_lt_zero u)⟩, ?_, ?_⟩
  · rw [List.range_eq_range']
    rfl
  · rintro ρ w ⟨t, c, xs, o3, o4, o5, o6, o7, ht, hr, rfl, hn, hc, hM, hx, hH⟩
    have ht := rng_nil hr.symm
    have h16 : xs.length = 16 := by omega
    refine ⟨trivial, ?_⟩
    simp! only [id_eq]
    refine ⟨⟨by decide, by decide⟩, ?_⟩
    refine ⟨Inv2 X ns w.M, ⟨0, _, _, _, _, _, by decide, ?_, rfl, rfl⟩, ?_, ?_⟩
    · rw [List.range_eq_range']
      rfl
    · rintro ρ w2 ⟨t2, p3, p4, p5, p6, p7, ht2, hr2, rfl, hw2⟩
      exact ⟨trivial, hk _⟩
    · rintro x rem ρ w2 ⟨t2, p3, p4, p5, p6, p7, ht2, hr2, rfl, hw2⟩
      have ht3 : t2 < 16 := by
        rcases Nat.lt_or_ge t2 16 with h | h
        · exact h
        · have : t2 = 16 := by omega
          subst this
          cases hr2
      rw [rng_cons _ ht3] at hr2
      cases hr2
      obtain ⟨i, cl, d, g1, g2, g3, g4⟩ := hH t2 (by omega)
      refine ⟨trivial, ?_⟩
      simp! only [id_eq]
      refine ix_cellN (by rw [hw2]; exact hM) g1 ?_
      simp! only [id_eq]
      have e8 : (t2 : Int).fmod 8 = ((t2 % 8 : Nat) : Int) := by
        rw [Int.fmod_eq_emod_of_nonneg _ (by decide)]
        rfl
      rw [e8]
      have fin : Inv2 X ns w.M ((List.range' (t2 + 1) (16 - (t2 + 1))).map (fun i : Nat => D.int (i : Int))) [some (.scr ns), some .st, some (.rf 2), some (.int (t2 : Int)), p4, some (.rf i), some d, p7] w2 := ⟨t2 + 1, _, _, _, _, _, by omega, rfl, rfl, hw2⟩
      rw [← hw2] at g2
      rcases g3 with ⟨h6, rfl, rfl⟩ | ⟨h6, ss, rfl, rfl, h24⟩ | ⟨h6, z, rfl, rfl⟩
      · rw [if_neg (by rw [decide_eq_true_iff]; omega), if_neg (by rw [decide_eq_true_iff]; omega)]
        exact fin
      · rw [if_pos (by rw [decide_eq_true_iff]; omega)]
        show exfK i w2 _
        unfold exfK
        rw [g2]
        refine ⟨rfl, tupS ss, tupS ss, rfl, ?_, fun b hb => ?_⟩
        · obtain ⟨q1, q2, q3⟩ := strs_flat ss
          refine ⟨plains_ok q1, q1, ?_, ?_, ?_⟩
          · show deps (ss.map D.str) + 1 ≤ 7
            omega
          · show (decide ((ss.map D.str).length ≤ 100000) && wids (ss.map D.str)) = true
            rw [q3, decide_eq_true (by rw [List.length_map]; omega)]
            rfl
          · show (decide ((ss.map D.str).length ≤ 100000) && wids (ss.map D.str)) = true
            rw [q3, decide_eq_true (by rw [List.length_map]; omega)]
            rfl
        · have : b = true := hb.mpr rfl
          subst this
          simp! only [id_eq]
          rw [if_neg (by rw [decide_eq_true_iff]; omega)]
          exact fin
      · rw [if_neg (by rw [decide_eq_true_iff]; omega), if_pos (by rw [decide_eq_true_iff]; omega)]
        show exfK i w2 _
        unfold exfK
        rw [g2]
        refine ⟨rfl, .int z, .int z, rfl, ⟨rfl, rfl, Nat.zero_le 7, rfl, rfl⟩, fun b hb => ?_⟩
        have : b = true := hb.mpr rfl
        subst this
        simp! only [id_eq]
        exact fin
  · rintro x rem ρ w ⟨t, c, xs, o3, o4, o5, o6, o7, ht, hr, rfl, hn, hc, hM, hx, hH⟩
    have ht2 : t < 16 := by
      rcases Nat.lt_or_ge t 16 with h | h
      · exact h
      · have : t = 16 := by omega
        subst this
        cases hr
    rw [rng_cons _ ht2] at hr
    cases hr
    refine ⟨trivial, ?_⟩
    simp! only [id_eq]
    have e8 : (t : Int).fmod 8 = ((t % 8 : Nat) : Int) := by
      rw [Int.fmod_eq_emod_of_nonneg _ (by decide)]
      rfl
    rw [e8]
    refine ⟨t % 8, c, c - 30, rfl, ⟨by omega, hn, by omega⟩, fun Ms i cl d c' hi hm hl6 hc' => ?_⟩
    have hM2 : (w.M ++ Ms)[2]? = some (.lst xs) := by
      rw [List.getElem?_append_left (idx_lt hM)]
      exact hM
    obtain ⟨hcl, hj8⟩ := hm.cls
    have hi2 : i ≠ 2 := fun z => by
      subst z
      rw [hM2] at hi
      cases hi
      rcases hm with ⟨_, h, _⟩ | ⟨_, ss, h, _⟩ | ⟨_, z, h, _⟩ <;> cases h
    simp! only [id_eq]
    refine ⟨isTy_lst hM2, by decide, ?_⟩
    show cellK 2 _ _
    rw [cellK_at hM2]
    refine ⟨lt_sl (by omega), ?_⟩
    have hi3 : ((w.M ++ Ms).set 2 (.lst (xs ++ [.tup [.rf i, d]])))[i]? = some cl := by
      rw [List.getElem?_set_ne (Ne.symm hi2)]
      exact hi
    refine ⟨i, t % 8, cl, rfl, ⟨hi3, hcl, by omega⟩, ?_⟩
    simp! only [id_eq]
    refine ⟨⟨by decide, by decide⟩, ?_⟩
    refine lc_ty (fun i : Nat => D.int (i : Int)) (fun u : Nat => D.bl (decide (u = t % 8))) (List.range 8) trivial (by simp) (fun a ha k' hk' => ?_) ?_
    · simp! only [id_eq]
      have : decide ((a : Int) = ((t % 8 : Nat) : Int)) = decide (a = t % 8) := by
        rw [decide_eq_decide]
        omega
      rw [this]
      exact hk'
    show neD (.lst (fitsD (t % 8))) (.lst (fitsD (t % 8))) _ _
    refine ne_fits (by omega) ?_
    dsimp only
    rw [if_neg (by decide)]
    have hroy : isEV X (clsJ X (t % 8)) (.ref X.royal) = some true := by
      show (if X.royal ∈ X.addrs then some (decide (clsJ X (t % 8) = X.royal ∨ X.royal = X.royal)) else none) = _
      rw [if_pos (by simp [XF.addrs]), decide_eq_true (.inr rfl)]
    refine isE3_v hcl hi3 hroy ?_
    simp! only [id_eq]
    refine isE3_v hcl hi3 (is_ve X _) ?_
    simp! only [id_eq]
    refine ⟨t + 1, c', xs ++ [.tup [.rf i, d]], _, _, _, _, _, by omega, rfl, rfl, rfl, by omega, set_eq2 hM2, by rw [List.length_append, hx]; rfl, fun u hu => ?_⟩
    rw [List.length_append, List.length_singleton] at hu
    rcases Nat.lt_or_ge u xs.length with h | h
    · obtain ⟨i1, cl1, d1, g1, g2, g3, g4⟩ := hH u h
      refine ⟨i1, cl1, d1, by rw [List.getElem?_append_left h]; exact g1, ?_, g3, g4⟩
      rw [List.getElem?_set_ne (Ne.symm g4), List.getElem?_append_left (idx_lt g2)]
      exact g2
    · have : u = xs.length := by omega
      subst this
      exact ⟨i, cl, d, by rw [List.getElem?_append_right (Nat.le_refl _), Nat.sub_self]; rfl, hi3, by rw [hx]; exact hm, hi2⟩
theorem ok_law {P : Program} {w : World} {K : PySem.W.Frag} {mg : Str → Option Value} {base : Heap} {f : Addr} {fd : FuncData} (T : Fun K "law" "law" s_law f fd) (B : Blt mg) {X : XF} (XX : XFK K mg X) (EA : ExA P w K mg base X) (F__law_begin : FnAt P w K mg base CX0 1 "_law_begin" 1 sp__law_begin) (F__law_made : FnAt P w K mg base CX0 3 "_law_made" 2 (sp__law_made X)) (F__law_fits : FnAt P w K mg base CX0 3 "_law_fits" 1 (sp__law_fits X)) (F__law_same : FnAt P w K mg base CX0 8 "_law_same" 2 sp__law_same) (b_ValueError : mg "ValueError" = none) : FnOk P w K mg base CX0 9 f fd ["_law_script"] (upF 1 K sp_law) := (w_law T B XX EA F__law_begin F__law_made F__law_fits F__law_same b_ValueError).imp (up_imp (v_law X))

end LW

namespace LW
open PySem PySem.Spec PyProof.Rows L2 RZ DL


set_option maxHeartbeats 0 in
theorem all_mk {l : PySem.W.OpenLaw} {w : World} {K : PySem.W.Frag} {h : Heap} {mg : Str → Option Value} {fa : Addr} (X : K.In h) (G : h.Ns mainGlobals mg) (hfa : mg "law" = some (.ref fa))
    {f0 : Addr} {od0 an0 : Option Addr} {sl0 : Array (Option Value)} {oc0 kV0 dc0 pm0 cd0 ct0 : Value}
    (a0 : PySem.W.nsIn K mainGlobals "_law_begin" = some (some (.ref f0)))
    (l0 : K.lookup f0 = some ⟨oc0, od0, .func (PySem.W.fnOf "_law_begin" "_law_begin" (defArgs s__law_begin) (defBody s__law_begin) (defScope s__law_begin) .none kV0 dc0 pm0 an0 cd0 ct0), sl0⟩) (c0 : PySem.W.codeIn K cd0 "_law_begin" = true) (k0 : PySem.W.keepIn K (.ref f0) = true)
    {f1 : Addr} {od1 an1 : Option Addr} {sl1 : Array (Option Value)} {oc1 kV1 dc1 pm1 cd1 ct1 : Value}
    (a1 : PySem.W.nsIn K mainGlobals "_law_take" = some (some (.ref f1)))
    (l1 : K.lookup f1 = some ⟨oc1, od1, .func (PySem.W.fnOf "_law_take" "_law_take" (defArgs s__law_take) (defBody s__law_take) (defScope s__law_take) .none kV1 dc1 pm1 an1 cd1 ct1), sl1⟩) (c1 : PySem.W.codeIn K cd1 "_law_take" = true) (k1 : PySem.W.keepIn K (.ref f1) = true)
    {f2 : Addr} {od2 an2 : Option Addr} {sl2 : Array (Option Value)} {oc2 kV2 dc2 pm2 cd2 ct2 : Value}
    (a2 : PySem.W.nsIn K mainGlobals "_law_names" = some (some (.ref f2)))
    (l2 : K.lookup f2 = some ⟨oc2, od2, .func (PySem.W.fnOf "_law_names" "_law_names" (defArgs s__law_names) (defBody s__law_names) (defScope s__law_names) .none kV2 dc2 pm2 an2 cd2 ct2), sl2⟩) (c2 : PySem.W.codeIn K cd2 "_law_names" = true) (k2 : PySem.W.keepIn K (.ref f2) = true)
    {f3 : Addr} {od3 an3 : Option Addr} {sl3 : Array (Option Value)} {oc3 kV3 dc3 pm3 cd3 ct3 : Value}
    (a3 : PySem.W.nsIn K mainGlobals "_law_made" = some (some (.ref f3)))
    (l3 : K.lookup f3 = some ⟨oc3, od3, .func (PySem.W.fnOf "_law_made" "_law_made" (defArgs s__law_made) (defBody s__law_made) (defScope s__law_made) .none kV3 dc3 pm3 an3 cd3 ct3), sl3⟩) (c3 : PySem.W.codeIn K cd3 "_law_made" = true) (k3 : PySem.W.keepIn K (.ref f3) = true)
    {f4 : Addr} {od4 an4 : Option Addr} {sl4 : Array (Option Value)} {oc4 kV4 dc4 pm4 cd4 ct4 : Value}
    (a4 : PySem.W.nsIn K mainGlobals "_law_fits" = some (some (.ref f4)))
    (l4 : K.lookup f4 = some ⟨oc4, od4, .func (PySem.W.fnOf "_law_fits" "_law_fits" (defArgs s__law_fits) (defBody s__law_fits) (defScope s__law_fits) .none kV4 dc4 pm4 an4 cd4 ct4), sl4⟩) (c4 : PySem.W.codeIn K cd4 "_law_fits" = true) (k4 : PySem.W.keepIn K (.ref f4) = true)
    {f5 : Addr} {od5 an5 : Option Addr} {sl5 : Array (Option Value)} {oc5 kV5 dc5 pm5 cd5 ct5 : Value}
    (a5 : PySem.W.nsIn K mainGlobals "_law_same" = some (some (.ref f5)))
    (l5 : K.lookup f5 = some ⟨oc5, od5, .func (PySem.W.fnOf "_law_same" "_law_same" (defArgs s__law_same) (defBody s__law_same) (defScope s__law_same) .none kV5 dc5 pm5 an5 cd5 ct5), sl5⟩) (c5 : PySem.W.codeIn K cd5 "_law_same" = true) (k5 : PySem.W.keepIn K (.ref f5) = true)
    {f6 : Addr} {od6 an6 : Option Addr} {sl6 : Array (Option Value)} {oc6 kV6 dc6 pm6 cd6 ct6 : Value}
    (a6 : PySem.W.nsIn K mainGlobals "law" = some (some (.ref f6)))
    (l6 : K.lookup f6 = some ⟨oc6, od6, .func (PySem.W.fnOf "law" "law" (defArgs s_law) (defBody s_law) (defScope s_law) .none kV6 dc6 pm6 an6 cd6 ct6), sl6⟩) (c6 : PySem.W.codeIn K cd6 "law" = true) (k6 : PySem.W.keepIn K (.ref f6) = true)
    (z0 : PySem.W.nsIn K mainGlobals "abs" = some none)
    (z1 : PySem.W.nsIn K mainGlobals "len" = some none)
    (z2 : PySem.W.nsIn K mainGlobals "isinstance" = some none)
    (z3 : PySem.W.nsIn K mainGlobals "all" = some none)
    (z4 : PySem.W.nsIn K mainGlobals "any" = some none)
    (z5 : PySem.W.nsIn K mainGlobals "sum" = some none)
    (z6 : PySem.W.nsIn K mainGlobals "list" = some none)
    (z7 : PySem.W.nsIn K mainGlobals "tuple" = some none)
    (z8 : PySem.W.nsIn K mainGlobals "int" = some none)
    (z9 : PySem.W.nsIn K mainGlobals "bool" = some none)
    (z10 : PySem.W.nsIn K mainGlobals "str" = some none)
    (z11 : PySem.W.nsIn K mainGlobals "min" = some none)
    (z12 : PySem.W.nsIn K mainGlobals "max" = some none)
    (z13 : PySem.W.nsIn K mainGlobals "range" = some none)
    (z14 : PySem.W.nsIn K mainGlobals "zip" = some none)
    (z15 : PySem.W.nsIn K mainGlobals "sorted" = some none)
    (z16 : PySem.W.nsIn K mainGlobals "enumerate" = some none)
    (z17 : PySem.W.nsIn K mainGlobals "divmod" = some none)
    (y0 : PySem.W.nsIn K mainGlobals "ValueError" = some none)
    {C_bf C_taken C_noname C_toomuch C_norate C_noneleft C_endless C_badrow C_royal : Addr}
    (xa_bf : PySem.W.nsIn K mainGlobals "BadFraction" = some (some (.ref C_bf)))
    (xk_bf : PySem.W.keepIn K (.ref C_bf) = true)
    (xd_bf : PySem.W.hasDictIn K C_bf = true)
    (xt_bf : PySem.W.typeIn K (.ref C_bf) = some (.type "type"))
    (xb_bf : PySem.W.subIn K (.ref C_bf) (.type "BaseException") = some true)
    (xa_taken : PySem.W.nsIn K mainGlobals "Taken" = some (some (.ref C_taken)))
    (xk_taken : PySem.W.keepIn K (.ref C_taken) = true)
    (xd_taken : PySem.W.hasDictIn K C_taken = true)
    (xt_taken : PySem.W.typeIn K (.ref C_taken) = some (.type "type"))
    (xb_taken : PySem.W.subIn K (.ref C_taken) (.type "BaseException") = some true)
    (xa_noname : PySem.W.nsIn K mainGlobals "NoName" = some (some (.ref C_noname)))
    (xk_noname : PySem.W.keepIn K (.ref C_noname) = true)
    (xd_noname : PySem.W.hasDictIn K C_noname = true)
    (xt_noname : PySem.W.typeIn K (.ref C_noname) = some (.type "type"))
    (xb_noname : PySem.W.subIn K (.ref C_noname) (.type "BaseException") = some true)
    (xa_toomuch : PySem.W.nsIn K mainGlobals "TooMuch" = some (some (.ref C_toomuch)))
    (xk_toomuch : PySem.W.keepIn K (.ref C_toomuch) = true)
    (xd_toomuch : PySem.W.hasDictIn K C_toomuch = true)
    (xt_toomuch : PySem.W.typeIn K (.ref C_toomuch) = some (.type "type"))
    (xb_toomuch : PySem.W.subIn K (.ref C_toomuch) (.type "BaseException") = some true)
    (xa_norate : PySem.W.nsIn K mainGlobals "NoRate" = some (some (.ref C_norate)))
    (xk_norate : PySem.W.keepIn K (.ref C_norate) = true)
    (xd_norate : PySem.W.hasDictIn K C_norate = true)
    (xt_norate : PySem.W.typeIn K (.ref C_norate) = some (.type "type"))
    (xb_norate : PySem.W.subIn K (.ref C_norate) (.type "BaseException") = some true)
    (xa_noneleft : PySem.W.nsIn K mainGlobals "NoneLeft" = some (some (.ref C_noneleft)))
    (xk_noneleft : PySem.W.keepIn K (.ref C_noneleft) = true)
    (xd_noneleft : PySem.W.hasDictIn K C_noneleft = true)
    (xt_noneleft : PySem.W.typeIn K (.ref C_noneleft) = some (.type "type"))
    (xb_noneleft : PySem.W.subIn K (.ref C_noneleft) (.type "BaseException") = some true)
    (xa_endless : PySem.W.nsIn K mainGlobals "Endless" = some (some (.ref C_endless)))
    (xk_endless : PySem.W.keepIn K (.ref C_endless) = true)
    (xd_endless : PySem.W.hasDictIn K C_endless = true)
    (xt_endless : PySem.W.typeIn K (.ref C_endless) = some (.type "type"))
    (xb_endless : PySem.W.subIn K (.ref C_endless) (.type "BaseException") = some true)
    (xa_badrow : PySem.W.nsIn K mainGlobals "BadRow" = some (some (.ref C_badrow)))
    (xk_badrow : PySem.W.keepIn K (.ref C_badrow) = true)
    (xd_badrow : PySem.W.hasDictIn K C_badrow = true)
    (xt_badrow : PySem.W.typeIn K (.ref C_badrow) = some (.type "type"))
    (xb_badrow : PySem.W.subIn K (.ref C_badrow) (.type "BaseException") = some true)
    (xa_royal : PySem.W.nsIn K mainGlobals "RoyalError" = some (some (.ref C_royal)))
    (xk_royal : PySem.W.keepIn K (.ref C_royal) = true)
    (xd_royal : PySem.W.hasDictIn K C_royal = true)
    (xt_royal : PySem.W.typeIn K (.ref C_royal) = some (.type "type"))
    (xb_royal : PySem.W.subIn K (.ref C_royal) (.type "BaseException") = some true)
    (xe_bf : PySem.W.excIn K C_bf [.type "ValueError", .type "Exception", .type "BaseException", .type "object"] "ValueError.__new__" = true)
    (xv_bf : PySem.W.subIn K (.ref C_bf) (.type "ValueError") = some true)
    (xg_bf : PySem.W.findIn K (.ref C_bf) "__getattribute__" = some (some (.builtin "BaseException.__getattribute__")))
    (xh_bf : PySem.W.findIn K (.ref C_bf) "__getattr__" = some none)
    (xc_bf : PySem.W.findIn K (.ref C_bf) "__class__" = some (some (.builtin "object.__class__")))
    (xm_bf : PySem.W.mroIn K C_bf (.type "object") = some true)
    (xs_bf_bf : PySem.W.subIn K (.ref C_bf) (.ref C_bf) = some true)
    (xs_bf_taken : PySem.W.subIn K (.ref C_bf) (.ref C_taken) = some false)
    (xs_bf_noname : PySem.W.subIn K (.ref C_bf) (.ref C_noname) = some false)
    (xs_bf_toomuch : PySem.W.subIn K (.ref C_bf) (.ref C_toomuch) = some false)
    (xs_bf_norate : PySem.W.subIn K (.ref C_bf) (.ref C_norate) = some false)
    (xs_bf_noneleft : PySem.W.subIn K (.ref C_bf) (.ref C_noneleft) = some false)
    (xs_bf_endless : PySem.W.subIn K (.ref C_bf) (.ref C_endless) = some false)
    (xs_bf_badrow : PySem.W.subIn K (.ref C_bf) (.ref C_badrow) = some false)
    (xs_bf_royal : PySem.W.subIn K (.ref C_bf) (.ref C_royal) = some true)
    (xe_taken : PySem.W.excIn K C_taken [.type "ValueError", .type "Exception", .type "BaseException", .type "object"] "ValueError.__new__" = true)
    (xv_taken : PySem.W.subIn K (.ref C_taken) (.type "ValueError") = some true)
    (xg_taken : PySem.W.findIn K (.ref C_taken) "__getattribute__" = some (some (.builtin "BaseException.__getattribute__")))
    (xh_taken : PySem.W.findIn K (.ref C_taken) "__getattr__" = some none)
    (xc_taken : PySem.W.findIn K (.ref C_taken) "__class__" = some (some (.builtin "object.__class__")))
    (xm_taken : PySem.W.mroIn K C_taken (.type "object") = some true)
    (xs_taken_bf : PySem.W.subIn K (.ref C_taken) (.ref C_bf) = some false)
    (xs_taken_taken : PySem.W.subIn K (.ref C_taken) (.ref C_taken) = some true)
    (xs_taken_noname : PySem.W.subIn K (.ref C_taken) (.ref C_noname) = some false)
    (xs_taken_toomuch : PySem.W.subIn K (.ref C_taken) (.ref C_toomuch) = some false)
    (xs_taken_norate : PySem.W.subIn K (.ref C_taken) (.ref C_norate) = some false)
    (xs_taken_noneleft : PySem.W.subIn K (.ref C_taken) (.ref C_noneleft) = some false)
    (xs_taken_endless : PySem.W.subIn K (.ref C_taken) (.ref C_endless) = some false)
    (xs_taken_badrow : PySem.W.subIn K (.ref C_taken) (.ref C_badrow) = some false)
    (xs_taken_royal : PySem.W.subIn K (.ref C_taken) (.ref C_royal) = some true)
    (xe_noname : PySem.W.excIn K C_noname [.type "ValueError", .type "Exception", .type "BaseException", .type "object"] "ValueError.__new__" = true)
    (xv_noname : PySem.W.subIn K (.ref C_noname) (.type "ValueError") = some true)
    (xg_noname : PySem.W.findIn K (.ref C_noname) "__getattribute__" = some (some (.builtin "BaseException.__getattribute__")))
    (xh_noname : PySem.W.findIn K (.ref C_noname) "__getattr__" = some none)
    (xc_noname : PySem.W.findIn K (.ref C_noname) "__class__" = some (some (.builtin "object.__class__")))
    (xm_noname : PySem.W.mroIn K C_noname (.type "object") = some true)
    (xs_noname_bf : PySem.W.subIn K (.ref C_noname) (.ref C_bf) = some false)
    (xs_noname_taken : PySem.W.subIn K (.ref C_noname) (.ref C_taken) = some false)
    (xs_noname_noname : PySem.W.subIn K (.ref C_noname) (.ref C_noname) = some true)
    (xs_noname_toomuch : PySem.W.subIn K (.ref C_noname) (.ref C_toomuch) = some false)
    (xs_noname_norate : PySem.W.subIn K (.ref C_noname) (.ref C_norate) = some false)
    (xs_noname_noneleft : PySem.W.subIn K (.ref C_noname) (.ref C_noneleft) = some false)
    (xs_noname_endless : PySem.W.subIn K (.ref C_noname) (.ref C_endless) = some false)
    (xs_noname_badrow : PySem.W.subIn K (.ref C_noname) (.ref C_badrow) = some false)
    (xs_noname_royal : PySem.W.subIn K (.ref C_noname) (.ref C_royal) = some true)
    (xe_toomuch : PySem.W.excIn K C_toomuch [.type "ValueError", .type "Exception", .type "BaseException", .type "object"] "ValueError.__new__" = true)
    (xv_toomuch : PySem.W.subIn K (.ref C_toomuch) (.type "ValueError") = some true)
    (xg_toomuch : PySem.W.findIn K (.ref C_toomuch) "__getattribute__" = some (some (.builtin "BaseException.__getattribute__")))
    (xh_toomuch : PySem.W.findIn K (.ref C_toomuch) "__getattr__" = some none)
    (xc_toomuch : PySem.W.findIn K (.ref C_toomuch) "__class__" = some (some (.builtin "object.__class__")))
    (xm_toomuch : PySem.W.mroIn K C_toomuch (.type "object") = some true)
    (xs_toomuch_bf : PySem.W.subIn K (.ref C_toomuch) (.ref C_bf) = some false)
    (xs_toomuch_taken : PySem.W.subIn K (.ref C_toomuch) (.ref C_taken) = some false)
    (xs_toomuch_noname : PySem.W.subIn K (.ref C_toomuch) (.ref C_noname) = some false)
    (xs_toomuch_toomuch : PySem.W.subIn K (.ref C_toomuch) (.ref C_toomuch) = some true)
    (xs_toomuch_norate : PySem.W.subIn K (.ref C_toomuch) (.ref C_norate) = some false)
    (xs_toomuch_noneleft : PySem.W.subIn K (.ref C_toomuch) (.ref C_noneleft) = some false)
    (xs_toomuch_endless : PySem.W.subIn K (.ref C_toomuch) (.ref C_endless) = some false)
    (xs_toomuch_badrow : PySem.W.subIn K (.ref C_toomuch) (.ref C_badrow) = some false)
    (xs_toomuch_royal : PySem.W.subIn K (.ref C_toomuch) (.ref C_royal) = some true)
    (xe_norate : PySem.W.excIn K C_norate [.type "ValueError", .type "Exception", .type "BaseException", .type "object"] "ValueError.__new__" = true)
    (xv_norate : PySem.W.subIn K (.ref C_norate) (.type "ValueError") = some true)
    (xg_norate : PySem.W.findIn K (.ref C_norate) "__getattribute__" = some (some (.builtin "BaseException.__getattribute__")))
    (xh_norate : PySem.W.findIn K (.ref C_norate) "__getattr__" = some none)
    (xc_norate : PySem.W.findIn K (.ref C_norate) "__class__" = some (some (.builtin "object.__class__")))
    (xm_norate : PySem.W.mroIn K C_norate (.type "object") = some true)
    (xs_norate_bf : PySem.W.subIn K (.ref C_norate) (.ref C_bf) = some false)
    (xs_norate_taken : PySem.W.subIn K (.ref C_norate) (.ref C_taken) = some false)
    (xs_norate_noname : PySem.W.subIn K (.ref C_norate) (.ref C_noname) = some false)
    (xs_norate_toomuch : PySem.W.subIn K (.ref C_norate) (.ref C_toomuch) = some false)
    (xs_norate_norate : PySem.W.subIn K (.ref C_norate) (.ref C_norate) = some true)
    (xs_norate_noneleft : PySem.W.subIn K (.ref C_norate) (.ref C_noneleft) = some false)
    (xs_norate_endless : PySem.W.subIn K (.ref C_norate) (.ref C_endless) = some false)
    (xs_norate_badrow : PySem.W.subIn K (.ref C_norate) (.ref C_badrow) = some false)
    (xs_norate_royal : PySem.W.subIn K (.ref C_norate) (.ref C_royal) = some true)
    (xe_noneleft : PySem.W.excIn K C_noneleft [.type "ValueError", .type "Exception", .type "BaseException", .type "object"] "ValueError.__new__" = true)
    (xv_noneleft : PySem.W.subIn K (.ref C_noneleft) (.type "ValueError") = some true)
    (xg_noneleft : PySem.W.findIn K (.ref C_noneleft) "__getattribute__" = some (some (.builtin "BaseException.__getattribute__")))
    (xh_noneleft : PySem.W.findIn K (.ref C_noneleft) "__getattr__" = some none)
    (xc_noneleft : PySem.W.findIn K (.ref C_noneleft) "__class__" = some (some (.builtin "object.__class__")))
    (xm_noneleft : PySem.W.mroIn K C_noneleft (.type "object") = some true)
    (xs_noneleft_bf : PySem.W.subIn K (.ref C_noneleft) (.ref C_bf) = some false)
    (xs_noneleft_taken : PySem.W.subIn K (.ref C_noneleft) (.ref C_taken) = some false)
    (xs_noneleft_noname : PySem.W.subIn K (.ref C_noneleft) (.ref C_noname) = some false)
    (xs_noneleft_toomuch : PySem.W.subIn K (.ref C_noneleft) (.ref C_toomuch) = some false)
    (xs_noneleft_norate : PySem.W.subIn K (.ref C_noneleft) (.ref C_norate) = some false)
    (xs_noneleft_noneleft : PySem.W.subIn K (.ref C_noneleft) (.ref C_noneleft) = some true)
    (xs_noneleft_endless : PySem.W.subIn K (.ref C_noneleft) (.ref C_endless) = some false)
    (xs_noneleft_badrow : PySem.W.subIn K (.ref C_noneleft) (.ref C_badrow) = some false)
    (xs_noneleft_royal : PySem.W.subIn K (.ref C_noneleft) (.ref C_royal) = some true)
    (xn : PySem.W.specialIn K (.builtin "object.__class__") "__get__" = some (some (.builtin "getset_descriptor.__get__")))
    (xq : PySem.W.takesIn K (.builtin "object.__class__") = some true)
    (xs_endless_endless : PySem.W.subIn K (.ref C_endless) (.ref C_endless) = some true)
    (xs_endless_badrow : PySem.W.subIn K (.ref C_endless) (.ref C_badrow) = some false)
    (xga : PySem.W.specialIn K (.ref C_royal) "__getattribute__" = some (some (.builtin "type.__getattribute__"))) (xrd : PySem.W.readsIn K C_royal (.type "type") = true) (xat : PySem.W.findCls K (.ref C_royal) (.type "type") "__init__" = some (.val (.builtin "ValueError.__init__")))
    {fX0 : Addr} {odX0 anX0 : Option Addr} {slX0 : Array (Option Value)} {ocX0 kVX0 dcX0 pmX0 cdX0 ctX0 : Value} {nmX0 qX0 : Str} {NX0 : Addr} {bsX0 bmX0 : List Value} {snX0 : List Str} {subX0 : List Value} {abX0 : Bool} {colX0 : Option Bool} {ddX0 : Option Addr} {k0X0 k1X0 k2X0 k3X0 k5X0 : Option Value}
    (zX0 : K.lookup C_endless = some (excClassObj nmX0 qX0 C_endless NX0 bsX0 bmX0 true snX0 subX0 abX0 colX0 ddX0 k0X0 k1X0 k2X0 k3X0 k5X0 "ValueError.__new__")) (rX0 : PySem.HandSPX.refsVE bmX0 = true) (saX0 : PySem.W.findIn K (.ref C_endless) "__setattr__" = some (some (.builtin "object.__setattr__")))
    (aX0 : PySem.W.findIn K (.ref C_endless) "__init__" = some (some (.ref fX0))) (tX0 : PySem.W.typeIn K (.ref fX0) = some (.type "function")) (lX0 : K.lookup fX0 = some ⟨ocX0, odX0, .func (PySem.W.fnOf "__init__" "Endless.__init__" (defArgs s_Endless___init__) (defBody s_Endless___init__) (defScope s_Endless___init__) .none kVX0 dcX0 pmX0 anX0 cdX0 ctX0), slX0⟩) (cX0 : PySem.W.codeIn K cdX0 "Endless.__init__" = true) (kX0 : PySem.W.keepIn K (.ref fX0) = true)
    {fX1 : Addr} {odX1 anX1 : Option Addr} {slX1 : Array (Option Value)} {ocX1 kVX1 dcX1 pmX1 cdX1 ctX1 : Value} {nmX1 qX1 : Str} {NX1 : Addr} {bsX1 bmX1 : List Value} {snX1 : List Str} {subX1 : List Value} {abX1 : Bool} {colX1 : Option Bool} {ddX1 : Option Addr} {k0X1 k1X1 k2X1 k3X1 k5X1 : Option Value}
    (zX1 : K.lookup C_badrow = some (excClassObj nmX1 qX1 C_badrow NX1 bsX1 bmX1 true snX1 subX1 abX1 colX1 ddX1 k0X1 k1X1 k2X1 k3X1 k5X1 "ValueError.__new__")) (rX1 : PySem.HandSPX.refsVE bmX1 = true) (saX1 : PySem.W.findIn K (.ref C_badrow) "__setattr__" = some (some (.builtin "object.__setattr__")))
    (aX1 : PySem.W.findIn K (.ref C_badrow) "__init__" = some (some (.ref fX1))) (tX1 : PySem.W.typeIn K (.ref fX1) = some (.type "function")) (lX1 : K.lookup fX1 = some ⟨ocX1, odX1, .func (PySem.W.fnOf "__init__" "BadRow.__init__" (defArgs s_BadRow___init__) (defBody s_BadRow___init__) (defScope s_BadRow___init__) .none kVX1 dcX1 pmX1 anX1 cdX1 ctX1), slX1⟩) (cX1 : PySem.W.codeIn K cdX1 "BadRow.__init__" = true) (kX1 : PySem.W.keepIn K (.ref fX1) = true)
    (xv_endless : PySem.W.subIn K (.ref C_endless) (.type "ValueError") = some true)
    (xg_endless : PySem.W.findIn K (.ref C_endless) "__getattribute__" = some (some (.builtin "BaseException.__getattribute__")))
    (xh_endless : PySem.W.findIn K (.ref C_endless) "__getattr__" = some none)
    (xc_endless : PySem.W.findIn K (.ref C_endless) "__class__" = some (some (.builtin "object.__class__")))
    (xm_endless : PySem.W.mroIn K C_endless (.type "object") = some true)
    (xs_endless_bf : PySem.W.subIn K (.ref C_endless) (.ref C_bf) = some false)
    (xs_endless_taken : PySem.W.subIn K (.ref C_endless) (.ref C_taken) = some false)
    (xs_endless_noname : PySem.W.subIn K (.ref C_endless) (.ref C_noname) = some false)
    (xs_endless_toomuch : PySem.W.subIn K (.ref C_endless) (.ref C_toomuch) = some false)
    (xs_endless_norate : PySem.W.subIn K (.ref C_endless) (.ref C_norate) = some false)
    (xs_endless_noneleft : PySem.W.subIn K (.ref C_endless) (.ref C_noneleft) = some false)
    (xs_endless_royal : PySem.W.subIn K (.ref C_endless) (.ref C_royal) = some true)
    (xno_endless : PySem.W.findIn K (.ref C_endless) "names" = some none)
    (xv_badrow : PySem.W.subIn K (.ref C_badrow) (.type "ValueError") = some true)
    (xg_badrow : PySem.W.findIn K (.ref C_badrow) "__getattribute__" = some (some (.builtin "BaseException.__getattribute__")))
    (xh_badrow : PySem.W.findIn K (.ref C_badrow) "__getattr__" = some none)
    (xc_badrow : PySem.W.findIn K (.ref C_badrow) "__class__" = some (some (.builtin "object.__class__")))
    (xm_badrow : PySem.W.mroIn K C_badrow (.type "object") = some true)
    (xs_badrow_bf : PySem.W.subIn K (.ref C_badrow) (.ref C_bf) = some false)
    (xs_badrow_taken : PySem.W.subIn K (.ref C_badrow) (.ref C_taken) = some false)
    (xs_badrow_noname : PySem.W.subIn K (.ref C_badrow) (.ref C_noname) = some false)
    (xs_badrow_toomuch : PySem.W.subIn K (.ref C_badrow) (.ref C_toomuch) = some false)
    (xs_badrow_norate : PySem.W.subIn K (.ref C_badrow) (.ref C_norate) = some false)
    (xs_badrow_noneleft : PySem.W.subIn K (.ref C_badrow) (.ref C_noneleft) = some false)
    (xs_badrow_endless : PySem.W.subIn K (.ref C_badrow) (.ref C_endless) = some false)
    (xs_badrow_badrow : PySem.W.subIn K (.ref C_badrow) (.ref C_badrow) = some true)
    (xs_badrow_royal : PySem.W.subIn K (.ref C_badrow) (.ref C_royal) = some true)
    (xno_badrow : PySem.W.findIn K (.ref C_badrow) "row" = some none)
    (xv_royal : PySem.W.subIn K (.ref C_royal) (.type "ValueError") = some true)
    (xg_royal : PySem.W.findIn K (.ref C_royal) "__getattribute__" = some (some (.builtin "BaseException.__getattribute__")))
    (xh_royal : PySem.W.findIn K (.ref C_royal) "__getattr__" = some none)
    (xc_royal : PySem.W.findIn K (.ref C_royal) "__class__" = some (some (.builtin "object.__class__")))
    (xm_royal : PySem.W.mroIn K C_royal (.type "object") = some true)
    (xs_royal_bf : PySem.W.subIn K (.ref C_royal) (.ref C_bf) = some false)
    (xs_royal_taken : PySem.W.subIn K (.ref C_royal) (.ref C_taken) = some false)
    (xs_royal_noname : PySem.W.subIn K (.ref C_royal) (.ref C_noname) = some false)
    (xs_royal_toomuch : PySem.W.subIn K (.ref C_royal) (.ref C_toomuch) = some false)
    (xs_royal_norate : PySem.W.subIn K (.ref C_royal) (.ref C_norate) = some false)
    (xs_royal_noneleft : PySem.W.subIn K (.ref C_royal) (.ref C_noneleft) = some false)
    (xs_royal_endless : PySem.W.subIn K (.ref C_royal) (.ref C_endless) = some false)
    (xs_royal_badrow : PySem.W.subIn K (.ref C_royal) (.ref C_badrow) = some false)
    (xs_royal_royal : PySem.W.subIn K (.ref C_royal) (.ref C_royal) = some true)
    (xe_royal : PySem.W.excIn K C_royal [.type "ValueError", .type "Exception", .type "BaseException", .type "object"] "ValueError.__new__" = true)
    : ∃ fd : FuncData, (∀ (s : Shared) (v : Value), BindsTo s fd ⟨[v], []⟩ [("_law_script", v)]) ∧ ∀ base : Heap, K.In base → base.Ns mainGlobals mg → FnOk l.prog w K mg base CX0 9 fa fd ["_law_script"] (upF 1 K sp_law) := by
  have e := hfa.symm.trans (PySem.W.mg_of X G a6)
  cases e
  have B : Blt mg := ⟨PySem.W.mg_none_of X G z0, PySem.W.mg_none_of X G z1, PySem.W.mg_none_of X G z2, PySem.W.mg_none_of X G z3, PySem.W.mg_none_of X G z4, PySem.W.mg_none_of X G z5, PySem.W.mg_none_of X G z6, PySem.W.mg_none_of X G z7, PySem.W.mg_none_of X G z8, PySem.W.mg_none_of X G z9, PySem.W.mg_none_of X G z10, PySem.W.mg_none_of X G z11, PySem.W.mg_none_of X G z12, PySem.W.mg_none_of X G z13, PySem.W.mg_none_of X G z14, PySem.W.mg_none_of X G z15, PySem.W.mg_none_of X G z16, PySem.W.mg_none_of X G z17⟩
  obtain ⟨Xf, XX⟩ := xfk_mk (PySem.W.mg_of X G xa_bf) xk_bf xd_bf xt_bf xb_bf (PySem.W.mg_of X G xa_taken) xk_taken xd_taken xt_taken xb_taken (PySem.W.mg_of X G xa_noname) xk_noname xd_noname xt_noname xb_noname (PySem.W.mg_of X G xa_toomuch) xk_toomuch xd_toomuch xt_toomuch xb_toomuch (PySem.W.mg_of X G xa_norate) xk_norate xd_norate xt_norate xb_norate (PySem.W.mg_of X G xa_noneleft) xk_noneleft xd_noneleft xt_noneleft xb_noneleft (PySem.W.mg_of X G xa_endless) xk_endless xd_endless xt_endless xb_endless (PySem.W.mg_of X G xa_badrow) xk_badrow xd_badrow xt_badrow xb_badrow (PySem.W.mg_of X G xa_royal) xk_royal xd_royal xt_royal xb_royal xe_bf xv_bf xg_bf xh_bf xc_bf xm_bf xs_bf_bf xs_bf_taken xs_bf_noname xs_bf_toomuch xs_bf_norate xs_bf_noneleft xs_bf_endless xs_bf_badrow xs_bf_royal xe_taken xv_taken xg_taken xh_taken xc_taken xm_taken xs_taken_bf xs_taken_taken xs_taken_noname xs_taken_toomuch xs_taken_norate xs_taken_noneleft xs_taken_endless xs_taken_badrow xs_taken_royal xe_noname xv_noname xg_noname xh_noname xc_noname xm_noname xs_noname_bf xs_noname_taken xs_noname_noname xs_noname_toomuch xs_noname_norate xs_noname_noneleft xs_noname_endless xs_noname_badrow xs_noname_royal xe_toomuch xv_toomuch xg_toomuch xh_toomuch xc_toomuch xm_toomuch xs_toomuch_bf xs_toomuch_taken xs_toomuch_noname xs_toomuch_toomuch xs_toomuch_norate xs_toomuch_noneleft xs_toomuch_endless xs_toomuch_badrow xs_toomuch_royal xe_norate xv_norate xg_norate xh_norate xc_norate xm_norate xs_norate_bf xs_norate_taken xs_norate_noname xs_norate_toomuch xs_norate_norate xs_norate_noneleft xs_norate_endless xs_norate_badrow xs_norate_royal xe_noneleft xv_noneleft xg_noneleft xh_noneleft xc_noneleft xm_noneleft xs_noneleft_bf xs_noneleft_taken xs_noneleft_noname xs_noneleft_toomuch xs_noneleft_norate xs_noneleft_noneleft xs_noneleft_endless xs_noneleft_badrow xs_noneleft_royal xn xq xs_endless_endless xs_endless_badrow
  have U0 := fun_mk (st := s__law_begin) l0 c0 k0
  have T0 : DefAt K mg "_law_begin" s__law_begin ["_law_script"] := ⟨_, _, U0, PySem.W.mg_of X G a0, U0.binds (ps := ["_law_script"]) fun _ _ _ _ _ _ us hl => match us, hl with | [_], _ => rfl⟩
  have U1 := fun_mk (st := s__law_take) l1 c1 k1
  have T1 : DefAt K mg "_law_take" s__law_take ["_law_state", "_law_many"] := ⟨_, _, U1, PySem.W.mg_of X G a1, U1.binds (ps := ["_law_state", "_law_many"]) fun _ _ _ _ _ _ us hl => match us, hl with | [_, _], _ => rfl⟩
  have U2 := fun_mk (st := s__law_names) l2 c2 k2
  have T2 : DefAt K mg "_law_names" s__law_names ["_law_state", "_law_many"] := ⟨_, _, U2, PySem.W.mg_of X G a2, U2.binds (ps := ["_law_state", "_law_many"]) fun _ _ _ _ _ _ us hl => match us, hl with | [_, _], _ => rfl⟩
  have U3 := fun_mk (st := s__law_made) l3 c3 k3
  have T3 : DefAt K mg "_law_made" s__law_made ["_law_state", "_law_which"] := ⟨_, _, U3, PySem.W.mg_of X G a3, U3.binds (ps := ["_law_state", "_law_which"]) fun _ _ _ _ _ _ us hl => match us, hl with | [_, _], _ => rfl⟩
  have U4 := fun_mk (st := s__law_fits) l4 c4 k4
  have T4 : DefAt K mg "_law_fits" s__law_fits ["_law_error"] := ⟨_, _, U4, PySem.W.mg_of X G a4, U4.binds (ps := ["_law_error"]) fun _ _ _ _ _ _ us hl => match us, hl with | [_], _ => rfl⟩
  have U5 := fun_mk (st := s__law_same) l5 c5 k5
  have T5 : DefAt K mg "_law_same" s__law_same ["_law_found", "_law_due"] := ⟨_, _, U5, PySem.W.mg_of X G a5, U5.binds (ps := ["_law_found", "_law_due"]) fun _ _ _ _ _ _ us hl => match us, hl with | [_, _], _ => rfl⟩
  have U6 := fun_mk (st := s_law) l6 c6 k6
  refine ⟨PySem.W.fnOf "law" "law" (defArgs s_law) (defBody s_law) (defScope s_law) .none kV6 dc6 pm6 an6 cd6 ct6, fun s v => .of_eq rfl, fun base _ _ => ?_⟩
  have EKX0 : EndK l.prog w K mg base C_endless := ⟨oex_mk zX0 rX0 saX0 xb_endless xt_endless xk_endless, xno_endless, PySem.W.mg_of X G xa_endless, _, _, aX0, tX0, fn_endless (fun_mk (st := s_Endless___init__) lX0 cX0 kX0) ⟨PySem.W.mg_of X G xa_royal, xga, xt_royal, xrd, xat⟩, (fun_mk (st := s_Endless___init__) lX0 cX0 kX0).binds (ps := ["self", "names"]) fun _ _ _ _ _ _ us hl => match us, hl with | [_, _], _ => rfl⟩
  have EKX1 : BadK l.prog w K mg base C_badrow := ⟨oex_mk zX1 rX1 saX1 xb_badrow xt_badrow xk_badrow, xno_badrow, PySem.W.mg_of X G xa_badrow, _, _, aX1, tX1, fn_badrow (fun_mk (st := s_BadRow___init__) lX1 cX1 kX1) ⟨PySem.W.mg_of X G xa_royal, xga, xt_royal, xrd, xat⟩ B.str_, (fun_mk (st := s_BadRow___init__) lX1 cX1 kX1).binds (ps := ["self", "row"]) fun _ _ _ _ _ _ us hl => match us, hl with | [_, _], _ => rfl⟩
  have EA : ExA l.prog w K mg base Xf := exA_mk XX (PySem.W.mg_of X G xa_bf) xk_bf xd_bf xt_bf xb_bf (PySem.W.mg_of X G xa_taken) xk_taken xd_taken xt_taken xb_taken (PySem.W.mg_of X G xa_noname) xk_noname xd_noname xt_noname xb_noname (PySem.W.mg_of X G xa_toomuch) xk_toomuch xd_toomuch xt_toomuch xb_toomuch (PySem.W.mg_of X G xa_norate) xk_norate xd_norate xt_norate xb_norate (PySem.W.mg_of X G xa_noneleft) xk_noneleft xd_noneleft xt_noneleft xb_noneleft (PySem.W.mg_of X G xa_endless) xk_endless xd_endless xt_endless xb_endless (PySem.W.mg_of X G xa_badrow) xk_badrow xd_badrow xt_badrow xb_badrow (PySem.W.mg_of X G xa_royal) xk_royal xd_royal xt_royal xb_royal xn xq xv_endless xg_endless xh_endless xc_endless xm_endless xs_endless_bf xs_endless_taken xs_endless_noname xs_endless_toomuch xs_endless_norate xs_endless_noneleft xs_endless_endless xs_endless_badrow xs_endless_royal xno_endless xv_badrow xg_badrow xh_badrow xc_badrow xm_badrow xs_badrow_bf xs_badrow_taken xs_badrow_noname xs_badrow_toomuch xs_badrow_norate xs_badrow_noneleft xs_badrow_endless xs_badrow_badrow xs_badrow_royal xno_badrow xv_royal xg_royal xh_royal xc_royal xm_royal xs_royal_bf xs_royal_taken xs_royal_noname xs_royal_toomuch xs_royal_norate xs_royal_noneleft xs_royal_endless xs_royal_badrow xs_royal_royal xe_royal EKX0 EKX1
  have R0 : FnAt l.prog w K mg base CX0 1 "_law_begin" 1 sp__law_begin := ok__law_begin T0 B 
  have R1 : FnAt l.prog w K mg base CX0 1 "_law_take" 2 sp__law_take := ok__law_take T1 B 
  have R2 : FnAt l.prog w K mg base CX0 2 "_law_names" 2 sp__law_names := ok__law_names T2 B R1
  have R3 : FnAt l.prog w K mg base CX0 3 "_law_made" 2 (sp__law_made Xf) := ok__law_made T3 B XX EA R1 R2
  have R4 : FnAt l.prog w K mg base CX0 3 "_law_fits" 1 (sp__law_fits Xf) := ok__law_fits T4 B XX EA
  have R5 : FnAt l.prog w K mg base CX0 8 "_law_same" 2 sp__law_same := ok__law_same T5 B 
  exact ok_law U6 B XX EA R0 R3 R4 R5 (PySem.W.mg_none_of X G y0)
end LW

open PySem PySem.W PyProof.Rows
set_option maxHeartbeats 0 in
theorem PySem.Challenge.cw_royaltree_k53_refusals_stand_apart_holds : PySem.Challenge.rw_royaltree_k53_refusals_stand_apart.Holds := by
  w_on; o_law; k_head; (case hw => w_witness2)
  k_fill
  refine L2.walk_of (l := PySem.Challenge.rw_royaltree_k53_refusals_stand_apart) (n := 63) (k := 9) (x := "_law_script") (CX := fun _ => L2.CX0) (sp := fun w => DL.upF 1 _ LW.sp_law) rfl (by decide) rfl ⟨rfl, by decide, by decide⟩ (fun w h Y => PySem.W.kIn_of Y) ?F (fun _ _ a ns hl _ hS => DL.law_start hl hS) (fun _ _ _ _ _ h => h)
  case F =>
    intro w mg fa h KX G hmg
    refine' LW.all_mk KX G hmg ?a0 ?l0 ?c0 ?k0 ?a1 ?l1 ?c1 ?k1 ?a2 ?l2 ?c2 ?k2 ?a3 ?l3 ?c3 ?k3 ?a4 ?l4 ?c4 ?k4 ?a5 ?l5 ?c5 ?k5 ?a6 ?l6 ?c6 ?k6 ?z0 ?z1 ?z2 ?z3 ?z4 ?z5 ?z6 ?z7 ?z8 ?z9 ?z10 ?z11 ?z12 ?z13 ?z14 ?z15 ?z16 ?z17 ?y0 ?xa_bf ?xk_bf ?xd_bf ?xt_bf ?xb_bf ?xa_taken ?xk_taken ?xd_taken ?xt_taken ?xb_taken ?xa_noname ?xk_noname ?xd_noname ?xt_noname ?xb_noname ?xa_toomuch ?xk_toomuch ?xd_toomuch ?xt_toomuch ?xb_toomuch ?xa_norate ?xk_norate ?xd_norate ?xt_norate ?xb_norate ?xa_noneleft ?xk_noneleft ?xd_noneleft ?xt_noneleft ?xb_noneleft ?xa_endless ?xk_endless ?xd_endless ?xt_endless ?xb_endless ?xa_badrow ?xk_badrow ?xd_badrow ?xt_badrow ?xb_badrow ?xa_royal ?xk_royal ?xd_royal ?xt_royal ?xb_royal ?xe_bf ?xv_bf ?xg_bf ?xh_bf ?xc_bf ?xm_bf ?xs_bf_bf ?xs_bf_taken ?xs_bf_noname ?xs_bf_toomuch ?xs_bf_norate ?xs_bf_noneleft ?xs_bf_endless ?xs_bf_badrow ?xs_bf_royal ?xe_taken ?xv_taken ?xg_taken ?xh_taken ?xc_taken ?xm_taken ?xs_taken_bf ?xs_taken_taken ?xs_taken_noname ?xs_taken_toomuch ?xs_taken_norate ?xs_taken_noneleft ?xs_taken_endless ?xs_taken_badrow ?xs_taken_royal ?xe_noname ?xv_noname ?xg_noname ?xh_noname ?xc_noname ?xm_noname ?xs_noname_bf ?xs_noname_taken ?xs_noname_noname ?xs_noname_toomuch ?xs_noname_norate ?xs_noname_noneleft ?xs_noname_endless ?xs_noname_badrow ?xs_noname_royal ?xe_toomuch ?xv_toomuch ?xg_toomuch ?xh_toomuch ?xc_toomuch ?xm_toomuch ?xs_toomuch_bf ?xs_toomuch_taken ?xs_toomuch_noname ?xs_toomuch_toomuch ?xs_toomuch_norate ?xs_toomuch_noneleft ?xs_toomuch_endless ?xs_toomuch_badrow ?xs_toomuch_royal ?xe_norate ?xv_norate ?xg_norate ?xh_norate ?xc_norate ?xm_norate ?xs_norate_bf ?xs_norate_taken ?xs_norate_noname ?xs_norate_toomuch ?xs_norate_norate ?xs_norate_noneleft ?xs_norate_endless ?xs_norate_badrow ?xs_norate_royal ?xe_noneleft ?xv_noneleft ?xg_noneleft ?xh_noneleft ?xc_noneleft ?xm_noneleft ?xs_noneleft_bf ?xs_noneleft_taken ?xs_noneleft_noname ?xs_noneleft_toomuch ?xs_noneleft_norate ?xs_noneleft_noneleft ?xs_noneleft_endless ?xs_noneleft_badrow ?xs_noneleft_royal ?xn ?xq ?xs_endless_endless ?xs_endless_badrow ?xga ?xrd ?xat ?zX0 ?rX0 ?saX0 ?aX0 ?tX0 ?lX0 ?cX0 ?kX0 ?zX1 ?rX1 ?saX1 ?aX1 ?tX1 ?lX1 ?cX1 ?kX1 ?xv_endless ?xg_endless ?xh_endless ?xc_endless ?xm_endless ?xs_endless_bf ?xs_endless_taken ?xs_endless_noname ?xs_endless_toomuch ?xs_endless_norate ?xs_endless_noneleft ?xs_endless_royal ?xno_endless ?xv_badrow ?xg_badrow ?xh_badrow ?xc_badrow ?xm_badrow ?xs_badrow_bf ?xs_badrow_taken ?xs_badrow_noname ?xs_badrow_toomuch ?xs_badrow_norate ?xs_badrow_noneleft ?xs_badrow_endless ?xs_badrow_badrow ?xs_badrow_royal ?xno_badrow ?xv_royal ?xg_royal ?xh_royal ?xc_royal ?xm_royal ?xs_royal_bf ?xs_royal_taken ?xs_royal_noname ?xs_royal_toomuch ?xs_royal_norate ?xs_royal_noneleft ?xs_royal_endless ?xs_royal_badrow ?xs_royal_royal ?xe_royal
    (case a0 => k_is); (case l0 => k_is); (case c0 => k_is); (case k0 => k_is); (case a1 => k_is); (case l1 => k_is); (case c1 => k_is); (case k1 => k_is); (case a2 => k_is); (case l2 => k_is); (case c2 => k_is); (case k2 => k_is); (case a3 => k_is); (case l3 => k_is); (case c3 => k_is); (case k3 => k_is); (case a4 => k_is); (case l4 => k_is); (case c4 => k_is); (case k4 => k_is); (case a5 => k_is); (case l5 => k_is); (case c5 => k_is); (case k5 => k_is); (case a6 => k_is); (case l6 => k_is); (case c6 => k_is); (case k6 => k_is); (case z0 => k_is); (case z1 => k_is); (case z2 => k_is); (case z3 => k_is); (case z4 => k_is); (case z5 => k_is); (case z6 => k_is); (case z7 => k_is); (case z8 => k_is); (case z9 => k_is); (case z10 => k_is); (case z11 => k_is); (case z12 => k_is); (case z13 => k_is); (case z14 => k_is); (case z15 => k_is); (case z16 => k_is); (case z17 => k_is); (case y0 => k_is); (case xa_bf => k_is); (case xk_bf => k_is); (case xd_bf => k_is); (case xt_bf => k_is); (case xb_bf => k_is); (case xa_taken => k_is); (case xk_taken => k_is); (case xd_taken => k_is); (case xt_taken => k_is); (case xb_taken => k_is); (case xa_noname => k_is); (case xk_noname => k_is); (case xd_noname => k_is); (case xt_noname => k_is); (case xb_noname => k_is); (case xa_toomuch => k_is); (case xk_toomuch => k_is); (case xd_toomuch => k_is); (case xt_toomuch => k_is); (case xb_toomuch => k_is); (case xa_norate => k_is); (case xk_norate => k_is); (case xd_norate => k_is); (case xt_norate => k_is); (case xb_norate => k_is); (case xa_noneleft => k_is); (case xk_noneleft => k_is); (case xd_noneleft => k_is); (case xt_noneleft => k_is); (case xb_noneleft => k_is); (case xa_endless => k_is); (case xk_endless => k_is); (case xd_endless => k_is); (case xt_endless => k_is); (case xb_endless => k_is); (case xa_badrow => k_is); (case xk_badrow => k_is); (case xd_badrow => k_is); (case xt_badrow => k_is); (case xb_badrow => k_is); (case xa_royal => k_is); (case xk_royal => k_is); (case xd_royal => k_is); (case xt_royal => k_is); (case xb_royal => k_is); (case xe_bf => kernel_rfl); (case xv_bf => k_is); (case xg_bf => k_is); (case xh_bf => k_is); (case xc_bf => k_is); (case xm_bf => k_is); (case xs_bf_bf => k_is); (case xs_bf_taken => k_is); (case xs_bf_noname => k_is); (case xs_bf_toomuch => k_is); (case xs_bf_norate => k_is); (case xs_bf_noneleft => k_is); (case xs_bf_endless => k_is); (case xs_bf_badrow => k_is); (case xs_bf_royal => k_is); (case xe_taken => kernel_rfl); (case xv_taken => k_is); (case xg_taken => k_is); (case xh_taken => k_is); (case xc_taken => k_is); (case xm_taken => k_is); (case xs_taken_bf => k_is); (case xs_taken_taken => k_is); (case xs_taken_noname => k_is); (case xs_taken_toomuch => k_is); (case xs_taken_norate => k_is); (case xs_taken_noneleft => k_is); (case xs_taken_endless => k_is); (case xs_taken_badrow => k_is); (case xs_taken_royal => k_is); (case xe_noname => kernel_rfl); (case xv_noname => k_is); (case xg_noname => k_is); (case xh_noname => k_is); (case xc_noname => k_is); (case xm_noname => k_is); (case xs_noname_bf => k_is); (case xs_noname_taken => k_is); (case xs_noname_noname => k_is); (case xs_noname_toomuch => k_is); (case xs_noname_norate => k_is); (case xs_noname_noneleft => k_is); (case xs_noname_endless => k_is); (case xs_noname_badrow => k_is); (case xs_noname_royal => k_is); (case xe_toomuch => kernel_rfl); (case xv_toomuch => k_is); (case xg_toomuch => k_is); (case xh_toomuch => k_is); (case xc_toomuch => k_is); (case xm_toomuch => k_is); (case xs_toomuch_bf => k_is); (case xs_toomuch_taken => k_is); (case xs_toomuch_noname => k_is); (case xs_toomuch_toomuch => k_is); (case xs_toomuch_norate => k_is); (case xs_toomuch_noneleft => k_is); (case xs_toomuch_endless => k_is); (case xs_toomuch_badrow => k_is); (case xs_toomuch_royal => k_is); (case xe_norate => kernel_rfl); (case xv_norate => k_is); (case xg_norate => k_is); (case xh_norate => k_is); (case xc_norate => k_is); (case xm_norate => k_is); (case xs_norate_bf => k_is); (case xs_norate_taken => k_is); (case xs_norate_noname => k_is); (case xs_norate_toomuch => k_is); (case xs_norate_norate => k_is); (case xs_norate_noneleft => k_is); (case xs_norate_endless => k_is); (case xs_norate_badrow => k_is); (case xs_norate_royal => k_is); (case xe_noneleft => kernel_rfl); (case xv_noneleft => k_is); (case xg_noneleft => k_is); (case xh_noneleft => k_is); (case xc_noneleft => k_is); (case xm_noneleft => k_is); (case xs_noneleft_bf => k_is); (case xs_noneleft_taken => k_is); (case xs_noneleft_noname => k_is); (case xs_noneleft_toomuch => k_is); (case xs_noneleft_norate => k_is); (case xs_noneleft_noneleft => k_is); (case xs_noneleft_endless => k_is); (case xs_noneleft_badrow => k_is); (case xs_noneleft_royal => k_is); (case xn => k_is); (case xq => k_is); (case xs_endless_endless => k_is); (case xs_endless_badrow => k_is); (case xga => k_is); (case xrd => k_is); (case xat => k_is); (case zX0 => k_is); (case rX0 => kernel_rfl); (case saX0 => k_is); (case aX0 => k_is); (case tX0 => k_is); (case lX0 => k_is); (case cX0 => k_is); (case kX0 => k_is); (case zX1 => k_is); (case rX1 => kernel_rfl); (case saX1 => k_is); (case aX1 => k_is); (case tX1 => k_is); (case lX1 => k_is); (case cX1 => k_is); (case kX1 => k_is); (case xv_endless => k_is); (case xg_endless => k_is); (case xh_endless => k_is); (case xc_endless => k_is); (case xm_endless => k_is); (case xs_endless_bf => k_is); (case xs_endless_taken => k_is); (case xs_endless_noname => k_is); (case xs_endless_toomuch => k_is); (case xs_endless_norate => k_is); (case xs_endless_noneleft => k_is); (case xs_endless_royal => k_is); (case xno_endless => k_is); (case xv_badrow => k_is); (case xg_badrow => k_is); (case xh_badrow => k_is); (case xc_badrow => k_is); (case xm_badrow => k_is); (case xs_badrow_bf => k_is); (case xs_badrow_taken => k_is); (case xs_badrow_noname => k_is); (case xs_badrow_toomuch => k_is); (case xs_badrow_norate => k_is); (case xs_badrow_noneleft => k_is); (case xs_badrow_endless => k_is); (case xs_badrow_badrow => k_is); (case xs_badrow_royal => k_is); (case xno_badrow => k_is); (case xv_royal => k_is); (case xg_royal => k_is); (case xh_royal => k_is); (case xc_royal => k_is); (case xm_royal => k_is); (case xs_royal_bf => k_is); (case xs_royal_taken => k_is); (case xs_royal_noname => k_is); (case xs_royal_toomuch => k_is); (case xs_royal_norate => k_is); (case xs_royal_noneleft => k_is); (case xs_royal_endless => k_is); (case xs_royal_badrow => k_is); (case xs_royal_royal => k_is); (case xe_royal => kernel_rfl)


