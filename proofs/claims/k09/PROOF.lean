import PyProof.Rows.All
import Wide.All
import OpenK.AllK
import Wide.FinOn
import HandS.ForMost
import HandS.IsInst
import HandS.Wide
import HandS.WideBits
import HandS.Zip
import HandS.Style
import HandS.TupAny
import HandS.List
import HandS.Text
import HandS.SetFor
import HandS.Dict
import HandS.SetKeys
import HandS.Small
import HandS.More
import PySem.Challenge.RW_royaltree_k09_what_waits
set_option Elab.async false
set_option linter.all false
set_option maxRecDepth 100000
namespace DL
open PySem PySem.Spec PyProof.Rows L2

/-! ### data -/
inductive D where
  | non | bl (b : Bool) | int (i : Int) | str (x : Str)
  | lst (xs : List D) | tup (xs : List D)
  | rf (i : Nat) | st | ob (v : V) | scr (ns : List Int)

/-- what stands at a place that may change -/
inductive Cell where
  | dead | lst (xs : List D) | dk (kvs : List (Key × D)) | ins (C : Addr) (fs : List (Str × D))

structure Wd where
  M : List Cell
  n : Option Nat

structure Gh where
  al : List Addr
  st : Option (Addr × Addr)
  fr : List (Addr × HO)

def isOb : V → Bool
  | .ty _ => true
  | .ref _ => true
  | _ => false

mutual
inductive Rep (K : PySem.W.Frag) (G : Gh) (S : Hp) : V → D → Prop
  | non : Rep K G S .non .non
  | bl (b : Bool) : Rep K G S (.bl b) (.bl b)
  | int (i : Int) : Rep K G S (.int i) (.int i)
  | str (x : Str) : Rep K G S (.str x) (.str x)
  | lst {a : Addr} {xs : List V} {ds : List D} : S a = some (.lst xs) → RepAll K G S xs ds → Rep K G S (.ref a) (.lst ds)
  | tup {a : Addr} {xs : List V} {ds : List D} : S a = some (.tup xs) → RepAll K G S xs ds → Rep K G S (.ref a) (.tup ds)
  | rf {a : Addr} {i : Nat} : G.al[i]? = some a → Rep K G S (.ref a) (.rf i)
  | st {a c : Addr} : G.st = some (a, c) → Rep K G S (.ref a) .st
  | ob {v : V} : isOb v = true → Rep K G S v (.ob v)
  | scr {a : Addr} {ns : List Int} : SqL K S a (ns.map V.int) → Rep K G S (.ref a) (.scr ns)
inductive RepAll (K : PySem.W.Frag) (G : Gh) (S : Hp) : List V → List D → Prop
  | nil : RepAll K G S [] []
  | cons {v : V} {vs : List V} {d : D} {ds : List D} : Rep K G S v d → RepAll K G S vs ds → RepAll K G S (v :: vs) (d :: ds)
end

structure Ext (G : Gh) (S : Hp) (G' : Gh) (S' : Hp) : Prop where
  al : ∃ r, G'.al = G.al ++ r
  st : ∀ p, G.st = some p → G'.st = some p
  fr : ∀ p ∈ G.fr, p ∈ G'.fr
  same : Same S S'
theorem Ext.refl (G : Gh) (S : Hp) : Ext G S G S := ⟨⟨[], by simp⟩, fun _ h => h, fun _ h => h, Same.refl S⟩
theorem Ext.trans {G G1 G2 : Gh} {S S1 S2 : Hp} (a : Ext G S G1 S1) (b : Ext G1 S1 G2 S2) : Ext G S G2 S2 := by
  obtain ⟨r1, e1⟩ := a.al
  obtain ⟨r2, e2⟩ := b.al
  exact ⟨⟨r1 ++ r2, by rw [e2, e1, List.append_assoc]⟩, fun p h => b.st p (a.st p h), fun p h => b.fr p (a.fr p h), a.same.trans b.same⟩
theorem Ext.alGet {G G' : Gh} {S S' : Hp} (x : Ext G S G' S') {i : Nat} {a : Addr} (h : G.al[i]? = some a) : G'.al[i]? = some a := by
  obtain ⟨r, e⟩ := x.al
  rw [e, List.getElem?_append_left (List.getElem?_eq_some_iff.mp h).1]
  exact h

section
variable {K : PySem.W.Frag} {G G' : Gh} {S S' : Hp}
mutual
theorem Rep.mono (x : Ext G S G' S') : ∀ {v : V} {d : D}, Rep K G S v d → Rep K G' S' v d
  | _, _, .non => .non
  | _, _, .bl b => .bl b
  | _, _, .int i => .int i
  | _, _, .str i => .str i
  | _, _, .lst h r => .lst (x.same _ _ h) (RepAll.mono x r)
  | _, _, .tup h r => .tup (x.same _ _ h) (RepAll.mono x r)
  | _, _, .rf h => .rf (x.alGet h)
  | _, _, .st h => .st (x.st _ h)
  | _, _, .ob h => .ob h
  | _, _, .scr h => .scr (x.same.seq h)
theorem RepAll.mono (x : Ext G S G' S') : ∀ {v : List V} {d : List D}, RepAll K G S v d → RepAll K G' S' v d
  | _, _, .nil => .nil
  | _, _, .cons h r => .cons (Rep.mono x h) (RepAll.mono x r)
end
theorem RepAll.length : ∀ {vs : List V} {ds : List D}, RepAll K G S vs ds → vs.length = ds.length
  | _, _, .nil => rfl
  | _, _, .cons _ r => congrArg (· + 1) (RepAll.length r)
theorem RepAll.get : ∀ {vs : List V} {ds : List D} {i : Nat} {d : D}, RepAll K G S vs ds → ds[i]? = some d → ∃ v, vs[i]? = some v ∧ Rep K G S v d
  | _, _, _, _, .nil, h => by simp at h
  | _, _, 0, _, .cons h _, e => by
    simp at e
    subst e
    exact ⟨_, rfl, h⟩
  | _, _, i + 1, d, .cons _ r, e => by
    obtain ⟨v, h1, h2⟩ := RepAll.get (i := i) (d := d) r (by simpa using e)
    exact ⟨v, by simpa using h1, h2⟩
theorem RepAll.getV : ∀ {vs : List V} {ds : List D} {i : Nat} {v : V}, RepAll K G S vs ds → vs[i]? = some v → ∃ d, ds[i]? = some d ∧ Rep K G S v d
  | _, _, _, _, .nil, h => by simp at h
  | _, _, 0, _, .cons h _, e => by
    simp at e
    subst e
    exact ⟨_, rfl, h⟩
  | _, _, i + 1, d, .cons _ r, e => by
    obtain ⟨v, h1, h2⟩ := RepAll.getV (i := i) (v := d) r (by simpa using e)
    exact ⟨v, by simpa using h1, h2⟩
theorem RepAll.append : ∀ {vs ws : List V} {ds es : List D}, RepAll K G S vs ds → RepAll K G S ws es → RepAll K G S (vs ++ ws) (ds ++ es)
  | _, _, _, _, .nil, h => h
  | _, _, _, _, .cons h r, q => .cons h (RepAll.append r q)
theorem RepAll.set {v : V} {d : D} (h : Rep K G S v d) : ∀ {vs : List V} {ds : List D} (i : Nat), RepAll K G S vs ds → RepAll K G S (vs.set i v) (ds.set i d)
  | _, _, _, .nil => .nil
  | _, _, 0, .cons _ r => .cons h r
  | _, _, i + 1, .cons q r => .cons q (RepAll.set h i r)
theorem RepAll.drop : ∀ {vs : List V} {ds : List D} (i : Nat), RepAll K G S vs ds → RepAll K G S (vs.drop i) (ds.drop i)
  | _, _, 0, h => h
  | _, _, _ + 1, .nil => .nil
  | _, _, i + 1, .cons _ r => RepAll.drop i r
theorem RepAll.take : ∀ {vs : List V} {ds : List D} (i : Nat), RepAll K G S vs ds → RepAll K G S (vs.take i) (ds.take i)
  | _, _, 0, _ => .nil
  | _, _, _ + 1, .nil => .nil
  | _, _, i + 1, .cons h r => .cons h (RepAll.take i r)
theorem RepAll.eraseIdx : ∀ {vs : List V} {ds : List D} (i : Nat), RepAll K G S vs ds → RepAll K G S (vs.eraseIdx i) (ds.eraseIdx i)
  | _, _, _, .nil => .nil
  | _, _, 0, .cons _ r => r
  | _, _, i + 1, .cons h r => .cons h (RepAll.eraseIdx i r)
theorem RepAll.reverse {vs : List V} {ds : List D} (h : RepAll K G S vs ds) : RepAll K G S vs.reverse ds.reverse := by
  induction h using RepAll.rec (motive_1 := fun _ _ _ => True) with
  | nil => exact .nil
  | cons h r _ ih =>
    rw [List.reverse_cons, List.reverse_cons]
    exact RepAll.append ih (.cons h .nil)
  | _ => trivial
end

section
variable {K : PySem.W.Frag} {S : Hp} {al : List Addr} {st : Option (Addr × Addr)} {f f' : List (Addr × HO)}
mutual
theorem Rep.refr : ∀ {v : V} {d : D}, Rep K ⟨al, st, f⟩ S v d → Rep K ⟨al, st, f'⟩ S v d
  | _, _, .non => .non
  | _, _, .bl b => .bl b
  | _, _, .int i => .int i
  | _, _, .str i => .str i
  | _, _, .lst h r => .lst h (RepAll.refr r)
  | _, _, .tup h r => .tup h (RepAll.refr r)
  | _, _, .rf h => .rf h
  | _, _, .st h => .st h
  | _, _, .ob h => .ob h
  | _, _, .scr h => .scr h
theorem RepAll.refr : ∀ {v : List V} {d : List D}, RepAll K ⟨al, st, f⟩ S v d → RepAll K ⟨al, st, f'⟩ S v d
  | _, _, .nil => .nil
  | _, _, .cons h r => .cons (Rep.refr h) (RepAll.refr r)
end
end

/-! ### the heap behind the data -/
def FsRep (K : PySem.W.Frag) (G : Gh) (S : Hp) {κ : Type} : List (κ × V) → List (κ × D) → Prop := Paired fun p q => p.1 = q.1 ∧ Rep K G S p.2 q.2
def CellOk (K : PySem.W.Frag) (G : Gh) (S H : Hp) (a : Addr) : Cell → Prop
  | .dead => H a ≠ none
  | .lst ds => S a = none ∧ ∃ xs, H a = some (.lst xs) ∧ RepAll K G S xs ds
  | .dk kvs => S a = none ∧ ∃ ks, H a = some (.dK ks) ∧ FsRep K G S ks kvs
  | .ins C fs => S a = none ∧ ∃ dx gs, H a = some (.ins C dx gs) ∧ FsRep K G S gs fs
theorem CellOk.some {K : PySem.W.Frag} {G : Gh} {S H : Hp} {a : Addr} {c : Cell} (h : CellOk K G S H a c) : H a ≠ none := by
  cases c with
  | dead => exact h
  | lst ds => obtain ⟨_, xs, e, _⟩ := h; rw [e]; exact fun z => nomatch z
  | dk ds => obtain ⟨_, xs, e, _⟩ := h; rw [e]; exact fun z => nomatch z
  | ins C ds => obtain ⟨_, xs, _, e, _⟩ := h; rw [e]; exact fun z => nomatch z

/-- the law's own drawing state -/
def StOk (G : Gh) (S : Hp) (n : Option Nat) (H : Hp) : Prop := (n = none → G.st = none) ∧ ∀ a c, G.st = some (a, c) → S a = none ∧ S c = none ∧ a ≠ c ∧ a ∉ G.al ∧ c ∉ G.al ∧ (∀ p ∈ G.fr, p.1 ≠ a ∧ p.1 ≠ c) ∧
  ∃ (cells : List Int) (turn : Int), H a = some (.dK [(.inr "cells", .ref c), (.inr "turn", .int turn)]) ∧ H c = some (.lst (cells.map V.int)) ∧ cells ≠ [] ∧ cells.length ≤ 63 ∧ 0 ≤ turn ∧ turn + (n.getD 0 : Nat) ≤ 1000000000

structure HR (K : PySem.W.Frag) (G : Gh) (S : Hp) (w : Wd) (H : Hp) : Prop where
  same : Same S H
  len : G.al.length = w.M.length
  nod : G.al.Nodup
  cell : ∀ (i : Nat) (a : Addr) (c : Cell), G.al[i]? = some a → w.M[i]? = some c → CellOk K G S H a c
  st : StOk G S w.n H
  fr : ∀ p ∈ G.fr, S p.1 = none ∧ p.1 ∉ G.al ∧ H p.1 = some p.2

end DL

namespace DL
open PySem PySem.Spec PyProof.Rows L2
section
variable {K : PySem.W.Frag} {G G' : Gh} {S S' H : Hp} {w : Wd}

theorem HR.alSome (h : HR K G S w H) {a : Addr} (ha : a ∈ G.al) : H a ≠ none := by
  obtain ⟨i, hi⟩ := List.getElem?_of_mem ha
  have l : i < w.M.length := by
    rw [← h.len]
    exact (List.getElem?_eq_some_iff.mp hi).1
  exact (h.cell i a _ hi (List.getElem?_eq_getElem l)).some
theorem HR.freshAl (h : HR K G S w H) {p : Addr} (hp : H p = none) : p ∉ G.al := fun z => h.alSome z hp
theorem HR.freshS (h : HR K G S w H) {p : Addr} (hp : H p = none) : S p = none := h.same.free hp
theorem HR.freshSt (h : HR K G S w H) {p : Addr} (hp : H p = none) {a c : Addr} (e : G.st = some (a, c)) : p ≠ a ∧ p ≠ c := by
  obtain ⟨_, _, _, _, _, _, cells, turn, h1, h2, _⟩ := h.st.2 a c e
  exact ⟨fun z => (by rw [← z, hp] at h1; cases h1), fun z => (by rw [← z, hp] at h2; cases h2)⟩
theorem HR.freshFr (h : HR K G S w H) {p : Addr} (hp : H p = none) : ∀ q ∈ G.fr, q.1 ≠ p := fun q hq z => by
  have e := (h.fr q hq).2.2
  rw [z, hp] at e
  cases e
theorem CellOk.mono {a : Addr} {c : Cell} {H H' : Hp} (x : Ext G S G' S') (h : CellOk K G S H a c) (e : H' a = H a) (n : S' a = none ∨ c = .dead) : CellOk K G' S' H' a c := by
  cases c with
  | dead =>
    show H' a ≠ none
    rw [e]
    exact h
  | lst ds =>
    obtain ⟨_, xs, e1, r⟩ := h
    exact ⟨n.elim id (fun z => nomatch z), xs, by rw [e]; exact e1, r.mono x⟩
  | dk ds =>
    obtain ⟨_, xs, e1, r⟩ := h
    exact ⟨n.elim id (fun z => nomatch z), xs, by rw [e]; exact e1, Paired.mapP r fun p q z => ⟨z.1, z.2.mono x⟩⟩
  | ins C ds =>
    obtain ⟨_, dx, xs, e1, r⟩ := h
    exact ⟨n.elim id (fun z => nomatch z), dx, xs, by rw [e]; exact e1, Paired.mapP r fun p q z => ⟨z.1, z.2.mono x⟩⟩
theorem CellOk.sNone {a : Addr} {c : Cell} {H : Hp} (h : CellOk K G S H a c) : S a = none ∨ c = .dead := by
  cases c with
  | dead => exact .inr rfl
  | lst ds => exact .inl h.1
  | dk ds => exact .inl h.1
  | ins C ds => exact .inl h.1

/-- a new object that never changes -/
theorem HR.newS (h : HR K G S w H) {p : Addr} (hp : H p = none) (o : HO) : HR K G (upd S p o) w (upd H p o) ∧ Ext G S G (upd S p o) := by
  have sp := h.freshS hp
  have x : Ext G S G (upd S p o) := ⟨⟨[], by simp⟩, fun _ z => z, fun _ z => z, fun b u e => by rw [upd_ne (ne_of_none e sp)]; exact e⟩
  refine ⟨⟨fun b u e => ?_, h.len, h.nod, fun i a c e1 e2 => ?_, ⟨h.st.1, fun a c e => ?_⟩, fun q hq => ?_⟩, x⟩
  · by_cases hb : b = p
    · subst hb
      rw [upd_same] at e ⊢
      exact e
    · rw [upd_ne hb] at e ⊢
      exact h.same _ _ e
  · have ne : a ≠ p := fun z => h.freshAl hp (z ▸ List.mem_of_getElem? e1)
    have q := h.cell i a c e1 e2
    exact q.mono x (upd_ne ne) (by rw [upd_ne ne]; exact q.sNone)
  · obtain ⟨n1, n2⟩ := h.freshSt hp e
    obtain ⟨z1, z2, z3, z4, z5, z6, cells, turn, z7, z8, z9⟩ := h.st.2 a c e
    exact ⟨by rw [upd_ne n1.symm]; exact z1, by rw [upd_ne n2.symm]; exact z2, z3, z4, z5, z6, cells, turn, by rw [upd_ne n1.symm]; exact z7, by rw [upd_ne n2.symm]; exact z8, z9⟩
  · obtain ⟨z1, z2, z3⟩ := h.fr q hq
    have ne := h.freshFr hp q hq
    exact ⟨by rw [upd_ne ne]; exact z1, z2, by rw [upd_ne ne]; exact z3⟩

/-- a new object that may change: cell number M.length -/
theorem HR.newC (h : HR K G S w H) {p : Addr} (hp : H p = none) (o : HO) (c : Cell) (hc : CellOk K ⟨G.al ++ [p], G.st, G.fr⟩ S (upd H p o) p c) :
    HR K ⟨G.al ++ [p], G.st, G.fr⟩ S ⟨w.M ++ [c], w.n⟩ (upd H p o) ∧ Ext G S ⟨G.al ++ [p], G.st, G.fr⟩ S := by
  have sp := h.freshS hp
  have x : Ext G S ⟨G.al ++ [p], G.st, G.fr⟩ S := ⟨⟨[p], rfl⟩, fun _ z => z, fun _ z => z, Same.refl S⟩
  refine ⟨⟨fun b u e => ?_, by simp [h.len], ?_, fun i a c' e1 e2 => ?_, ⟨h.st.1, fun a c' e => ?_⟩, fun q hq => ?_⟩, x⟩
  · rw [upd_ne (ne_of_none e sp)]
    exact h.same _ _ e
  · show (G.al ++ [p]).Nodup
    rw [List.nodup_append]
    refine ⟨h.nod, by simp, fun a ha b hb z => ?_⟩
    rw [List.mem_singleton] at hb
    exact h.freshAl hp (by rw [← hb, ← z]; exact ha)
  · have e1 : (G.al ++ [p])[i]? = some a := e1
    have e2 : (w.M ++ [c])[i]? = some c' := e2
    by_cases hi : i < G.al.length
    · rw [List.getElem?_append_left hi] at e1
      rw [List.getElem?_append_left (by rw [← h.len]; exact hi)] at e2
      have ne : a ≠ p := fun z => h.freshAl hp (z ▸ List.mem_of_getElem? e1)
      have q := h.cell i a c' e1 e2
      exact q.mono x (upd_ne ne) q.sNone
    · have hi2 : G.al.length ≤ i := Nat.le_of_not_lt hi
      rw [List.getElem?_append_right hi2] at e1
      rw [List.getElem?_append_right (by rw [← h.len]; exact hi2), ← h.len] at e2
      have l := (List.getElem?_eq_some_iff.mp e1).1
      have l0 : i - G.al.length = 0 := by
        rw [List.length_singleton] at l
        omega
      rw [l0] at e1 e2
      have e1' : p = a := by simpa using e1
      have e2' : c = c' := by simpa using e2
      subst e1'
      subst e2'
      exact hc
  · obtain ⟨n1, n2⟩ := h.freshSt hp e
    obtain ⟨z1, z2, z3, z4, z5, z6, cells, turn, z7, z8, z9⟩ := h.st.2 a c' e
    refine ⟨z1, z2, z3, fun hm => ?_, fun hm => ?_, z6, cells, turn, by rw [upd_ne n1.symm]; exact z7, by rw [upd_ne n2.symm]; exact z8, z9⟩
    · rcases List.mem_append.mp hm with hm | hm
      · exact z4 hm
      · exact n1 (List.mem_singleton.mp hm).symm
    · rcases List.mem_append.mp hm with hm | hm
      · exact z5 hm
      · exact n2 (List.mem_singleton.mp hm).symm
  · obtain ⟨z1, z2, z3⟩ := h.fr q hq
    have ne := h.freshFr hp q hq
    refine ⟨z1, fun hm => ?_, by rw [upd_ne ne]; exact z3⟩
    rcases List.mem_append.mp hm with hm | hm
    · exact z2 hm
    · exact ne (List.mem_singleton.mp hm)

/-- a cell is written -/
theorem HR.setC (h : HR K G S w H) {i : Nat} {a : Addr} {c0 c : Cell} {o : HO} (e1 : G.al[i]? = some a) (e2 : w.M[i]? = some c0) (hs : S a = none) (hc : CellOk K G S (upd H a o) a c) : HR K G S ⟨w.M.set i c, w.n⟩ (upd H a o) := by
  have il : i < w.M.length := (List.getElem?_eq_some_iff.mp e2).1
  refine ⟨fun b u e => ?_, by simp [h.len], h.nod, fun j b c' f1 f2 => ?_, ⟨h.st.1, fun b c' e => ?_⟩, fun q hq => ?_⟩
  · rw [upd_ne (ne_of_none e hs)]
    exact h.same _ _ e
  · have f2 : (w.M.set i c)[j]? = some c' := f2
    by_cases hj : j = i
    · subst hj
      rw [List.getElem?_set_self il] at f2
      cases f2
      rw [e1] at f1
      cases f1
      exact hc
    · rw [List.getElem?_set_ne (Ne.symm hj)] at f2
      have ne : b ≠ a := fun z => by
        subst z
        exact hj ((List.getElem?_inj (List.getElem?_eq_some_iff.mp f1).1 h.nod).mp (f1.trans e1.symm))
      have q := h.cell j b c' f1 f2
      exact q.mono (Ext.refl _ _) (upd_ne ne) q.sNone
  · obtain ⟨z1, z2, z3, z4, z5, z6, cells, turn, z7, z8, z9⟩ := h.st.2 b c' e
    have n1 : b ≠ a := fun z => z4 (z ▸ List.mem_of_getElem? e1)
    have n2 : c' ≠ a := fun z => z5 (z ▸ List.mem_of_getElem? e1)
    exact ⟨z1, z2, z3, z4, z5, z6, cells, turn, by rw [upd_ne n1]; exact z7, by rw [upd_ne n2]; exact z8, z9⟩
  · obtain ⟨z1, z2, z3⟩ := h.fr q hq
    have ne : q.1 ≠ a := fun z => z2 (z ▸ List.mem_of_getElem? e1)
    exact ⟨z1, z2, by rw [upd_ne ne]; exact z3⟩

/-- a list that changes no more -/
theorem HR.freeze (h : HR K G S w H) {i : Nat} {a : Addr} {ds : List D} (e1 : G.al[i]? = some a) (e2 : w.M[i]? = some (.lst ds)) :
    ∃ S', HR K G S' ⟨w.M.set i .dead, w.n⟩ H ∧ Ext G S G S' ∧ Rep K G S' (.ref a) (.lst ds) := by
  obtain ⟨sa, xs, ha, r⟩ := h.cell i a _ e1 e2
  have il : i < w.M.length := (List.getElem?_eq_some_iff.mp e2).1
  have x : Ext G S G (upd S a (.lst xs)) := ⟨⟨[], by simp⟩, fun _ z => z, fun _ z => z, fun b u e => by rw [upd_ne (ne_of_none e sa)]; exact e⟩
  refine ⟨upd S a (.lst xs), ⟨fun b u e => ?_, by simp [h.len], h.nod, fun j b c' f1 f2 => ?_, ⟨h.st.1, fun b c' e => ?_⟩, fun q hq => ?_⟩, x, .lst upd_same (r.mono x)⟩
  · by_cases hb : b = a
    · subst hb
      rw [upd_same] at e
      cases e
      exact ha
    · rw [upd_ne hb] at e
      exact h.same _ _ e
  · have f2 : (w.M.set i .dead)[j]? = some c' := f2
    by_cases hj : j = i
    · subst hj
      rw [List.getElem?_set_self il] at f2
      cases f2
      rw [e1] at f1
      cases f1
      show H _ ≠ none
      rw [ha]
      exact fun z => nomatch z
    · rw [List.getElem?_set_ne (Ne.symm hj)] at f2
      have ne : b ≠ a := fun z => by
        subst z
        exact hj ((List.getElem?_inj (List.getElem?_eq_some_iff.mp f1).1 h.nod).mp (f1.trans e1.symm))
      have q := h.cell j b c' f1 f2
      exact q.mono x rfl (by rw [upd_ne ne]; exact q.sNone)
  · obtain ⟨z1, z2, z3, z4, z5, z6, z7⟩ := h.st.2 b c' e
    have n1 : b ≠ a := fun z => z4 (z ▸ List.mem_of_getElem? e1)
    have n2 : c' ≠ a := fun z => z5 (z ▸ List.mem_of_getElem? e1)
    exact ⟨by rw [upd_ne n1]; exact z1, by rw [upd_ne n2]; exact z2, z3, z4, z5, z6, z7⟩
  · obtain ⟨z1, z2, z3⟩ := h.fr q hq
    have ne : q.1 ≠ a := fun z => z2 (z ▸ List.mem_of_getElem? e1)
    exact ⟨by rw [upd_ne ne]; exact z1, z2, z3⟩

/-- an object kept apart: a frame -/
theorem HR.push (h : HR K G S w H) {p : Addr} {o : HO} (hp : H p = none) : HR K ⟨G.al, G.st, (p, o) :: G.fr⟩ S w (upd H p o) ∧ Ext G S ⟨G.al, G.st, (p, o) :: G.fr⟩ S := by
  have sp := h.freshS hp
  have x : Ext G S ⟨G.al, G.st, (p, o) :: G.fr⟩ S := ⟨⟨[], by simp⟩, fun _ z => z, fun _ z => List.mem_cons_of_mem _ z, Same.refl S⟩
  refine ⟨⟨fun b u e => ?_, h.len, h.nod, fun i a c e1 e2 => ?_, ⟨h.st.1, fun a c e => ?_⟩, fun q hq => ?_⟩, x⟩
  · rw [upd_ne (ne_of_none e sp)]
    exact h.same _ _ e
  · have ne : a ≠ p := fun z => h.freshAl hp (z ▸ List.mem_of_getElem? e1)
    have q := h.cell i a c e1 e2
    exact q.mono x (upd_ne ne) q.sNone
  · obtain ⟨n1, n2⟩ := h.freshSt hp e
    obtain ⟨z1, z2, z3, z4, z5, z6, cells, turn, z7, z8, z9⟩ := h.st.2 a c e
    refine ⟨z1, z2, z3, z4, z5, fun q hq => ?_, cells, turn, by rw [upd_ne n1.symm]; exact z7, by rw [upd_ne n2.symm]; exact z8, z9⟩
    rcases List.mem_cons.mp hq with rfl | hq
    · exact ⟨n1, n2⟩
    · exact z6 q hq
  · rcases List.mem_cons.mp hq with rfl | hq
    · exact ⟨sp, h.freshAl hp, upd_same⟩
    · obtain ⟨z1, z2, z3⟩ := h.fr q hq
      have ne := h.freshFr hp q hq
      exact ⟨z1, z2, by rw [upd_ne ne]; exact z3⟩
/-- what stands apart is written -/
theorem HR.poke (h : HR K G S w H) {p : Addr} {o o' : HO} {fr : List (Addr × HO)} (hp : (p, o) ∈ G.fr) (hf : ∀ q ∈ fr, q ∈ G.fr ∧ q.1 ≠ p) : HR K ⟨G.al, G.st, (p, o') :: fr⟩ S w (upd H p o') := by
  obtain ⟨y1, y2, y3⟩ := h.fr _ hp
  refine ⟨fun b u e => ?_, h.len, h.nod, fun i a c e1 e2 => ?_, ⟨h.st.1, fun a c e => ?_⟩, fun q hq => ?_⟩
  · rw [upd_ne (ne_of_none e y1)]
    exact h.same _ _ e
  · have ne : a ≠ p := fun z => y2 (z ▸ List.mem_of_getElem? e1)
    have q := h.cell i a c e1 e2
    have x : Ext G S ⟨G.al, G.st, G.fr⟩ S := Ext.refl _ _
    have x2 : Ext G S G S := Ext.refl _ _
    have q2 := q.mono x2 (upd_ne (o := o') ne) q.sNone
    cases c with
    | dead => exact q2
    | lst ds =>
      obtain ⟨n0, xs, e3, r⟩ := q2
      exact ⟨n0, xs, e3, RepAll.refr r⟩
    | dk ds =>
      obtain ⟨n0, xs, e3, r⟩ := q2
      exact ⟨n0, xs, e3, Paired.mapP r fun p q z => ⟨z.1, Rep.refr z.2⟩⟩
    | ins C ds =>
      obtain ⟨n0, dx, xs, e3, r⟩ := q2
      exact ⟨n0, dx, xs, e3, Paired.mapP r fun p q z => ⟨z.1, Rep.refr z.2⟩⟩
  · obtain ⟨z1, z2, z3, z4, z5, z6, cells, turn, z7, z8, z9⟩ := h.st.2 a c e
    obtain ⟨n1, n2⟩ := z6 _ hp
    refine ⟨z1, z2, z3, z4, z5, fun q hq => ?_, cells, turn, by rw [upd_ne (Ne.symm n1)]; exact z7, by rw [upd_ne (Ne.symm n2)]; exact z8, z9⟩
    rcases List.mem_cons.mp hq with rfl | hq
    · exact ⟨n1, n2⟩
    · exact z6 q (hf q hq).1
  · rcases List.mem_cons.mp hq with rfl | hq
    · exact ⟨y1, y2, upd_same⟩
    · obtain ⟨z1, z2, z3⟩ := h.fr q (hf q hq).1
      exact ⟨z1, z2, by rw [upd_ne (hf q hq).2]; exact z3⟩
end
end DL

namespace DL
open PySem PySem.Spec PyProof.Rows L2

/-! ### readings over data -/
/-- an exception of an own class: without fields, with them -/
inductive Exn where
  | own (C : Addr)
  | flds (C : Addr) (fs : List (Str × D))
def ExRep (K : PySem.W.Frag) (G : Gh) (S H : Hp) (cls : Value) (d : Option Addr) : Exn → Prop
  | .own C => cls = .ref C ∧ d = none
  | .flds C fs => cls = .ref C ∧ ∃ a gs, d = some a ∧ H a = some (.xd gs) ∧ FsRep K G S gs fs
abbrev KD := D → Wd → Prop
abbrev KX := Exn → Wd → Prop
abbrev KB := Bool → Wd → Prop
abbrev KA := List D → Wd → Prop
abbrev Rho := List (Option D)
abbrev GE := Rho → Wd → KX → KD → Prop
abbrev GT := Rho → Wd → KX → KB → Prop
abbrev GA := Rho → Wd → KX → KA → Prop
structure DEnds where
  nx : Rho → Wd → Prop
  rt : KD
  ex : KX
  bk : Rho → Wd → Prop := fun _ _ => False
  ct : Rho → Wd → Prop := fun _ _ => False
abbrev GS := DEnds → Rho → Wd → Prop

section
variable (K : PySem.W.Frag) (G : Gh) (S : Hp)
def SR (σ : L2.St) (ρ : Rho) : Prop := σ.length = ρ.length ∧ ∀ (i : Nat) (d : D), ρ[i]? = some (some d) → ∃ v, σ[i]? = some (some v) ∧ Rep K G S v d
def XL (kx : KX) (E : XK) : Prop := ∀ G' S' H' w' e cls d, Ext G S G' S' → HR K G' S' w' H' → ExRep K G' S' H' cls d e → kx e w' → E cls d H'
def KL (k : KD) (Q : VK) : Prop := ∀ G' S' H' w' d v, Ext G S G' S' → HR K G' S' w' H' → Rep K G' S' v d → k d w' → Q v H'
def BL (k : KB) (Q : Bool → Hp → Prop) : Prop := ∀ G' S' H' w' b, Ext G S G' S' → HR K G' S' w' H' → k b w' → Q b H'
def AL (k : KA) (Q : List V → Hp → Prop) : Prop := ∀ G' S' H' w' ds vs, Ext G S G' S' → HR K G' S' w' H' → RepAll K G' S' vs ds → k ds w' → Q vs H'
def NL (k : Rho → Wd → Prop) (Q : L2.St → Hp → Prop) : Prop := ∀ G' S' H' w' ρ' σ', Ext G S G' S' → HR K G' S' w' H' → SR K G' S' σ' ρ' → k ρ' w' → Q σ' H'
end
section
variable {K : PySem.W.Frag} {G G' : Gh} {S S' : Hp}
theorem SR.mono {σ : L2.St} {ρ : Rho} (x : Ext G S G' S') (h : SR K G S σ ρ) : SR K G' S' σ ρ := ⟨h.1, fun i d e => let ⟨v, h1, h2⟩ := h.2 i d e; ⟨v, h1, h2.mono x⟩⟩
theorem XL.mono {kx : KX} {E : XK} (x : Ext G S G' S') (h : XL K G S kx E) : XL K G' S' kx E := fun G1 S1 H1 w1 e c d x1 => h G1 S1 H1 w1 e c d (x.trans x1)
theorem KL.mono {k : KD} {Q : VK} (x : Ext G S G' S') (h : KL K G S k Q) : KL K G' S' k Q := fun G1 S1 H1 w1 d v x1 => h G1 S1 H1 w1 d v (x.trans x1)
theorem BL.mono {k : KB} {Q : Bool → Hp → Prop} (x : Ext G S G' S') (h : BL K G S k Q) : BL K G' S' k Q := fun G1 S1 H1 w1 d x1 => h G1 S1 H1 w1 d (x.trans x1)
theorem AL.mono {k : KA} {Q : List V → Hp → Prop} (x : Ext G S G' S') (h : AL K G S k Q) : AL K G' S' k Q := fun G1 S1 H1 w1 d v x1 => h G1 S1 H1 w1 d v (x.trans x1)
theorem NL.mono {k : Rho → Wd → Prop} {Q : L2.St → Hp → Prop} (x : Ext G S G' S') (h : NL K G S k Q) : NL K G' S' k Q := fun G1 S1 H1 w1 d v x1 => h G1 S1 H1 w1 d v (x.trans x1)
theorem SR.set {σ : L2.St} {ρ : Rho} {v : V} {d : D} (h : SR K G S σ ρ) (r : Rep K G S v d) (i : Nat) : SR K G S (σ.set i (some v)) (ρ.set i (some d)) := by
  refine ⟨by simp [h.1], fun j e hj => ?_⟩
  by_cases hi : j = i
  · subst hi
    have hl : j < ρ.length := by
      have := (List.getElem?_eq_some_iff.mp hj).1
      simpa using this
    rw [List.getElem?_set_self hl] at hj
    cases hj
    exact ⟨v, List.getElem?_set_self (by rw [h.1]; exact hl), r⟩
  · rw [List.getElem?_set_ne (Ne.symm hi)] at hj
    obtain ⟨u, h1, h2⟩ := h.2 j e hj
    exact ⟨u, by rw [List.getElem?_set_ne (Ne.symm hi)]; exact h1, h2⟩
end

def upE (K : PySem.W.Frag) (E : XK) (g : GE) : TE := fun σ H Q => ∃ G S ρ w kx k, HR K G S w H ∧ SR K G S σ ρ ∧ XL K G S kx E ∧ KL K G S k Q ∧ g ρ w kx k
def upT (K : PySem.W.Frag) (E : XK) (g : GT) : TT := fun σ H Q => ∃ G S ρ w kx k, HR K G S w H ∧ SR K G S σ ρ ∧ XL K G S kx E ∧ BL K G S k Q ∧ g ρ w kx k
def upA (K : PySem.W.Frag) (E : XK) (g : GA) : TA := fun σ H Q => ∃ G S ρ w kx k, HR K G S w H ∧ SR K G S σ ρ ∧ XL K G S kx E ∧ AL K G S k Q ∧ g ρ w kx k
structure EL (K : PySem.W.Frag) (G : Gh) (S : Hp) (E : XK) (F : DEnds) (D : Ends) : Prop where
  nx : NL K G S F.nx D.nx
  rt : KL K G S F.rt D.rt
  bk : NL K G S F.bk D.bk
  ct : NL K G S F.ct D.ct
  ex : XL K G S F.ex E
theorem EL.mono {K : PySem.W.Frag} {G G' : Gh} {S S' : Hp} {E : XK} {F : DEnds} {D : Ends} (x : Ext G S G' S') (h : EL K G S E F D) : EL K G' S' E F D := ⟨h.nx.mono x, h.rt.mono x, h.bk.mono x, h.ct.mono x, h.ex.mono x⟩
def upS (K : PySem.W.Frag) (E : XK) (g : GS) : TS := fun D σ H => ∃ G S ρ w F, HR K G S w H ∧ SR K G S σ ρ ∧ EL K G S E F D ∧ g F ρ w

def DE (X : Cx) (E : XK) (e : Expr) (g : GE) : Prop := PE X e (upE X.K E g)
def DT (X : Cx) (E : XK) (e : Expr) (g : GT) : Prop := PT X e (upT X.K E g)
def DW (X : Cx) (E : XK) (e : Expr) (g : GT) : Prop := PW X e (upT X.K E g)
def DA (X : Cx) (E : XK) (es : List Expr) (g : GA) : Prop := PA X es (upA X.K E g)
def DS (X : Cx) (E : XK) (st : Stmt) (g : GS) : Prop := PS X st (upS X.K E g)
def DSs (X : Cx) (E : XK) (st : List Stmt) (g : GS) : Prop := PSs X st (upS X.K E g)
section
variable {X : Cx}
theorem pe_imp {e : Expr} {t t' : TE} (h : PE X e t) (i : ∀ σ H Q, t' σ H Q → t σ H Q) : PE X e t' := ⟨fun pins s σ H Q I q => h.run pins s σ H Q I (i _ _ _ q)⟩
theorem pt_imp {e : Expr} {t t' : TT} (h : PT X e t) (i : ∀ σ H Q, t' σ H Q → t σ H Q) : PT X e t' := ⟨fun pins s σ H Q I q => h.run pins s σ H Q I (i _ _ _ q)⟩
theorem pw_imp {e : Expr} {t t' : TT} (h : PW X e t) (i : ∀ σ H Q, t' σ H Q → t σ H Q) : PW X e t' := ⟨fun wh pins s σ H Q I q => h.run wh pins s σ H Q I (i _ _ _ q)⟩
theorem pa_imp {e : List Expr} {t t' : TA} (h : PA X e t) (i : ∀ σ H Q, t' σ H Q → t σ H Q) : PA X e t' := ⟨fun pos pins s σ H Q I q => h.run pos pins s σ H Q I (i _ _ _ q)⟩
theorem ps_imp {e : Stmt} {t t' : TS} (h : PS X e t) (i : ∀ D σ H, t' D σ H → t D σ H) : PS X e t' := ⟨fun pins s σ H D I q => h.run pins s σ H D I (i _ _ _ q)⟩
theorem pss_imp {e : List Stmt} {t t' : TS} (h : PSs X e t) (i : ∀ D σ H, t' D σ H → t D σ H) : PSs X e t' := ⟨fun pins s σ H D I q => h.run pins s σ H D I (i _ _ _ q)⟩
end

/-! ### names, constants -/
def gVar (i : Nat) : GE := fun ρ w _ k => match ρ[i]? with
  | some (some d) => k d w
  | _ => False
def gC (d : D) : GE := fun _ w _ k => k d w
section
variable {X : Cx} {E : XK}
theorem de_var (i : Nat) {x : Str} {pos : Pos} (hN : X.N[i]? = some x := by rfl) (hv : Vis X.env.scope x := by first | exact Or.inl rfl | exact Or.inr (Or.inl rfl) | exact Or.inr (Or.inr rfl)) (hd : (x == ("__debug__" : Str)) = false := by decide)
    (hcd : (x == ("__classdict__" : Str)) = false := by decide) : DE X E (.Name x pos) (gVar i) := by
  refine pe_imp (pe_var hN hv hd hcd) ?_
  rintro σ H Q ⟨G, S, ρ, w, kx, k, hr, sr, xl, kl, h⟩
  unfold gVar at h
  split at h
  · rename_i d e
    obtain ⟨v, h1, h2⟩ := sr.2 i d e
    exact ⟨v, h1, kl _ _ _ _ _ _ (Ext.refl _ _) hr h2 h⟩
  · exact h.elim
theorem de_int {i : Int} {j pos} : DE X E (.Constant (.int i) j pos) (gC (.int i)) := pe_imp pe_int (by
  rintro σ H Q ⟨G, S, ρ, w, kx, k, hr, sr, xl, kl, h⟩
  exact kl _ _ _ _ _ _ (Ext.refl _ _) hr (.int i) h)
theorem de_bl {i : Bool} {j pos} : DE X E (.Constant (.bool i) j pos) (gC (.bl i)) := pe_imp pe_bl (by
  rintro σ H Q ⟨G, S, ρ, w, kx, k, hr, sr, xl, kl, h⟩
  exact kl _ _ _ _ _ _ (Ext.refl _ _) hr (.bl i) h)
theorem de_non {j pos} : DE X E (.Constant .none j pos) (gC .non) := pe_imp pe_non (by
  rintro σ H Q ⟨G, S, ρ, w, kx, k, hr, sr, xl, kl, h⟩
  exact kl _ _ _ _ _ _ (Ext.refl _ _) hr .non h)
theorem de_str {x : Str} {j pos} : DE X E (.Constant (.str x) j pos) (gC (.str x)) := pe_imp pe_str (by
  rintro σ H Q ⟨G, S, ρ, w, kx, k, hr, sr, xl, kl, h⟩
  exact kl _ _ _ _ _ _ (Ext.refl _ _) hr (.str x) h)
/-- a module's constant -/
theorem de_gint {x : Str} {i : Int} {t : Tok} {pos : Pos} (hg : Gl X x) (hm : X.mg x = some (.int i t)) (hd : (x == ("__debug__" : Str)) = false := by decide) : DE X E (.Name x pos) (gC (.int i)) := pe_imp (pe_glob (v := .int i) hg hm ⟨_, rfl⟩ hd) (by
  rintro σ H Q ⟨G, S, ρ, w, kx, k, hr, sr, xl, kl, h⟩
  exact kl _ _ _ _ _ _ (Ext.refl _ _) hr (.int i) h)
theorem de_gstr {x : Str} {i : Str} {t : Tok} {pos : Pos} (hg : Gl X x) (hm : X.mg x = some (.str i t)) (hd : (x == ("__debug__" : Str)) = false := by decide) : DE X E (.Name x pos) (gC (.str i)) := pe_imp (pe_glob (v := .str i) hg hm ⟨_, rfl⟩ hd) (by
  rintro σ H Q ⟨G, S, ρ, w, kx, k, hr, sr, xl, kl, h⟩
  exact kl _ _ _ _ _ _ (Ext.refl _ _) hr (.str i) h)
/-- an own class, as a value -/
theorem de_gcls {x : Str} {C : Addr} {pos : Pos} (hg : Gl X x) (hm : X.mg x = some (.ref C)) (hd : (x == ("__debug__" : Str)) = false := by decide) : DE X E (.Name x pos) (gC (.ob (.ref C))) := pe_imp (pe_glob (v := .ref C) hg hm rfl hd) (by
  rintro σ H Q ⟨G, S, ρ, w, kx, k, hr, sr, xl, kl, h⟩
  exact kl _ _ _ _ _ _ (Ext.refl _ _) hr (.ob rfl) h)
/-- a built-in class, as a value -/
theorem de_type {x : Str} {n : String} {pos : Pos} (hg : Gl X x) (hm : X.mg x = none) (hv : bootBuiltins x = some (.type n)) (hn : x ≠ "__name__" := by decide) (hd : (x == ("__debug__" : Str)) = false := by decide) : DE X E (.Name x pos) (gC (.ob (.ty n))) := pe_imp (pe_bltn (v := .ty n) hg hm hv rfl hn hd) (by
  rintro σ H Q ⟨G, S, ρ, w, kx, k, hr, sr, xl, kl, h⟩
  exact kl _ _ _ _ _ _ (Ext.refl _ _) hr (.ob rfl) h)
end

/-! ### operators -/
abbrev F2 := D → D → Wd → KD → Prop
def gBin (f : F2) (ga gb : GE) : GE := fun ρ w kx k => ga ρ w kx fun x w1 => gb ρ w1 kx fun y w2 => f x y w2 k
def BinOk (K : PySem.W.Frag) (r : R2) (f : F2) : Prop := ∀ {G S H w x y d e k Q}, HR K G S w H → Rep K G S x d → Rep K G S y e → KL K G S k Q → f d e w k → r x y H Q
section
variable {X : Cx} {E : XK} {a b c : Expr} {ga gb gc : GE} {pos : Pos}
theorem bin_up {K : PySem.W.Frag} {r : R2} {f : F2} (hf : BinOk K r f) : ∀ σ H Q, upE K E (gBin f ga gb) σ H Q → tOp r (upE K E ga) (upE K E gb) σ H Q := by
  rintro σ H Q ⟨G, S, ρ, w, kx, k, hr, sr, xl, kl, h⟩
  exact ⟨G, S, ρ, w, kx, _, hr, sr, xl, fun G1 S1 H1 w1 d x x1 hr1 rp h1 => ⟨G1, S1, ρ, w1, kx, _, hr1, sr.mono x1, xl.mono x1, fun G2 S2 H2 w2 e y x2 hr2 rp2 h2 => hf hr2 (rp.mono x2) rp2 (kl.mono (x1.trans x2)) h2, h1⟩, h⟩
theorem de_bin {op : Operator} {r : R2} {f : F2} (ho : OpR X (binaryOp op) r) (hf : BinOk X.K r f) (ha : DE X E a ga) (hb : DE X E b gb) : DE X E (.BinOp a op b pos) (gBin f ga gb) :=
  pe_imp (pe_op ho ha hb) (bin_up hf)
theorem de_cmp {op : CmpOp} {r : R2} {f : F2} (ho : OpR X (compareOp op) r) (hf : BinOk X.K r f) (ha : DE X E a ga) (hb : DE X E b gb) (hm : behindInMarks op b = false) : DE X E (.Compare a [op] [b] pos) (gBin f ga gb) :=
  pe_imp (pe_cmpR ho ha hb hm) (bin_up hf)
end

def addD : F2 := fun x y w k => match x, y with
  | .int i, .int j => k (.int (i + j)) w
  | .str i, .str j => i.length + j.length ≤ sizeLine ∧ k (.str (i ++ j)) w
  | .lst i, .lst j => i.length + j.length ≤ sizeLine ∧ k (.lst (i ++ j)) w
  | .tup i, .tup j => i ≠ [] ∧ i.length + j.length ≤ sizeLine ∧ k (.tup (i ++ j)) w
  | _, _ => False
def subD : F2 := fun x y w k => match x, y with
  | .int i, .int j => k (.int (i - j)) w
  | _, _ => False
def mulD : F2 := fun x y w k => match x, y with
  | .int i, .int j => CMulX i j ∧ k (.int (i * j)) w
  | .lst i, .int j => -(2 ^ 63) ≤ j ∧ j < 2 ^ 63 ∧ i.length * j.toNat ≤ sizeLine ∧ k (.lst (List.replicate j.toNat i).flatten) w
  | _, _ => False
def fdivD : F2 := fun x y w k => match x, y with
  | .int i, .int j => (j ≠ 0 ∧ j.natAbs.log2 < 9000) ∧ k (.int (i.fdiv j)) w
  | _, _ => False
def modD : F2 := fun x y w k => match x, y with
  | .int i, .int j => j ≠ 0 ∧ k (.int (i.fmod j)) w
  | _, _ => False
def powD : F2 := fun x y w k => match x, y with
  | .int i, .int j => CPow i j ∧ k (.int (i ^ j.toNat)) w
  | _, _ => False
def ltD : F2 := fun x y w k => match x, y with
  | .int i, .int j => k (.bl (decide (i < j))) w
  | .str i, .str j => k (.bl (decide (i.cps.toList < j.cps.toList))) w
  | _, _ => False
def leD : F2 := fun x y w k => match x, y with
  | .int i, .int j => k (.bl (decide (i ≤ j))) w
  | _, _ => False
def gtD : F2 := fun x y w k => match x, y with
  | .int i, .int j => k (.bl (decide (j < i))) w
  | _, _ => False
def geD : F2 := fun x y w k => match x, y with
  | .int i, .int j => k (.bl (decide (j ≤ i))) w
  | _, _ => False
mutual
def toPD : D → Option PyData
  | .non => some .none
  | .bl b => some (.bool b)
  | .int i => some (.int i)
  | .str x => some (.str x)
  | .lst xs => (toPDs xs).map .list
  | .tup xs => (toPDs xs).map .tuple
  | .rf _ => none
  | .st => none
  | .ob _ => none
  | .scr _ => none
def toPDs : List D → Option (List PyData)
  | [] => some []
  | x :: xs => match toPD x, toPDs xs with
    | some p, some ps => some (p :: ps)
    | _, _ => none
end
def eqD0 : F2 := fun x y w k => match toPD x, toPD y with
  | some p, some q => SeqAt.shaped p = true ∧ SeqAt.shaped q = true ∧ k (.bl (PyData.eqv p q)) w
  | _, _ => False
def neD0 : F2 := fun x y w k => match toPD x, toPD y with
  | some p, some q => SeqAt.shaped p = true ∧ SeqAt.shaped q = true ∧ k (.bl (!PyData.eqv p q)) w
  | _, _ => False
def eqD : F2 := fun x y w k => match x, y with
  | .str s, .str t => k (.bl (decide (s = t))) w
  | x, y => eqD0 x y w k
def neD : F2 := fun x y w k => match x, y with
  | .str s, .str t => k (.bl (!decide (s = t))) w
  | x, y => neD0 x y w k
def isNonD : D → Bool
  | .non => true
  | _ => false
def isD : F2 := fun x y w k => match y with
  | .non => k (.bl (isNonD x)) w
  | _ => False
def isnotD : F2 := fun x y w k => match y with
  | .non => k (.bl (!isNonD x)) w
  | _ => False
section
variable {K : PySem.W.Frag} {G : Gh} {S H : Hp}
mutual
theorem rep_dp (h : Same S H) : ∀ {v : V} {d : D} {p : PyData}, Rep K G S v d → toPD d = some p → Dp K H v p
  | _, _, _, .non, e => by cases e; exact .non
  | _, _, _, .bl b, e => by cases e; exact .bl b
  | _, _, _, .int i, e => by cases e; exact .int i
  | _, _, _, .str i, e => by cases e; exact .str i
  | _, _, _, .lst h1 r, e => by
    rw [toPD] at e
    obtain ⟨ps, e1, rfl⟩ := Option.map_eq_some_iff.mp e
    exact .lst (.inl (.inl (h _ _ h1))) (reps_dp h r e1)
  | _, _, _, .tup h1 r, e => by
    rw [toPD] at e
    obtain ⟨ps, e1, rfl⟩ := Option.map_eq_some_iff.mp e
    exact .tup (.inl (.inl (h _ _ h1))) (reps_dp h r e1)
  | _, _, _, .rf _, e => by cases e
  | _, _, _, .st _, e => by cases e
  | _, _, _, .ob _, e => by cases e
  | _, _, _, .scr _, e => by cases e
theorem reps_dp (h : Same S H) : ∀ {vs : List V} {ds : List D} {ps : List PyData}, RepAll K G S vs ds → toPDs ds = some ps → DpAll K H vs ps
  | _, _, _, .nil, e => by cases e; exact .nil
  | _, _, _, .cons h1 r, e => by
    rw [toPDs] at e
    split at e
    · rename_i p ps e1 e2
      cases e
      exact .cons (rep_dp h h1 e1) (reps_dp h r e2)
    · cases e
end
end
/-- behind an unchanged heap -/
theorem KL.here {K : PySem.W.Frag} {G : Gh} {S H : Hp} {w : Wd} {k : KD} {Q : VK} {v : V} {d : D} (kl : KL K G S k Q) (hr : HR K G S w H) (r : Rep K G S v d) (h : k d w) : Q v H := kl _ _ _ _ _ _ (Ext.refl _ _) hr r h
/-- a new list or tuple -/
theorem KL.newL {K : PySem.W.Frag} {G : Gh} {S H : Hp} {w : Wd} {k : KD} {Q : VK} {xs : List V} {ds : List D} (kl : KL K G S k Q) (hr : HR K G S w H) (r : RepAll K G S xs ds) (h : k (.lst ds) w) : ∀ p, H p = none → Q (.ref p) (upd H p (.lst xs)) := fun p hp => by
  obtain ⟨h1, x⟩ := hr.newS hp (.lst xs)
  exact kl _ _ _ _ _ _ x h1 (.lst upd_same (r.mono x)) h
theorem KL.newT {K : PySem.W.Frag} {G : Gh} {S H : Hp} {w : Wd} {k : KD} {Q : VK} {xs : List V} {ds : List D} (kl : KL K G S k Q) (hr : HR K G S w H) (r : RepAll K G S xs ds) (h : k (.tup ds) w) : ∀ p, H p = none → Q (.ref p) (upd H p (.tup xs)) := fun p hp => by
  obtain ⟨h1, x⟩ := hr.newS hp (.tup xs)
  exact kl _ _ _ _ _ _ x h1 (.tup upd_same (r.mono x)) h

def rAddD (K : PySem.W.Frag) : R2 := fun x y H Q => (rI0 (fun i j => .int (i + j))) x y H Q ∨ (fun x y H Q => ∃ i j, x = .str i ∧ y = .str j ∧ i.length + j.length ≤ sizeLine ∧ Q (.str (i ++ j)) H : R2) x y H Q ∨ rCat x y H Q ∨ rCatT K x y H Q
theorem op_addD {X : Cx} : OpR X (binaryOp .Add) (rAddD X.K) := op_add.or (op_add_str.or (op_cat.or op_catT))
theorem ok_addD {K : PySem.W.Frag} : BinOk K (rAddD K) addD := by
  intro G S H w x y d e k Q hr rx ry kl h
  unfold addD at h
  split at h
  · cases rx; cases ry
    exact .inl ⟨_, _, rfl, rfl, kl.here hr (.int _) h⟩
  · cases rx; cases ry
    exact .inr (.inl ⟨_, _, rfl, rfl, h.1, kl.here hr (.str _) h.2⟩)
  · cases rx with
    | lst h1 r1 => cases ry with
      | lst h2 r2 => exact .inr (.inr (.inl ⟨_, _, _, _, rfl, rfl, hr.same _ _ h1, hr.same _ _ h2, by rw [r1.length, r2.length]; exact h.1, kl.newL hr (r1.append r2) h.2⟩))
  · cases rx with
    | tup h1 r1 => cases ry with
      | tup h2 r2 =>
        obtain ⟨hne, hz, hk⟩ := h
        have l1 := r1.length
        have l2 := r2.length
        refine .inr (.inr (.inr ⟨_, _, _, _, rfl, rfl, .inl (.inl (hr.same _ _ h1)), .inl (.inl (hr.same _ _ h2)), fun z => hne ?_, by rw [l1, l2]; exact hz, fun z => ?_, fun _ => kl.newT hr (r1.append r2) hk⟩))
        · rw [z] at l1
          exact List.length_eq_zero_iff.mp l1.symm
        · rw [z] at l2
          have e := List.length_eq_zero_iff.mp l2.symm
          subst e
          rw [List.append_nil] at hk
          exact kl.here hr (.tup h1 r1) hk
  · exact h.elim
def rI2 (C : Int → Int → Prop) (g : Int → Int → V) : R2 := rI C g
theorem ok_subD {K : PySem.W.Frag} : BinOk K (rI0 fun i j => .int (i - j)) subD := by
  intro G S H w x y d e k Q hr rx ry kl h
  unfold subD at h
  split at h
  · cases rx; cases ry
    exact ⟨_, _, rfl, rfl, kl.here hr (.int _) h⟩
  · exact h.elim
def rMulD : R2 := fun x y H Q => (rI CMulX fun i j => .int (i * j)) x y H Q ∨ rRep x y H Q
theorem op_mulD {X : Cx} : OpR X (binaryOp .Mult) rMulD := op_mulX.or op_rep
theorem RepAll.rep {K : PySem.W.Frag} {G : Gh} {S : Hp} {xs : List V} {ds : List D} (h : RepAll K G S xs ds) : ∀ k : Nat, RepAll K G S (List.replicate k xs).flatten (List.replicate k ds).flatten
  | 0 => .nil
  | k + 1 => by
    rw [List.replicate_succ, List.replicate_succ, List.flatten_cons, List.flatten_cons]
    exact h.append (RepAll.rep h k)
theorem ok_mulD {K : PySem.W.Frag} : BinOk K rMulD mulD := by
  intro G S H w x y d e k Q hr rx ry kl h
  unfold mulD at h
  split at h
  · cases rx; cases ry
    exact .inl ⟨_, _, rfl, rfl, h.1, kl.here hr (.int _) h.2⟩
  · cases ry
    cases rx with
    | lst h1 r1 =>
      obtain ⟨z1, z2, z3, z4⟩ := h
      exact .inr ⟨_, _, _, rfl, rfl, hr.same _ _ h1, z1, z2, by rw [r1.length]; exact z3, kl.newL hr (r1.rep _) z4⟩
  · exact h.elim
theorem op_fdivX {X : Cx} : OpR X (binaryOp .FloorDiv) (rI (fun _ j => j ≠ 0 ∧ j.natAbs.log2 < 9000) fun i j => .int (i.fdiv j)) := opI fun i j _ _ _ _ _ hc q =>
  floordiv_int hc.1 q (.inl (PyProof.noPylong_of_log2 hc.2))
theorem ok_fdivD {K : PySem.W.Frag} : BinOk K (rI (fun _ j => j ≠ 0 ∧ j.natAbs.log2 < 9000) fun i j => .int (i.fdiv j)) fdivD := by
  intro G S H w x y d e k Q hr rx ry kl h
  unfold fdivD at h
  split at h
  · cases rx; cases ry
    exact ⟨_, _, rfl, rfl, h.1, kl.here hr (.int _) h.2⟩
  · exact h.elim
theorem ok_modD {K : PySem.W.Frag} : BinOk K (rI (fun _ j => j ≠ 0) fun i j => .int (i.fmod j)) modD := by
  intro G S H w x y d e k Q hr rx ry kl h
  unfold modD at h
  split at h
  · cases rx; cases ry
    exact ⟨_, _, rfl, rfl, h.1, kl.here hr (.int _) h.2⟩
  · exact h.elim
theorem ok_powD {K : PySem.W.Frag} : BinOk K (rI CPow fun i j => .int (i ^ j.toNat)) powD := by
  intro G S H w x y d e k Q hr rx ry kl h
  unfold powD at h
  split at h
  · cases rx; cases ry
    exact ⟨_, _, rfl, rfl, h.1, kl.here hr (.int _) h.2⟩
  · exact h.elim
def rLtD : R2 := fun x y H Q => (rI0 fun i j => .bl (decide (i < j))) x y H Q ∨ (fun x y H Q => ∃ i j, x = .str i ∧ y = .str j ∧ Q (.bl (decide (i.cps.toList < j.cps.toList))) H : R2) x y H Q
theorem op_ltD {X : Cx} : OpR X (compareOp .Lt) rLtD := op_lt.or op_lt_str
theorem ok_ltD {K : PySem.W.Frag} : BinOk K rLtD ltD := by
  intro G S H w x y d e k Q hr rx ry kl h
  unfold ltD at h
  split at h
  · cases rx; cases ry
    exact .inl ⟨_, _, rfl, rfl, kl.here hr (.bl _) h⟩
  · cases rx; cases ry
    exact .inr ⟨_, _, rfl, rfl, kl.here hr (.bl _) h⟩
  · exact h.elim
theorem ok_leD {K : PySem.W.Frag} : BinOk K (rI0 fun i j => .bl (decide (i ≤ j))) leD := by
  intro G S H w x y d e k Q hr rx ry kl h
  unfold leD at h
  split at h
  · cases rx; cases ry
    exact ⟨_, _, rfl, rfl, kl.here hr (.bl _) h⟩
  · exact h.elim
theorem ok_gtD {K : PySem.W.Frag} : BinOk K (rI0 fun i j => .bl (decide (j < i))) gtD := by
  intro G S H w x y d e k Q hr rx ry kl h
  unfold gtD at h
  split at h
  · cases rx; cases ry
    exact ⟨_, _, rfl, rfl, kl.here hr (.bl _) h⟩
  · exact h.elim
theorem ok_geD {K : PySem.W.Frag} : BinOk K (rI0 fun i j => .bl (decide (j ≤ i))) geD := by
  intro G S H w x y d e k Q hr rx ry kl h
  unfold geD at h
  split at h
  · cases rx; cases ry
    exact ⟨_, _, rfl, rfl, kl.here hr (.bl _) h⟩
  · exact h.elim
theorem ok_eqD0 {K : PySem.W.Frag} : BinOk K (rEqD K) eqD0 := by
  intro G S H w x y d e k Q hr rx ry kl h
  unfold eqD0 at h
  split at h
  · rename_i p q e1 e2
    exact ⟨p, q, rep_dp hr.same rx e1, rep_dp hr.same ry e2, h.1, h.2.1, kl.here hr (.bl _) h.2.2⟩
  · exact h.elim
theorem ok_neD0 {K : PySem.W.Frag} : BinOk K (rNeD K) neD0 := by
  intro G S H w x y d e k Q hr rx ry kl h
  unfold neD0 at h
  split at h
  · rename_i p q e1 e2
    exact ⟨p, q, rep_dp hr.same rx e1, rep_dp hr.same ry e2, h.1, h.2.1, kl.here hr (.bl _) h.2.2⟩
  · exact h.elim
def rEqS (K : PySem.W.Frag) : R2 := fun x y H Q => rEq x y H Q ∨ rEqD K x y H Q
def rNeS (K : PySem.W.Frag) : R2 := fun x y H Q => rNe x y H Q ∨ rNeD K x y H Q
theorem dec_strV {s t : Str} : decide (V.str s = V.str t) = decide (s = t) := by
  rw [Bool.eq_iff_iff]
  simp
theorem ok_eqD {K : PySem.W.Frag} : BinOk K (rEqS K) eqD := by
  intro G S H w x y d e k Q hr rx ry kl h
  unfold eqD at h
  split at h
  · cases rx; cases ry
    refine .inl ⟨rfl, ?_⟩
    rw [dec_strV]
    exact kl.here hr (.bl _) h
  · exact .inr (ok_eqD0 hr rx ry kl h)
theorem ok_neD {K : PySem.W.Frag} : BinOk K (rNeS K) neD := by
  intro G S H w x y d e k Q hr rx ry kl h
  unfold neD at h
  split at h
  · cases rx; cases ry
    refine .inl ⟨rfl, ?_⟩
    rw [dec_strV]
    exact kl.here hr (.bl _) h
  · exact .inr (ok_neD0 hr rx ry kl h)
theorem rep_non {K : PySem.W.Frag} {G : Gh} {S : Hp} {v : V} {d : D} (r : Rep K G S v d) : decide (v = .non) = isNonD d := by
  cases r
  case ob h => cases v <;> first | rfl | cases h
  all_goals rfl
theorem ok_isD {K : PySem.W.Frag} : BinOk K (fun x y H Q => y = .non ∧ Q (.bl (decide (x = .non))) H) isD := by
  intro G S H w x y d e k Q hr rx ry kl h
  unfold isD at h
  split at h
  · cases ry
    refine ⟨rfl, ?_⟩
    rw [rep_non rx]
    exact kl.here hr (.bl _) h
  · exact h.elim
theorem ok_isnotD {K : PySem.W.Frag} : BinOk K (fun x y H Q => y = .non ∧ Q (.bl (!decide (x = .non))) H) isnotD := by
  intro G S H w x y d e k Q hr rx ry kl h
  unfold isnotD at h
  split at h
  · cases ry
    refine ⟨rfl, ?_⟩
    rw [rep_non rx]
    exact kl.here hr (.bl _) h
  · exact h.elim

section
variable {X : Cx} {E : XK} {a b c : Expr} {ga gb gc : GE} {pos : Pos}
theorem de_add (ha : DE X E a ga) (hb : DE X E b gb) : DE X E (.BinOp a .Add b pos) (gBin addD ga gb) := de_bin op_addD ok_addD ha hb
theorem de_sub (ha : DE X E a ga) (hb : DE X E b gb) : DE X E (.BinOp a .Sub b pos) (gBin subD ga gb) := de_bin op_sub ok_subD ha hb
theorem de_mul (ha : DE X E a ga) (hb : DE X E b gb) : DE X E (.BinOp a .Mult b pos) (gBin mulD ga gb) := de_bin op_mulD ok_mulD ha hb
theorem de_fdiv (ha : DE X E a ga) (hb : DE X E b gb) : DE X E (.BinOp a .FloorDiv b pos) (gBin fdivD ga gb) := de_bin op_fdivX ok_fdivD ha hb
theorem de_mod (ha : DE X E a ga) (hb : DE X E b gb) : DE X E (.BinOp a .Mod b pos) (gBin modD ga gb) := de_bin op_modN ok_modD ha hb
theorem de_pow (ha : DE X E a ga) (hb : DE X E b gb) : DE X E (.BinOp a .Pow b pos) (gBin powD ga gb) := de_bin op_pow ok_powD ha hb
theorem de_lt (ha : DE X E a ga) (hb : DE X E b gb) : DE X E (.Compare a [.Lt] [b] pos) (gBin ltD ga gb) := de_cmp op_ltD ok_ltD ha hb (nomark _)
theorem de_le (ha : DE X E a ga) (hb : DE X E b gb) : DE X E (.Compare a [.LtE] [b] pos) (gBin leD ga gb) := de_cmp op_le ok_leD ha hb (nomark _)
theorem de_gt (ha : DE X E a ga) (hb : DE X E b gb) : DE X E (.Compare a [.Gt] [b] pos) (gBin gtD ga gb) := de_cmp op_gt ok_gtD ha hb (nomark _)
theorem de_ge (ha : DE X E a ga) (hb : DE X E b gb) : DE X E (.Compare a [.GtE] [b] pos) (gBin geD ga gb) := de_cmp op_ge ok_geD ha hb (nomark _)
theorem de_eq {k : Nat} (hr : Room k X.A) (ha : DE X E a ga) (hb : DE X E b gb) : DE X E (.Compare a [.Eq] [b] pos) (gBin eqD ga gb) := de_cmp (op_eq.or (op_eqD hr.units)) ok_eqD ha hb (nomark _)
theorem de_ne {k : Nat} (hr : Room k X.A) (ha : DE X E a ga) (hb : DE X E b gb) : DE X E (.Compare a [.NotEq] [b] pos) (gBin neD ga gb) := de_cmp (op_ne.or (op_neD hr.units)) ok_neD ha hb (nomark _)
theorem de_is (ha : DE X E a ga) (hb : DE X E b gb) : DE X E (.Compare a [.Is] [b] pos) (gBin isD ga gb) := de_cmp op_isN ok_isD ha hb (nomark _)
theorem de_isnot (ha : DE X E a ga) (hb : DE X E b gb) : DE X E (.Compare a [.IsNot] [b] pos) (gBin isnotD ga gb) := de_cmp op_notN ok_isnotD ha hb (nomark _)
/-- a op1 b op2 c -/
def gChain (f f' : F2) (ga gb gc : GE) : GE := fun ρ w kx k => ga ρ w kx fun x w1 => gb ρ w1 kx fun y w2 => f x y w2 fun z w3 => match z with
  | .bl true => gc ρ w3 kx fun u w4 => f' y u w4 k
  | .bl false => k (.bl false) w3
  | _ => False
theorem de_chain {op op' : CmpOp} {r r' : R2} {f f' : F2} (ho : OpR X (compareOp op) r) (hf : BinOk X.K r f) (ho' : OpR X (compareOp op') r') (hf' : BinOk X.K r' f') (ha : DE X E a ga) (hb : DE X E b gb) (hc : DE X E c gc)
    (hm : lastMarks [op, op'] [b, c] = false := by with_unfolding_all rfl) : DE X E (.Compare a [op, op'] [b, c] pos) (gChain f f' ga gb gc) := by
  refine pe_imp (pe_chain ho ho' ha hb hc hm) ?_
  rintro σ H Q ⟨G, S, ρ, w, kx, k, hr, sr, xl, kl, h⟩
  refine ⟨G, S, ρ, w, kx, _, hr, sr, xl, fun G1 S1 H1 w1 d x x1 hr1 rp h1 => ⟨G1, S1, ρ, w1, kx, _, hr1, sr.mono x1, xl.mono x1, fun G2 S2 H2 w2 e y x2 hr2 rp2 h2 => hf hr2 (rp.mono x2) rp2 (k := fun z w3 => match z with
    | .bl true => gc ρ w3 kx fun u w4 => f' e u w4 k
    | .bl false => k (.bl false) w3
    | _ => False) ?_ h2, h1⟩, h⟩
  intro G3 S3 H3 w3 z v x3 hr3 rp3 h3
  cases z with
  | bl q =>
    cases rp3
    cases q with
    | false => exact ⟨false, rfl, (kl.mono ((x1.trans x2).trans x3)).here hr3 (.bl _) h3⟩
    | true => exact ⟨true, rfl, G3, S3, ρ, w3, kx, _, hr3, sr.mono ((x1.trans x2).trans x3), xl.mono ((x1.trans x2).trans x3), fun G4 S4 H4 w4 u v' x4 hr4 rp4 h4 => hf' hr4 ((rp2.mono x3).mono x4) rp4 (kl.mono (((x1.trans x2).trans x3).trans x4)) h4, h3⟩
  | _ => exact h3.elim
/-- -a, not a -/
def negD : D → Wd → KD → Prop := fun x w k => match x with
  | .int i => k (.int (-i)) w
  | _ => False
def gUn (f : D → Wd → KD → Prop) (ga : GE) : GE := fun ρ w kx k => ga ρ w kx fun x w1 => f x w1 k
theorem de_neg (ha : DE X E a ga) : DE X E (.UnaryOp .USub a pos) (gUn negD ga) := by
  refine pe_imp (pe_un un_neg ha) ?_
  rintro σ H Q ⟨G, S, ρ, w, kx, k, hr, sr, xl, kl, h⟩
  refine ⟨G, S, ρ, w, kx, _, hr, sr, xl, fun G1 S1 H1 w1 d x x1 hr1 rp h1 => ?_, h⟩
  unfold negD at h1
  split at h1
  · cases rp
    exact ⟨_, rfl, (kl.mono x1).here hr1 (.int _) h1⟩
  · exact h1.elim
end

/-! ### tests -/
def gB (g : GE) : GT := fun ρ w kx k => g ρ w kx fun x w1 => match x with
  | .bl b => k b w1
  | _ => False
section
variable {X : Cx} {E : XK} {a b c : Expr} {ga gb gc : GE} {ta tb tc : GT} {pos : Pos} {rest : List Expr}
theorem b_up {K : PySem.W.Frag} {g : GE} : ∀ σ H Q, upT K E (gB g) σ H Q → tB (upE K E g) σ H Q := by
  rintro σ H Q ⟨G, S, ρ, w, kx, k, hr, sr, xl, kl, h⟩
  refine ⟨G, S, ρ, w, kx, _, hr, sr, xl, fun G1 S1 H1 w1 d x x1 hr1 rp h1 => ?_, h⟩
  split at h1
  · cases rp
    exact ⟨_, rfl, kl _ _ _ _ _ x1 hr1 h1⟩
  · exact h1.elim
theorem dt_val {e : Expr} {g : GE} (h : DE X E e g) (he : ∀ whole, isTrue e X.env whole = (do let v ← whole; standAt e.pos; holding [v] (truthy v)) := by intro _; rfl) : DT X E e (gB g) := pt_imp (pt_val h he) b_up
theorem dt_cmp {op : CmpOp} {r : R2} {f : F2} (ho : OpR X (compareOp op) r) (hf : BinOk X.K r f) (ha : DE X E a ga) (hb : DE X E b gb) (hm : behindInMarks op b = false) : DT X E (.Compare a [op] [b] pos) (gB (gBin f ga gb)) := by
  refine pt_imp (pt_cmpR ho ha hb hm) ?_
  rintro σ H Q ⟨G, S, ρ, w, kx, k, hr, sr, xl, kl, h⟩
  refine ⟨G, S, ρ, w, kx, _, hr, sr, xl, fun G1 S1 H1 w1 d x x1 hr1 rp h1 => ⟨G1, S1, ρ, w1, kx, _, hr1, sr.mono x1, xl.mono x1, fun G2 S2 H2 w2 e y x2 hr2 rp2 h2 => hf hr2 (rp.mono x2) rp2 (k := fun x w1 => match x with
    | .bl b => k b w1
    | _ => False) ?_ h2, h1⟩, h⟩
  intro G3 S3 H3 w3 z v x3 hr3 rp3 h3
  cases z with
  | bl q =>
    cases rp3
    exact ⟨q, rfl, kl _ _ _ _ _ ((x1.trans x2).trans x3) hr3 h3⟩
  | _ => exact h3.elim
theorem dt_lt (ha : DE X E a ga) (hb : DE X E b gb) : DT X E (.Compare a [.Lt] [b] pos) (gB (gBin ltD ga gb)) := dt_cmp op_ltD ok_ltD ha hb (nomark _)
theorem dt_le (ha : DE X E a ga) (hb : DE X E b gb) : DT X E (.Compare a [.LtE] [b] pos) (gB (gBin leD ga gb)) := dt_cmp op_le ok_leD ha hb (nomark _)
theorem dt_gt (ha : DE X E a ga) (hb : DE X E b gb) : DT X E (.Compare a [.Gt] [b] pos) (gB (gBin gtD ga gb)) := dt_cmp op_gt ok_gtD ha hb (nomark _)
theorem dt_ge (ha : DE X E a ga) (hb : DE X E b gb) : DT X E (.Compare a [.GtE] [b] pos) (gB (gBin geD ga gb)) := dt_cmp op_ge ok_geD ha hb (nomark _)
theorem dt_eq {k : Nat} (hr : Room k X.A) (ha : DE X E a ga) (hb : DE X E b gb) : DT X E (.Compare a [.Eq] [b] pos) (gB (gBin eqD ga gb)) := dt_cmp (op_eq.or (op_eqD hr.units)) ok_eqD ha hb (nomark _)
theorem dt_ne {k : Nat} (hr : Room k X.A) (ha : DE X E a ga) (hb : DE X E b gb) : DT X E (.Compare a [.NotEq] [b] pos) (gB (gBin neD ga gb)) := dt_cmp (op_ne.or (op_neD hr.units)) ok_neD ha hb (nomark _)
theorem dt_is (ha : DE X E a ga) (hb : DE X E b gb) : DT X E (.Compare a [.Is] [b] pos) (gB (gBin isD ga gb)) := dt_cmp op_isN ok_isD ha hb (nomark _)
theorem dt_isnot (ha : DE X E a ga) (hb : DE X E b gb) : DT X E (.Compare a [.IsNot] [b] pos) (gB (gBin isnotD ga gb)) := dt_cmp op_notN ok_isnotD ha hb (nomark _)
theorem dt_chain {op op' : CmpOp} {r r' : R2} {f f' : F2} (ho : OpR X (compareOp op) r) (hf : BinOk X.K r f) (ho' : OpR X (compareOp op') r') (hf' : BinOk X.K r' f') (ha : DE X E a ga) (hb : DE X E b gb) (hc : DE X E c gc)
    (hm : lastMarks [op, op'] [b, c] = false := by with_unfolding_all rfl) : DT X E (.Compare a [op, op'] [b, c] pos) (gB (gChain f f' ga gb gc)) := by
  refine pt_imp (pt_chain ho ho' ha hb hc hm) ?_
  rintro σ H Q ⟨G, S, ρ, w, kx, k, hr, sr, xl, kl, h⟩
  refine ⟨G, S, ρ, w, kx, _, hr, sr, xl, fun G1 S1 H1 w1 d x x1 hr1 rp h1 => ⟨G1, S1, ρ, w1, kx, _, hr1, sr.mono x1, xl.mono x1, fun G2 S2 H2 w2 e y x2 hr2 rp2 h2 => hf hr2 (rp.mono x2) rp2 (k := fun z w3 => match z with
    | .bl true => gc ρ w3 kx fun u w4 => f' e u w4 fun x w1 => match x with
      | .bl b => k b w1
      | _ => False
    | .bl false => k false w3
    | _ => False) ?_ h2, h1⟩, h⟩
  intro G3 S3 H3 w3 z v x3 hr3 rp3 h3
  have x03 := (x1.trans x2).trans x3
  cases z with
  | bl q =>
    cases rp3
    cases q with
    | false => exact ⟨false, rfl, false, rfl, kl _ _ _ _ _ x03 hr3 h3⟩
    | true => exact ⟨true, rfl, G3, S3, ρ, w3, kx, _, hr3, sr.mono x03, xl.mono x03, fun G4 S4 H4 w4 u v' x4 hr4 rp4 h4 => hf' hr4 ((rp2.mono x3).mono x4) rp4 (k := fun x w1 => match x with
      | .bl b => k b w1
      | _ => False) (fun G5 S5 H5 w5 z5 v5 x5 hr5 rp5 h5 => by
        cases z5 with
        | bl q5 =>
          cases rp5
          exact ⟨q5, rfl, kl _ _ _ _ _ ((x03.trans x4).trans x5) hr5 h5⟩
        | _ => exact h5.elim) h4, h3⟩
  | _ => exact h3.elim
/-- truth of any value -/
def truD : D → Wd → KB → Prop := fun x w k => match x with
  | .non => k false w
  | .bl b => k b w
  | .int i => k (i != 0) w
  | .str y => y.length ≤ sizeLine ∧ k ((y.length : Int) != 0) w
  | .lst xs => k (!xs.isEmpty) w
  | .tup xs => k (!xs.isEmpty) w
  | _ => False
def gTru (g : GE) : GT := fun ρ w kx k => g ρ w kx fun x w1 => truD x w1 k
theorem rep_isEmpty {K : PySem.W.Frag} {G : Gh} {S : Hp} {xs : List V} {ds : List D} (r : RepAll K G S xs ds) : ds.isEmpty = xs.isEmpty := by
  cases r <;> rfl
theorem dt_truth (ha : DE X E a ga) (he : ∀ whole, isTrue a X.env whole = (do let v ← whole; standAt a.pos; holding [v] (truthy v)) := by intro _; rfl) : DT X E a (gTru ga) := by
  refine pt_imp (pt_truth ha he) ?_
  rintro σ H Q ⟨G, S, ρ, w, kx, k, hr, sr, xl, kl, h⟩
  refine ⟨G, S, ρ, w, kx, _, hr, sr, xl, fun G1 S1 H1 w1 d x x1 hr1 rp h1 => ?_, h⟩
  cases rp with
  | non => exact ⟨_, rfl, kl _ _ _ _ _ x1 hr1 h1⟩
  | bl b => exact ⟨_, rfl, kl _ _ _ _ _ x1 hr1 h1⟩
  | int i => exact ⟨_, rfl, kl _ _ _ _ _ x1 hr1 h1⟩
  | str y => exact ⟨_, ⟨h1.1, rfl⟩, kl _ _ _ _ _ x1 hr1 h1.2⟩
  | lst e r => exact ⟨_, .inl ⟨_, .inl (.inl (hr1.same _ _ e)), rfl⟩, by rw [← rep_isEmpty r]; exact kl _ _ _ _ _ x1 hr1 h1⟩
  | tup e r => exact ⟨_, .inr (.inl ⟨_, .inl (.inl (hr1.same _ _ e)), rfl⟩), by rw [← rep_isEmpty r]; exact kl _ _ _ _ _ x1 hr1 h1⟩
  | rf _ => exact h1.elim
  | st _ => exact h1.elim
  | ob _ => exact h1.elim
  | scr _ => exact h1.elim
def gAnd (t u : GT) : GT := fun ρ w kx k => t ρ w kx fun c w1 => if c = true then u ρ w1 kx k else k false w1
def gOr (t u : GT) : GT := fun ρ w kx k => t ρ w kx fun c w1 => if c = true then k true w1 else u ρ w1 kx k
def gNot (t : GT) : GT := fun ρ w kx k => t ρ w kx fun c w1 => k (!c) w1
theorem dw_and1 (ha : DT X E a ta) : DW X E (.BoolOp .And [a] pos) ta := pw_and1 ha
theorem dw_or1 (ha : DT X E a ta) : DW X E (.BoolOp .Or [a] pos) ta := pw_or1 ha
theorem dw_and (ha : DT X E a ta) (hb : DW X E (.BoolOp .And (b :: rest) pos) tb) : DW X E (.BoolOp .And (a :: b :: rest) pos) (gAnd ta tb) := by
  refine pw_imp (pw_and ha hb) ?_
  rintro σ H Q ⟨G, S, ρ, w, kx, k, hr, sr, xl, kl, h⟩
  refine ⟨G, S, ρ, w, kx, _, hr, sr, xl, fun G1 S1 H1 w1 c x1 hr1 h1 => ?_, h⟩
  cases c with
  | true => exact iteT ⟨G1, S1, ρ, w1, kx, k, hr1, sr.mono x1, xl.mono x1, kl.mono x1, by simpa using h1⟩
  | false => exact iteF (kl _ _ _ _ _ x1 hr1 (by simpa using h1))
theorem dw_or (ha : DT X E a ta) (hb : DW X E (.BoolOp .Or (b :: rest) pos) tb) : DW X E (.BoolOp .Or (a :: b :: rest) pos) (gOr ta tb) := by
  refine pw_imp (pw_or ha hb) ?_
  rintro σ H Q ⟨G, S, ρ, w, kx, k, hr, sr, xl, kl, h⟩
  refine ⟨G, S, ρ, w, kx, _, hr, sr, xl, fun G1 S1 H1 w1 c x1 hr1 h1 => ?_, h⟩
  cases c with
  | false => exact iteF ⟨G1, S1, ρ, w1, kx, k, hr1, sr.mono x1, xl.mono x1, kl.mono x1, by simpa using h1⟩
  | true => exact iteT (kl _ _ _ _ _ x1 hr1 (by simpa using h1))
theorem dt_w (h : DW X E a ta) : DT X E a ta := PW.pt h
theorem dt_not (ha : DT X E a ta) : DT X E (.UnaryOp .Not a pos) (gNot ta) := by
  refine pt_imp (pt_not ha) ?_
  rintro σ H Q ⟨G, S, ρ, w, kx, k, hr, sr, xl, kl, h⟩
  exact ⟨G, S, ρ, w, kx, _, hr, sr, xl, fun G1 S1 H1 w1 c x1 hr1 h1 => kl _ _ _ _ _ x1 hr1 h1, h⟩
/-- and, or, not as values of truths -/
def gAndV (ga gb : GE) : GE := fun ρ w kx k => ga ρ w kx fun x w1 => match x with
  | .bl true => gb ρ w1 kx k
  | .bl false => k (.bl false) w1
  | _ => False
def gOrV (ga gb : GE) : GE := fun ρ w kx k => ga ρ w kx fun x w1 => match x with
  | .bl true => k (.bl true) w1
  | .bl false => gb ρ w1 kx k
  | _ => False
def gNotV (ga : GE) : GE := fun ρ w kx k => ga ρ w kx fun x w1 => match x with
  | .bl b => k (.bl (!b)) w1
  | _ => False
theorem de_one {op} (h : DE X E a ga) : DE X E (.BoolOp op [a] pos) ga := pe_one h
theorem de_and (ha : DE X E a ga) (hb : DE X E (.BoolOp .And (b :: rest) pos) gb) : DE X E (.BoolOp .And (a :: b :: rest) pos) (gAndV ga gb) := by
  refine pe_imp (pe_and ha hb) ?_
  rintro σ H Q ⟨G, S, ρ, w, kx, k, hr, sr, xl, kl, h⟩
  refine ⟨G, S, ρ, w, kx, _, hr, sr, xl, fun G1 S1 H1 w1 d x x1 hr1 rp h1 => ?_, h⟩
  cases rp with
  | bl q =>
    cases q with
    | true => exact ⟨true, rfl, iteT ⟨G1, S1, ρ, w1, kx, k, hr1, sr.mono x1, xl.mono x1, kl.mono x1, h1⟩⟩
    | false => exact ⟨false, rfl, iteF ((kl.mono x1).here hr1 (.bl _) h1)⟩
  | _ => exact h1.elim
theorem de_or (ha : DE X E a ga) (hb : DE X E (.BoolOp .Or (b :: rest) pos) gb) : DE X E (.BoolOp .Or (a :: b :: rest) pos) (gOrV ga gb) := by
  refine pe_imp (pe_or ha hb) ?_
  rintro σ H Q ⟨G, S, ρ, w, kx, k, hr, sr, xl, kl, h⟩
  refine ⟨G, S, ρ, w, kx, _, hr, sr, xl, fun G1 S1 H1 w1 d x x1 hr1 rp h1 => ?_, h⟩
  cases rp with
  | bl q =>
    cases q with
    | false => exact ⟨false, rfl, iteF ⟨G1, S1, ρ, w1, kx, k, hr1, sr.mono x1, xl.mono x1, kl.mono x1, h1⟩⟩
    | true => exact ⟨true, rfl, iteT ((kl.mono x1).here hr1 (.bl _) h1)⟩
  | _ => exact h1.elim
theorem de_not (ha : DE X E a ga) : DE X E (.UnaryOp .Not a pos) (gNotV ga) := by
  refine pe_imp (pe_not ha) ?_
  rintro σ H Q ⟨G, S, ρ, w, kx, k, hr, sr, xl, kl, h⟩
  refine ⟨G, S, ρ, w, kx, _, hr, sr, xl, fun G1 S1 H1 w1 d x x1 hr1 rp h1 => ?_, h⟩
  cases rp with
  | bl q => exact ⟨q, rfl, (kl.mono x1).here hr1 (.bl _) h1⟩
  | _ => exact h1.elim
def gIf (t : GT) (ga gb : GE) : GE := fun ρ w kx k => t ρ w kx fun c w1 => if c = true then ga ρ w1 kx k else gb ρ w1 kx k
theorem de_ifExp {t : GT} (hc : DT X E c t) (ha : DE X E a ga) (hb : DE X E b gb) : DE X E (.IfExp c a b pos) (gIf t ga gb) := by
  refine pe_imp (pe_ifExp hc ha hb) ?_
  rintro σ H Q ⟨G, S, ρ, w, kx, k, hr, sr, xl, kl, h⟩
  refine ⟨G, S, ρ, w, kx, _, hr, sr, xl, fun G1 S1 H1 w1 c x1 hr1 h1 => ?_, h⟩
  cases c with
  | true => exact iteT ⟨G1, S1, ρ, w1, kx, k, hr1, sr.mono x1, xl.mono x1, kl.mono x1, by simpa using h1⟩
  | false => exact iteF ⟨G1, S1, ρ, w1, kx, k, hr1, sr.mono x1, xl.mono x1, kl.mono x1, by simpa using h1⟩
end
end DL

namespace DL
open PySem PySem.Spec PyProof.Rows L2

/-! ### arguments, displays -/
def gaNil : GA := fun _ w _ k => k [] w
def gaCons (g : GE) (r : GA) : GA := fun ρ w kx k => g ρ w kx fun x w1 => r ρ w1 kx fun xs w2 => k (x :: xs) w2
def gTup (t : GA) : GE := fun ρ w kx k => t ρ w kx fun xs w1 => xs.length ≤ sizeLine ∧ k (.tup xs) w1
def gLst (t : GA) : GE := fun ρ w kx k => t ρ w kx fun xs w1 => xs.length ≤ sizeLine ∧ k (.lst xs) w1
/-- a list that may change -/
def gLstC (t : GA) : GE := fun ρ w kx k => t ρ w kx fun xs w1 => xs.length ≤ sizeLine ∧ k (.rf w1.M.length) ⟨w1.M ++ [.lst xs], w1.n⟩
section
variable {X : Cx} {E : XK} {e : Expr} {es : List Expr} {g : GE} {t : GA} {pos : Pos}
theorem da_nil : DA X E [] gaNil := pa_imp pa_nil (by
  rintro σ H Q ⟨G, S, ρ, w, kx, k, hr, sr, xl, kl, h⟩
  exact kl _ _ _ _ _ _ (Ext.refl _ _) hr .nil h)
theorem da_cons (ha : DE X E e g) (hr : DA X E es t) (hs : starEach (e :: es) X.env = (false, eval e X.env) :: starEach es X.env := by rfl) : DA X E (e :: es) (gaCons g t) := by
  refine pa_imp (pa_cons ha hr hs) ?_
  rintro σ H Q ⟨G, S, ρ, w, kx, k, hr, sr, xl, kl, h⟩
  exact ⟨G, S, ρ, w, kx, _, hr, sr, xl, fun G1 S1 H1 w1 d x x1 hr1 rp h1 => ⟨G1, S1, ρ, w1, kx, _, hr1, sr.mono x1, xl.mono x1, fun G2 S2 H2 w2 ds xs x2 hr2 rp2 h2 => kl _ _ _ _ _ _ (x1.trans x2) hr2 (.cons (rp.mono x2) rp2) h2, h1⟩, h⟩
theorem de_tup {x1} (h : DA X E es t) : DE X E (.Tuple es x1 pos) (gTup t) := by
  refine pe_imp (pe_tup h) ?_
  rintro σ H Q ⟨G, S, ρ, w, kx, k, hr, sr, xl, kl, h⟩
  exact ⟨G, S, ρ, w, kx, _, hr, sr, xl, fun G1 S1 H1 w1 ds xs x1 hr1 rp h1 => ⟨by rw [rp.length]; exact h1.1, (kl.mono x1).newT hr1 rp h1.2⟩, h⟩
theorem de_lst (h : DA X E es t) : DE X E (.List es pos) (gLst t) := by
  refine pe_imp (pe_lst h) ?_
  rintro σ H Q ⟨G, S, ρ, w, kx, k, hr, sr, xl, kl, h⟩
  exact ⟨G, S, ρ, w, kx, _, hr, sr, xl, fun G1 S1 H1 w1 ds xs x1 hr1 rp h1 => ⟨by rw [rp.length]; exact h1.1, (kl.mono x1).newL hr1 rp h1.2⟩, h⟩
/-- a new cell -/
theorem KL.newCL {K : PySem.W.Frag} {G : Gh} {S H : Hp} {w : Wd} {k : KD} {Q : VK} {xs : List V} {ds : List D} (kl : KL K G S k Q) (hr : HR K G S w H) (r : RepAll K G S xs ds) (h : k (.rf w.M.length) ⟨w.M ++ [.lst ds], w.n⟩) : ∀ p, H p = none → Q (.ref p) (upd H p (.lst xs)) := fun p hp => by
  have x : Ext G S ⟨G.al ++ [p], G.st, G.fr⟩ S := ⟨⟨[p], rfl⟩, fun _ z => z, fun _ z => z, Same.refl S⟩
  obtain ⟨h1, _⟩ := hr.newC hp (.lst xs) (.lst ds) ⟨hr.freshS hp, xs, upd_same, r.mono x⟩
  refine kl _ _ _ _ _ _ x h1 (.rf ?_) h
  show (G.al ++ [p])[w.M.length]? = some p
  rw [List.getElem?_append_right (by rw [hr.len]; exact Nat.le_refl _), hr.len, Nat.sub_self]
  rfl
theorem de_lstC (h : DA X E es t) : DE X E (.List es pos) (gLstC t) := by
  refine pe_imp (pe_lst h) ?_
  rintro σ H Q ⟨G, S, ρ, w, kx, k, hr, sr, xl, kl, h⟩
  exact ⟨G, S, ρ, w, kx, _, hr, sr, xl, fun G1 S1 H1 w1 ds xs x1 hr1 rp h1 => ⟨by rw [rp.length]; exact h1.1, (kl.mono x1).newCL hr1 rp h1.2⟩, h⟩
/-- a changeable list that changes no more -/
def gFrz (g : GE) : GE := fun ρ w kx k => g ρ w kx fun x w1 => match x with
  | .rf i => match w1.M[i]? with
    | some (.lst ds) => k (.lst ds) ⟨w1.M.set i .dead, w1.n⟩
    | _ => False
  | _ => False
theorem de_frz (h : DE X E e g) : DE X E e (gFrz g) := by
  refine pe_imp h ?_
  rintro σ H Q ⟨G, S, ρ, w, kx, k, hr, sr, xl, kl, h⟩
  refine ⟨G, S, ρ, w, kx, _, hr, sr, xl, fun G1 S1 H1 w1 d x x1 hr1 rp h1 => ?_, h⟩
  cases rp with
  | rf ha =>
    rename_i a i
    simp only at h1
    split at h1
    · rename_i ds e2
      obtain ⟨S2, hr2, x2, rp2⟩ := hr1.freeze ha e2
      exact kl _ _ _ _ _ _ (x1.trans x2) hr2 rp2 h1
    · exact h1.elim
  | _ => exact h1.elim
end

/-! ### what a list or tuple holds -/
def seqD (d : D) (w : Wd) : Option (List D) := match d with
  | .lst xs => some xs
  | .tup xs => some xs
  | .rf c => match w.M[c]? with
    | some (.lst xs) => some xs
    | _ => none
  | _ => none
theorem rep_seq {K : PySem.W.Frag} {G : Gh} {S H : Hp} {w : Wd} {v : V} {d : D} {ds : List D} (hr : HR K G S w H) (r : Rep K G S v d) (h : seqD d w = some ds) :
    ∃ a xs, v = .ref a ∧ (SqL K H a xs ∨ SqT K H a xs) ∧ RepAll K G S xs ds := by
  cases r with
  | lst e r => cases h; exact ⟨_, _, rfl, .inl (.inl (.inl (hr.same _ _ e))), r⟩
  | tup e r => cases h; exact ⟨_, _, rfl, .inr (.inl (.inl (hr.same _ _ e))), r⟩
  | rf e =>
    rename_i a i
    unfold seqD at h
    simp only at h
    split at h
    · rename_i xs e2
      cases h
      obtain ⟨_, ys, h1, h2⟩ := hr.cell i a _ e e2
      exact ⟨_, _, rfl, .inl (.inl (.inl h1)), h2⟩
    · cases h
  | _ => cases h
theorem rep_at {K : PySem.W.Frag} {G : Gh} {S : Hp} {xs : List V} {ds : List D} {i : Int} {d : D} (r : RepAll K G S xs ds) (h : atI ds i = some d) : ∃ v, atI xs i = some v ∧ Rep K G S v d := by
  unfold atI at h ⊢
  rw [r.length]
  cases e : ixN ds.length i with
  | none => rw [e] at h; cases h
  | some j =>
    rw [e] at h
    exact r.get h
def ixD : F2 := fun x y w k => match y with
  | .int i => match x with
    | .str z => z.length ≤ sizeLine ∧ match atI z.cps.toList i with
      | some c => k (.str ⟨#[c]⟩) w
      | none => False
    | _ => match seqD x w with
      | some ds => match atI ds i with
        | some d => k d w
        | none => False
      | none => False
  | _ => False
theorem ok_ixD {K : PySem.W.Frag} : BinOk K (rIx K) ixD := by
  intro G S H w x y d e k Q hr rx ry kl h
  cases ry with
  | int i =>
    have seq : (match seqD d w with
      | some ds => match atI ds i with
        | some d => k d w
        | none => False
      | none => False) → rIx K x (.int i) H Q := fun h => by
      split at h
      · rename_i ds e1
        split at h
        · rename_i d2 e2
          obtain ⟨a, xs, rfl, hs, r⟩ := rep_seq hr rx e1
          obtain ⟨v, h1, h2⟩ := rep_at r e2
          rcases hs with hs | hs
          · exact .inl ⟨_, _, _, _, rfl, rfl, hs, h1, kl.here hr h2 h⟩
          · exact .inr (.inl ⟨_, _, _, _, rfl, rfl, hs, h1, kl.here hr h2 h⟩)
        · exact h.elim
      · exact h.elim
    cases rx with
    | str z =>
      obtain ⟨h1, h⟩ := h
      split at h
      · rename_i c e2
        exact .inr (.inr ⟨_, _, _, rfl, rfl, h1, e2, kl.here hr (.str _) h⟩)
      · exact h.elim
    | lst e1 r => exact seq h
    | tup e1 r => exact seq h
    | rf e1 => exact seq h
    | _ => exact h.elim
  | _ => exact h.elim
section
variable {X : Cx} {E : XK} {a b : Expr} {ga gb : GE} {pos : Pos}
theorem de_ix (ha : DE X E a ga) (hb : DE X E b gb) (hs : PlainIx b := by exact fun _ _ => rfl) : DE X E (.Subscript a b pos) (gBin ixD ga gb) := pe_imp (pe_ix ix_seq ha hb hs) (bin_up ok_ixD)
end
/-! ### slices of lists and tuples -/
abbrev GO := Rho → Wd → KX → (Option Int → Wd → Prop) → Prop
def upO (K : PySem.W.Frag) (E : XK) (g : GO) : TO := fun σ H Q => ∃ G S ρ w kx k, HR K G S w H ∧ SR K G S σ ρ ∧ XL K G S kx E ∧ (∀ G' S' H' w' o, Ext G S G' S' → HR K G' S' w' H' → k o w' → Q o H') ∧ g ρ w kx k
def DO (X : Cx) (E : XK) (e : Option Expr) (g : GO) : Prop := PO X e (upO X.K E g)
def goNone : GO := fun _ w _ k => k none w
def goSome (g : GE) : GO := fun ρ w kx k => g ρ w kx fun x w1 => match x with
  | .int i => k (some i) w1
  | _ => False
def cutD {α : Type} (xs : List α) (lo hi : Option Int) : List α := (xs.drop (HT.sIx xs.length 0 lo)).take (HT.sIx xs.length xs.length hi - HT.sIx xs.length 0 lo)
def slD : D → Option Int → Option Int → Wd → KD → Prop := fun x lo hi w k => match x with
  | .lst ds => k (.lst (cutD ds lo hi)) w
  | .tup ds => ¬ (HT.sIx ds.length 0 lo = 0 ∧ HT.sIx ds.length ds.length hi = ds.length) ∧ k (.tup (cutD ds lo hi)) w
  | .rf i => match w.M[i]? with
    | some (.lst ds) => k (.lst (cutD ds lo hi)) w
    | _ => False
  | _ => False
def gSl (f : D → Option Int → Option Int → Wd → KD → Prop) (g : GE) (l h : GO) : GE := fun ρ w kx k => g ρ w kx fun x w1 => l ρ w1 kx fun lo w2 => h ρ w2 kx fun hi w3 => f x lo hi w3 k
def SlOk (K : PySem.W.Frag) (r : V → Option Int → Option Int → Hp → VK → Prop) (f : D → Option Int → Option Int → Wd → KD → Prop) : Prop := ∀ {G S H w x d lo hi k Q}, HR K G S w H → Rep K G S x d → KL K G S k Q → f d lo hi w k → r x lo hi H Q
theorem rep_cut {K : PySem.W.Frag} {G : Gh} {S : Hp} {xs : List V} {ds : List D} {lo hi : Option Int} (r : RepAll K G S xs ds) : RepAll K G S (cutV xs lo hi) (cutD ds lo hi) := by
  unfold cutV cutD
  rw [r.length]
  exact (r.drop _).take _
section
variable {X : Cx} {E : XK} {a b : Expr} {ga gb : GE} {gl gh : GO} {pos p2 : Pos} {lo hi : Option Expr}
theorem do_none : DO X E none goNone := by
  have h := po_none (X := X)
  refine ⟨fun pins s σ H Q I q => h.run pins s σ H Q I ?_⟩
  obtain ⟨G, S, ρ, w, kx, k, hr, sr, xl, kl, h⟩ := q
  exact kl _ _ _ _ _ (Ext.refl _ _) hr h
theorem do_some (ha : DE X E a ga) : DO X E (some a) (goSome ga) := by
  have h := po_some (X := X) ha
  refine ⟨fun pins s σ H Q I q => h.run pins s σ H Q I ?_⟩
  obtain ⟨G, S, ρ, w, kx, k, hr, sr, xl, kl, h⟩ := q
  refine ⟨G, S, ρ, w, kx, _, hr, sr, xl, fun G1 S1 H1 w1 d x x1 hr1 rp h1 => ?_, h⟩
  cases rp with
  | int i => exact ⟨i, rfl, kl _ _ _ _ _ x1 hr1 h1⟩
  | _ => exact h1.elim
theorem de_slice {r : V → Option Int → Option Int → Hp → VK → Prop} {f : D → Option Int → Option Int → Wd → KD → Prop} (hs : SlR X r) (hf : SlOk X.K r f) (he : DE X E a ga) (hl : DO X E lo gl) (hu : DO X E hi gh) : DE X E (.Subscript a (.Slice lo hi none p2) pos) (gSl f ga gl gh) := by
  refine pe_imp (pe_slice hs he hl hu) ?_
  rintro σ H Q ⟨G, S, ρ, w, kx, k, hr, sr, xl, kl, h⟩
  exact ⟨G, S, ρ, w, kx, _, hr, sr, xl, fun G1 S1 H1 w1 d x x1 hr1 rp h1 => ⟨G1, S1, ρ, w1, kx, _, hr1, sr.mono x1, xl.mono x1, fun G2 S2 H2 w2 l x2 hr2 h2 =>
    ⟨G2, S2, ρ, w2, kx, _, hr2, sr.mono (x1.trans x2), xl.mono (x1.trans x2), fun G3 S3 H3 w3 u x3 hr3 h3 => hf hr3 (rp.mono (x2.trans x3)) (kl.mono ((x1.trans x2).trans x3)) h3, h2⟩, h1⟩, h⟩
def rSlLT (K : PySem.W.Frag) : V → Option Int → Option Int → Hp → VK → Prop := fun x lo hi H Q => rSlL K x lo hi H Q ∨ rSlT K x lo hi H Q
theorem sl_LT : SlR X (rSlLT X.K) := sl_list.or sl_tup
theorem ok_slLT {K : PySem.W.Frag} : SlOk K (rSlLT K) slD := by
  intro G S H w x d lo hi k Q hr rx kl h
  cases rx with
  | lst e r => exact .inl ⟨_, _, rfl, .inl (.inl (hr.same _ _ e)), kl.newL hr (rep_cut r) h⟩
  | tup e r => exact .inr ⟨_, _, rfl, .inl (.inl (hr.same _ _ e)), by rw [r.length]; exact h.1, kl.newT hr (rep_cut r) h.2⟩
  | rf e =>
    unfold slD at h
    simp only at h
    split at h
    · rename_i xs e2
      obtain ⟨_, ys, h1, h2⟩ := hr.cell _ _ _ e e2
      exact .inl ⟨_, _, rfl, .inl (.inl h1), kl.newL hr (rep_cut h2) h⟩
    · exact h.elim
  | _ => exact h.elim
theorem de_sl (he : DE X E a ga) (hl : DO X E lo gl) (hu : DO X E hi gh) : DE X E (.Subscript a (.Slice lo hi none p2) pos) (gSl slD ga gl gh) := de_slice sl_LT ok_slLT he hl hu
end
end DL

namespace DL
open PySem PySem.Spec PyProof.Rows L2

/-! ### defs -/
abbrev GF := List D → Wd → KX → KD → Prop
abbrev noX : KX := fun _ _ => False
def upF (n : Nat) (K : PySem.W.Frag) (g : GF) : Sp := fun vs H Q E => ∃ G S ds w kx k, ds.length = n ∧ HR K G S w H ∧ RepAll K G S vs ds ∧ XL K G S kx E ∧ KL K G S k Q ∧ g ds w kx k
theorem up_imp {n : Nat} {K : PySem.W.Frag} {g g' : GF} (h : ∀ ds w kx k, g' ds w kx k → g ds w kx k) : ∀ vs H Q E, upF n K g' vs H Q E → upF n K g vs H Q E := by
  rintro vs H Q E ⟨G, S, ds, w, kx, k, h1, h2, h3, h4, h5, h6⟩
  exact ⟨G, S, ds, w, kx, k, h1, h2, h3, h4, h5, h _ _ _ _ h6⟩
theorem xl_no {K : PySem.W.Frag} {G : Gh} {S : Hp} {E : XK} : XL K G S noX E := fun _ _ _ _ _ _ _ _ _ _ h => h.elim
def rho (n : Nat) (ds : List D) : Rho := ds.map some ++ List.replicate (n - ds.length) none
def sem0 (n : Nat) (g : GS) : GF := fun ds w _ k => g { nx := fun _ w' => k .non w', rt := k, ex := noX } (rho n ds) w
def semX (n : Nat) (g : GS) : GF := fun ds w kx k => g { nx := fun _ w' => k .non w', rt := k, ex := kx } (rho n ds) w
theorem sr_start {K : PySem.W.Frag} {G : Gh} {S : Hp} {N : List Str} : ∀ {vs : List V} {ds : List D}, RepAll K G S vs ds → SR K G S (L2.start N vs) (rho N.length ds) := by
  intro vs ds r
  have l := r.length
  refine ⟨by simp [L2.start, rho, l], fun i d e => ?_⟩
  unfold rho at e
  by_cases hi : i < ds.length
  · rw [List.getElem?_append_left (by simpa using hi)] at e
    have e' : ds[i]? = some d := by
      rw [List.getElem?_map] at e
      cases q : ds[i]? with
      | none => rw [q] at e; cases e
      | some z => rw [q] at e; simpa using e
    obtain ⟨v, h1, h2⟩ := r.get e'
    refine ⟨v, ?_, h2⟩
    unfold L2.start
    rw [List.getElem?_append_left (by simpa [l] using hi), List.getElem?_map, h1]
    rfl
  · rw [List.getElem?_append_right (by simpa using Nat.le_of_not_lt hi)] at e
    have := List.mem_of_getElem? e
    rw [List.mem_replicate] at this
    cases this.2
structure DefAt (K : PySem.W.Frag) (mg : Str → Option Value) (x : Str) (st : Stmt) (ps : List Str) : Prop where
  ex : ∃ f fd, Fun K x x st f fd ∧ mg x = some (.ref f) ∧ Binds K fd ps []
structure FnAt (P : Program) (w : World) (K : PySem.W.Frag) (mg : Str → Option Value) (base : Heap) (CX : CXT) (k : Nat) (x : Str) (n : Nat) (g : GF) : Prop where
  ex : ∃ f fd ps, FnOk P w K mg base CX k f fd ps (upF n K g) ∧ mg x = some (.ref f) ∧ PySem.W.keepIn K (.ref f) = true ∧ Binds K fd ps []
section
variable {P : Program} {w : World} {K : PySem.W.Frag} {mg : Str → Option Value} {base : Heap}
theorem FnAt.imp {CX : CXT} {k : Nat} {x : Str} {n : Nat} {g g' : GF} (h : FnAt P w K mg base CX k x n g) (i : ∀ ds w kx k, g' ds w kx k → g ds w kx k) : FnAt P w K mg base CX k x n g' := by
  obtain ⟨f, fd, ps, h1, h2⟩ := h.ex
  exact ⟨f, fd, ps, h1.imp (up_imp i), h2⟩
theorem FnAt.mono {CX : CXT} {j k : Nat} {x : Str} {n : Nat} {g : GF} (h : FnAt P w K mg base CX j x n g) (i : j ≤ k) : FnAt P w K mg base CX k x n g := by
  obtain ⟨f, fd, ps, h1, h2⟩ := h.ex
  exact ⟨f, fd, ps, h1.mono i, h2⟩
theorem fun_fn0 {x : Str} {st : Stmt} {f : Addr} {fd : FuncData} {N ps : List Str} {k : Nat} {g : GS} (F : Fun K x x st f fd) (S : FnScope N ps (defScope st))
    (hbody : ∀ (f : Addr) (cdv : Value) (A : Around) (outer : List Env) (s : Shared) (H : Hp) (E : XK), Room k (A.deeper (envOfC x (defScope st) s.heap.objs.size f cdv)) →
      DSs (cxOf CX0 P w K mg base N x (defScope st) f cdv A outer s H E).nox E0 (defBody st) g) : FnOk P w K mg base CX0 (k + 1) f fd ps (upF ps.length K (sem0 N.length g)) := by
  refine F.ok S (fun vs H Q E h => ?_) (fun cdv A outer s H vs Q E hr h => ?_)
  · obtain ⟨G, S, ds, w, kx, k, h1, h2, h3, _⟩ := h
    rw [h3.length, h1]
  · obtain ⟨G, S1, ds, w1, kx, k1, h1, h2, h3, h4, h5, h6⟩ := h
    refine ⟨_, hbody f cdv A outer s H E hr, G, S1, rho N.length ds, w1, { nx := fun _ w' => k1 .non w', rt := k1, ex := noX }, h2, sr_start h3, ⟨fun G' S' H' w' ρ' σ' x1 hr1 _ hk => h5 _ _ _ _ _ _ x1 hr1 .non hk, h5, ?_, ?_, xl_no⟩, h6⟩
    · intro _ _ _ _ _ _ _ _ _ z
      exact z.elim
    · intro _ _ _ _ _ _ _ _ _ z
      exact z.elim
theorem DefAt.fn0 {x : Str} {st : Stmt} {N ps : List Str} {k : Nat} {g : GS} (T : DefAt K mg x st ps) (S : FnScope N ps (defScope st))
    (hbody : ∀ (f : Addr) (cdv : Value) (A : Around) (outer : List Env) (s : Shared) (H : Hp) (E : XK), Room k (A.deeper (envOfC x (defScope st) s.heap.objs.size f cdv)) →
      DSs (cxOf CX0 P w K mg base N x (defScope st) f cdv A outer s H E).nox E0 (defBody st) g) : FnAt P w K mg base CX0 (k + 1) x ps.length (sem0 N.length g) := by
  obtain ⟨f, fd, F, hm, hb⟩ := T.ex
  exact ⟨f, fd, ps, fun_fn0 F S hbody, hm, F.kp, hb⟩
/-- by a proof of the def's own -/
theorem DefAt.mk0 {x : Str} {st : Stmt} {ps : List Str} {k n : Nat} {g : GF} (T : DefAt K mg x st ps) (h : ∀ f fd, Fun K x x st f fd → FnOk P w K mg base CX0 k f fd ps (upF n K g)) : FnAt P w K mg base CX0 k x n g := by
  obtain ⟨f, fd, F, hm, hb⟩ := T.ex
  exact ⟨f, fd, ps, h f fd F, hm, F.kp, hb⟩
end
section
variable {X : Cx} {E : XK} {k n : Nat} {g : GF} {x : Str} {e : Expr} {es : List Expr} {ga : GA} {p pos : Pos}
def gCall0 (n : Nat) (g : GF) (ga : GA) : GE := fun ρ w kx k => ga ρ w kx fun ds w1 => ds.length = n ∧ g ds w1 noX k
theorem de_call0 {j : Nat} (F : FnAt X.prog X.w X.K X.mg X.base CX0 j x n g) (hr : Room k X.A) (hg : Gl X x) (ha : DA X E (e :: es) ga) (hjk : j ≤ k := by decide) (hdb : (x == ("__debug__" : Str)) = false := by decide) (he : starEach (e :: es) X.env = (false, eval e X.env) :: starEach es X.env := by rfl) (hpl : (backTo pos (starEach es X.env)).any (·.1) = false := by rfl) :
    DE X E (.Call (.Name x p) (e :: es) [] pos) (gCall0 n g ga) := by
  obtain ⟨f, fd, ps, h1, h2, h3, h4⟩ := F.ex
  refine pe_imp (pe_call h1 (hr.mono hjk) hg h2 h3 h4 .nil pass0 ha hdb he hpl) ?_
  rintro σ H Q ⟨G, S, ρ, w, kx, k, hr, sr, xl, kl, h⟩
  refine ⟨G, S, ρ, w, kx, _, hr, sr, xl, fun G1 S1 H1 w1 ds vs x1 hr1 rp hq => ?_, h⟩
  show upF n X.K g (vs ++ []) H1 Q E0
  rw [List.append_nil]
  exact ⟨G1, S1, ds, w1, noX, k, hq.1, hr1, rp, xl_no, kl.mono x1, hq.2⟩
theorem de_call00 {j : Nat} (F : FnAt X.prog X.w X.K X.mg X.base CX0 j x n g) (hr : Room k X.A) (hg : Gl X x) (hjk : j ≤ k := by decide) (hdb : (x == ("__debug__" : Str)) = false := by decide) :
    DE X E (.Call (.Name x p) [] [] pos) (gCall0 n g gaNil) := by
  obtain ⟨f, fd, ps, h1, h2, h3, h4⟩ := F.ex
  refine pe_imp (pe_call0 h1 (hr.mono hjk) hg h2 h3 h4 .nil pass0 hdb) ?_
  rintro σ H Q ⟨G, S, ρ, w, kx, k, hr, sr, xl, kl, h⟩
  exact ⟨G, S, [], w, noX, k, h.1, hr, .nil, xl_no, kl, h.2⟩
end

/-! ### built-ins -/
abbrev FB := List D → Wd → KD → Prop
def CallOk (K : PySem.W.Frag) (r : List V → Hp → VK → Prop) (f : FB) : Prop := ∀ {G S H w xs ds k Q}, HR K G S w H → RepAll K G S xs ds → KL K G S k Q → f ds w k → r xs H Q
def gCB (f : FB) (ga : GA) : GE := fun ρ w kx k => ga ρ w kx fun ds w1 => f ds w1 k
section
variable {X : Cx} {E : XK} {r : List V → Hp → VK → Prop} {f : FB} {id T : String} {x : Str} {e : Expr} {es : List Expr} {ga : GA} {p pos : Pos}
theorem cb_up {K : PySem.W.Frag} (hf : CallOk K r f) : ∀ σ H Q, upE K E (gCB f ga) σ H Q → tCB r (upA K E ga) σ H Q := by
  rintro σ H Q ⟨G, S, ρ, w, kx, k, hr, sr, xl, kl, h⟩
  exact ⟨G, S, ρ, w, kx, _, hr, sr, xl, fun G1 S1 H1 w1 ds vs x1 hr1 rp hq => hf hr1 rp (kl.mono x1) hq, h⟩
theorem de_cb (hc : CallR X (.builtin id) r) (hf : CallOk X.K r f) (hg : Gl X x) (hm : X.mg x = none) (hv : bootBuiltins x = some (.builtin id)) (ha : DA X E (e :: es) ga) (hn : x ≠ "__name__" := by decide) (hdb : (x == ("__debug__" : Str)) = false := by decide)
    (he : starEach (e :: es) X.env = (false, eval e X.env) :: starEach es X.env := by rfl) (hpl : (backTo pos (starEach es X.env)).any (·.1) = false := by rfl) : DE X E (.Call (.Name x p) (e :: es) [] pos) (gCB f ga) :=
  pe_imp (pe_callB hc hg hm hv ha hn hdb he hpl) (cb_up hf)
theorem de_ct (hc : CallR X (.type T) r) (hf : CallOk X.K r f) (hg : Gl X x) (hm : X.mg x = none) (hv : bootBuiltins x = some (.type T)) (ha : DA X E (e :: es) ga) (hn : x ≠ "__name__" := by decide) (hdb : (x == ("__debug__" : Str)) = false := by decide)
    (he : starEach (e :: es) X.env = (false, eval e X.env) :: starEach es X.env := by rfl) (hpl : (backTo pos (starEach es X.env)).any (·.1) = false := by rfl) : DE X E (.Call (.Name x p) (e :: es) [] pos) (gCB f ga) :=
  pe_imp (pe_callTy hc hg hm hv ha hn hdb he hpl) (cb_up hf)
end
theorem one_rep {K : PySem.W.Frag} {G : Gh} {S : Hp} {xs : List V} {d : D} (r : RepAll K G S xs [d]) : ∃ v, xs = [v] ∧ Rep K G S v d := by
  cases r with
  | cons h t => cases t; exact ⟨_, rfl, h⟩
theorem two_rep {K : PySem.W.Frag} {G : Gh} {S : Hp} {xs : List V} {d e : D} (r : RepAll K G S xs [d, e]) : ∃ v u, xs = [v, u] ∧ Rep K G S v d ∧ Rep K G S u e := by
  cases r with
  | cons h t =>
    obtain ⟨u, rfl, h2⟩ := one_rep t
    exact ⟨_, _, rfl, h, h2⟩
def fAbs : FB := fun ds w k => match ds with
  | [.int i] => k (.int i.natAbs) w
  | _ => False
theorem ok_abs {K : PySem.W.Frag} : CallOk K (fun xs H Q => ∃ i, xs = [.int i] ∧ Q (.int (if i < 0 then -i else i)) H) fAbs := by
  intro G S H w xs ds k Q hr rx kl h
  unfold fAbs at h
  split at h
  · rename_i i
    obtain ⟨v, rfl, r⟩ := one_rep rx
    cases r
    refine ⟨_, rfl, ?_⟩
    have e : (if i < 0 then -i else i) = (i.natAbs : Int) := by split <;> omega
    rw [e]
    exact kl.here hr (.int _) h
  · exact h.elim
def fLen : FB := fun ds w k => match ds with
  | [.str z] => z.length ≤ sizeLine ∧ k (.int z.length) w
  | [d] => match seqD d w with
    | some xs => k (.int xs.length) w
    | none => match d with
      | .rf c => match w.M[c]? with
        | some (.dk kvs) => k (.int kvs.length) w
        | _ => False
      | _ => False
  | _ => False
def rLen (K : PySem.W.Frag) : List V → Hp → VK → Prop := fun xs H Q => (∃ x n, xs = [x] ∧ LenV K x H n ∧ Q (.int n) H) ∨ (∃ (a : Addr) (kvs : List (Key × V)), xs = [V.ref a] ∧ Rd H a (.dK kvs) ∧ Q (.int kvs.length) H)
theorem call_lenR {X : Cx} : CallR X (.builtin "len") (rLen X.K) := by
  intro pins s σ H xs us Q I r h
  rcases h with h | ⟨a, kvs, rfl, hd, q⟩
  · exact call_len pins s σ H xs us Q I r h
  · obtain ⟨u, rfl, r1⟩ := vals1 r
    cases r1
    exact d_len I hd fun t s' I' => ⟨.int kvs.length, H, I', ⟨_, rfl⟩, q⟩
theorem fs_len {K : PySem.W.Frag} {G : Gh} {S : Hp} {κ : Type} {xs : List (κ × V)} {ds : List (κ × D)} (r : FsRep K G S xs ds) : xs.length = ds.length := Paired.length r
theorem ok_len {K : PySem.W.Frag} : CallOk K (rLen K) fLen := by
  intro G S H w xs ds k Q hr rx kl h
  unfold fLen at h
  split at h
  · obtain ⟨v, rfl, r⟩ := one_rep rx
    cases r
    exact .inl ⟨_, _, rfl, ⟨h.1, rfl⟩, kl.here hr (.int _) h.2⟩
  · rename_i d hd
    obtain ⟨v, rfl, r⟩ := one_rep rx
    split at h
    · rename_i xs e1
      obtain ⟨a, ys, rfl, hs, r2⟩ := rep_seq hr r e1
      refine .inl ⟨_, _, rfl, ?_, kl.here hr (.int _) h⟩
      rcases hs with hs | hs
      · exact .inl ⟨ys, hs, r2.length.symm⟩
      · exact .inr ⟨ys, hs, r2.length.symm⟩
    · split at h
      · rename_i c
        split at h
        · rename_i kvs e2
          cases r with
          | rf ha =>
            obtain ⟨_, ks, h1, h2⟩ := hr.cell _ _ _ ha e2
            refine .inr ⟨_, ks, rfl, .inl h1, ?_⟩
            rw [fs_len h2]
            exact kl.here hr (.int _) h
        · exact h.elim
      · exact h.elim
  · exact h.elim
def tyD (d : D) (w : Wd) : Option String := match d with
  | .non => some "NoneType"
  | .bl _ => some "bool"
  | .int _ => some "int"
  | .str _ => some "str"
  | .lst _ => some "list"
  | .tup _ => some "tuple"
  | .rf c => match w.M[c]? with
    | some (.lst _) => some "list"
    | some (.dk _) => some "dict"
    | _ => none
  | _ => none
theorem rep_ty {K : PySem.W.Frag} {G : Gh} {S H : Hp} {w : Wd} {v : V} {d : D} {t : String} (hr : HR K G S w H) (r : Rep K G S v d) (h : tyD d w = some t) : TyX K H v (.type t) := by
  cases r with
  | non => cases h; exact .base .non
  | bl b => cases h; exact .base (.bl b)
  | int b => cases h; exact .base (.int b)
  | str b => cases h; exact .base (.str b)
  | lst e r => cases h; exact .base (.lst (hr.same _ _ e))
  | tup e r => cases h; exact .base (.tup (hr.same _ _ e))
  | rf e =>
    unfold tyD at h
    simp only at h
    split at h
    · rename_i xs e2
      cases h
      obtain ⟨_, ys, h1, h2⟩ := hr.cell _ _ _ e e2
      exact .base (.lst h1)
    · rename_i xs e2
      cases h
      obtain ⟨_, ys, h1, h2⟩ := hr.cell _ _ _ e e2
      exact .base (.dK h1)
    · cases h
  | _ => cases h
def fIsi : FB := fun ds w k => match ds with
  | [x, .ob (.ty n)] => match tyD x w with
    | some t => match kitB t n with
      | some b => k (.bl b) w
      | none => False
    | none => False
  | _ => False
theorem ok_isi {K : PySem.W.Frag} : CallOk K (rIsi K) fIsi := by
  intro G S H w xs ds k Q hr rx kl h
  unfold fIsi at h
  split at h
  · rename_i x n
    split at h
    · rename_i t e1
      split at h
      · rename_i b e2
        obtain ⟨v, u, rfl, r1, r2⟩ := two_rep rx
        cases r2
        exact ⟨_, _, _, _, b, rfl, .ty n, rep_ty hr r1 e1, kit_ty e2, kl.here hr (.bl _) h⟩
      · exact h.elim
    · exact h.elim
  · exact h.elim
theorem kit_int_int : kitB "int" "int" = some true := by decide +kernel
theorem kit_bool_int : kitB "bool" "int" = some true := by decide +kernel
theorem kit_str_int : kitB "str" "int" = some false := by decide +kernel
theorem kit_non_int : kitB "NoneType" "int" = some false := by decide +kernel
theorem kit_list_int : kitB "list" "int" = some false := by decide +kernel
theorem kit_tuple_int : kitB "tuple" "int" = some false := by decide +kernel
theorem kit_dict_int : kitB "dict" "int" = some false := by decide +kernel
theorem kit_int_bool : kitB "int" "bool" = some false := by decide +kernel
theorem kit_bool_bool : kitB "bool" "bool" = some true := by decide +kernel
theorem kit_str_bool : kitB "str" "bool" = some false := by decide +kernel
theorem kit_non_bool : kitB "NoneType" "bool" = some false := by decide +kernel
theorem kit_list_bool : kitB "list" "bool" = some false := by decide +kernel
theorem kit_tuple_bool : kitB "tuple" "bool" = some false := by decide +kernel
theorem kit_dict_bool : kitB "dict" "bool" = some false := by decide +kernel
theorem kit_int_str : kitB "int" "str" = some false := by decide +kernel
theorem kit_bool_str : kitB "bool" "str" = some false := by decide +kernel
theorem kit_str_str : kitB "str" "str" = some true := by decide +kernel
theorem kit_non_str : kitB "NoneType" "str" = some false := by decide +kernel
theorem kit_list_str : kitB "list" "str" = some false := by decide +kernel
theorem kit_tuple_str : kitB "tuple" "str" = some false := by decide +kernel
theorem kit_dict_str : kitB "dict" "str" = some false := by decide +kernel
theorem kit_int_list : kitB "int" "list" = some false := by decide +kernel
theorem kit_bool_list : kitB "bool" "list" = some false := by decide +kernel
theorem kit_str_list : kitB "str" "list" = some false := by decide +kernel
theorem kit_non_list : kitB "NoneType" "list" = some false := by decide +kernel
theorem kit_list_list : kitB "list" "list" = some true := by decide +kernel
theorem kit_tuple_list : kitB "tuple" "list" = some false := by decide +kernel
theorem kit_dict_list : kitB "dict" "list" = some false := by decide +kernel
theorem kit_int_tuple : kitB "int" "tuple" = some false := by decide +kernel
theorem kit_bool_tuple : kitB "bool" "tuple" = some false := by decide +kernel
theorem kit_str_tuple : kitB "str" "tuple" = some false := by decide +kernel
theorem kit_non_tuple : kitB "NoneType" "tuple" = some false := by decide +kernel
theorem kit_list_tuple : kitB "list" "tuple" = some false := by decide +kernel
theorem kit_tuple_tuple : kitB "tuple" "tuple" = some true := by decide +kernel
theorem kit_dict_tuple : kitB "dict" "tuple" = some false := by decide +kernel

def allBl : List D → Option (List Bool)
  | [] => some []
  | .bl b :: r => match allBl r with
    | some bs => some (b :: bs)
    | none => none
  | _ => none
def allInt : List D → Option (List Int)
  | [] => some []
  | .int b :: r => match allInt r with
    | some bs => some (b :: bs)
    | none => none
  | _ => none
theorem rep_bls {K : PySem.W.Frag} {G : Gh} {S : Hp} : ∀ {ds : List D} {vs : List V} {bs : List Bool}, RepAll K G S vs ds → allBl ds = some bs → vs = bs.map V.bl
  | [], _, _, r, e => by
    cases r
    cases e
    rfl
  | d :: ds, _, _, r, e => by
    cases r with
    | cons h r =>
      cases d with
      | bl b =>
        cases h
        unfold allBl at e
        cases q : allBl ds with
        | none =>
          rw [q] at e
          cases e
        | some bs =>
          rw [q] at e
          cases e
          rw [rep_bls r q]
          rfl
      | _ => simp [allBl] at e
theorem rep_ints {K : PySem.W.Frag} {G : Gh} {S : Hp} : ∀ {ds : List D} {vs : List V} {bs : List Int}, RepAll K G S vs ds → allInt ds = some bs → vs = bs.map V.int
  | [], _, _, r, e => by
    cases r
    cases e
    rfl
  | d :: ds, _, _, r, e => by
    cases r with
    | cons h r =>
      cases d with
      | int b =>
        cases h
        unfold allInt at e
        cases q : allInt ds with
        | none =>
          rw [q] at e
          cases e
        | some bs =>
          rw [q] at e
          cases e
          rw [rep_ints r q]
          rfl
      | _ => simp [allInt] at e
def fAll : FB := fun ds w k => match ds with
  | [.lst xs] => match allBl xs with
    | some bs => k (.bl (bs.all id)) w
    | none => False
  | _ => False
def fAny : FB := fun ds w k => match ds with
  | [.lst xs] => match allBl xs with
    | some bs => k (.bl (bs.any id)) w
    | none => False
  | _ => False
theorem ok_all {K : PySem.W.Frag} : CallOk K (rAll K) fAll := by
  intro G S H w xs ds k Q hr rx kl h
  unfold fAll at h
  split at h
  · split at h
    · rename_i bs e
      obtain ⟨v, rfl, r⟩ := one_rep rx
      cases r with
      | lst h1 r1 =>
        have e2 := rep_bls r1 e
        subst e2
        exact ⟨_, bs, rfl, .inl (.inl (hr.same _ _ h1)), kl.here hr (.bl _) h⟩
    · exact h.elim
  · exact h.elim
theorem ok_any {K : PySem.W.Frag} : CallOk K (rAny K) fAny := by
  intro G S H w xs ds k Q hr rx kl h
  unfold fAny at h
  split at h
  · split at h
    · rename_i bs e
      obtain ⟨v, rfl, r⟩ := one_rep rx
      cases r with
      | lst h1 r1 =>
        have e2 := rep_bls r1 e
        subst e2
        exact ⟨_, bs, rfl, .inl (.inl (hr.same _ _ h1)), kl.here hr (.bl _) h⟩
    · exact h.elim
  · exact h.elim
def fSum : FB := fun ds w k => match ds with
  | [.lst xs] => match allInt xs with
    | some bs => k (.int bs.sum) w
    | none => False
  | _ => False
theorem ok_sum {K : PySem.W.Frag} : CallOk K (rSum K) fSum := by
  intro G S H w xs ds k Q hr rx kl h
  unfold fSum at h
  split at h
  · split at h
    · rename_i bs e
      obtain ⟨v, rfl, r⟩ := one_rep rx
      cases r with
      | lst h1 r1 =>
        have e2 := rep_ints r1 e
        subst e2
        exact ⟨_, bs, rfl, .inl (.inl (hr.same _ _ h1)), kl.here hr (.int _) h⟩
    · exact h.elim
  · exact h.elim
/-- list(..) a new list that won't change; tuple(..) -/
def fList : FB := fun ds w k => match ds with
  | [d] => match seqD d w with
    | some xs => k (.lst xs) w
    | none => False
  | _ => False
def fTuple : FB := fun ds w k => match ds with
  | [d] => match seqD d w with
    | some xs => k (.tup xs) w
    | none => False
  | _ => False
theorem ok_list {K : PySem.W.Frag} : CallOk K (fun xs H Q => ∃ p ys, xs = [.ref p] ∧ (SqL K H p ys ∨ SqT K H p ys) ∧ ∀ l, H l = none → Q (.ref l) (upd H l (.lst ys))) fList := by
  intro G S H w xs ds k Q hr rx kl h
  unfold fList at h
  split at h
  · split at h
    · rename_i bs e
      obtain ⟨v, rfl, r⟩ := one_rep rx
      obtain ⟨a, ys, rfl, hs, r2⟩ := rep_seq hr r e
      exact ⟨_, ys, rfl, hs, kl.newL hr r2 h⟩
    · exact h.elim
  · exact h.elim
theorem ok_tuple {K : PySem.W.Frag} : CallOk K (fun xs H Q => ∃ p ys, xs = [.ref p] ∧ ((SqL K H p ys ∧ ∀ l, H l = none → Q (.ref l) (upd H l (.tup ys))) ∨ (SqT K H p ys ∧ Q (.ref p) H))) fTuple := by
  intro G S H w xs ds k Q hr rx kl h
  unfold fTuple at h
  split at h
  · rename_i d
    split at h
    · rename_i bs e
      obtain ⟨v, rfl, r⟩ := one_rep rx
      cases r with
      | lst e1 r =>
        cases e
        exact ⟨_, _, rfl, .inl ⟨.inl (.inl (hr.same _ _ e1)), kl.newT hr r h⟩⟩
      | tup e1 r =>
        cases e
        exact ⟨_, _, rfl, .inr ⟨.inl (.inl (hr.same _ _ e1)), kl.here hr (.tup e1 r) h⟩⟩
      | rf e1 =>
        unfold seqD at e
        simp only at e
        split at e
        · rename_i xs e2
          cases e
          obtain ⟨_, ys, h1, h2⟩ := hr.cell _ _ _ e1 e2
          exact ⟨_, _, rfl, .inl ⟨.inl (.inl h1), kl.newT hr h2 h⟩⟩
        · cases e
      | _ => cases e
    · exact h.elim
  · exact h.elim
def fInt : FB := fun ds w k => match ds with
  | [.int i] => k (.int i) w
  | [.bl b] => k (.int (if b then 1 else 0)) w
  | _ => False
theorem ok_int {K : PySem.W.Frag} : CallOk K (fun xs H Q => (∃ i, xs = [.int i] ∧ Q (.int i) H) ∨ ∃ k, xs = [.bl k] ∧ Q (.int (if k then 1 else 0)) H) fInt := by
  intro G S H w xs ds k Q hr rx kl h
  unfold fInt at h
  split at h
  · obtain ⟨v, rfl, r⟩ := one_rep rx
    cases r
    exact .inl ⟨_, rfl, kl.here hr (.int _) h⟩
  · obtain ⟨v, rfl, r⟩ := one_rep rx
    cases r
    exact .inr ⟨_, rfl, kl.here hr (.int _) h⟩
  · exact h.elim
def fMin2 : FB := fun ds w k => match ds with
  | [.int i, .int j] => k (.int (if j < i then j else i)) w
  | _ => False
theorem ok_min2 {K : PySem.W.Frag} : CallOk K (fun xs H Q => ∃ i j, xs = [.int i, .int j] ∧ Q (.int (if j < i then j else i)) H) fMin2 := by
  intro G S H w xs ds k Q hr rx kl h
  unfold fMin2 at h
  split at h
  · obtain ⟨v, u, rfl, r1, r2⟩ := two_rep rx
    cases r1
    cases r2
    exact ⟨_, _, rfl, kl.here hr (.int _) h⟩
  · exact h.elim
structure Blt (mg : Str → Option Value) : Prop where
  abs_ : mg "abs" = none
  len_ : mg "len" = none
  isi_ : mg "isinstance" = none
  all_ : mg "all" = none
  any_ : mg "any" = none
  sum_ : mg "sum" = none
  list_ : mg "list" = none
  tuple_ : mg "tuple" = none
  int_ : mg "int" = none
  bool_ : mg "bool" = none
  str_ : mg "str" = none
  min_ : mg "min" = none
  max_ : mg "max" = none
  range_ : mg "range" = none
  zip_ : mg "zip" = none
  sorted_ : mg "sorted" = none
  enum_ : mg "enumerate" = none
  divmod_ : mg "divmod" = none
section
variable {X : Cx} {E : XK} {e : Expr} {es : List Expr} {ga : GA} {p pos : Pos} (B : Blt X.mg)
include B
theorem de_abs (hg : Gl X "abs") (ha : DA X E (e :: es) ga) (he : starEach (e :: es) X.env = (false, eval e X.env) :: starEach es X.env := by rfl) (hpl : (backTo pos (starEach es X.env)).any (·.1) = false := by rfl) : DE X E (.Call (.Name "abs" p) (e :: es) [] pos) (gCB fAbs ga) := de_cb call_abs ok_abs hg B.abs_ (by decide +kernel) ha (he := he) (hpl := hpl)
theorem de_len (hg : Gl X "len") (ha : DA X E (e :: es) ga) (he : starEach (e :: es) X.env = (false, eval e X.env) :: starEach es X.env := by rfl) (hpl : (backTo pos (starEach es X.env)).any (·.1) = false := by rfl) : DE X E (.Call (.Name "len" p) (e :: es) [] pos) (gCB fLen ga) := de_cb call_lenR ok_len hg B.len_ (by decide +kernel) ha (he := he) (hpl := hpl)
theorem de_isi (hg : Gl X "isinstance") (ha : DA X E (e :: es) ga) (he : starEach (e :: es) X.env = (false, eval e X.env) :: starEach es X.env := by rfl) (hpl : (backTo pos (starEach es X.env)).any (·.1) = false := by rfl) : DE X E (.Call (.Name "isinstance" p) (e :: es) [] pos) (gCB fIsi ga) := de_cb call_isi ok_isi hg B.isi_ (by decide +kernel) ha (he := he) (hpl := hpl)
theorem de_all (hc : X.calm = true) (hg : Gl X "all") (ha : DA X E (e :: es) ga) (he : starEach (e :: es) X.env = (false, eval e X.env) :: starEach es X.env := by rfl) (hpl : (backTo pos (starEach es X.env)).any (·.1) = false := by rfl) : DE X E (.Call (.Name "all" p) (e :: es) [] pos) (gCB fAll ga) := de_cb (cr_all hc) ok_all hg B.all_ (by decide +kernel) ha (he := he) (hpl := hpl)
theorem de_any (hc : X.calm = true) (hg : Gl X "any") (ha : DA X E (e :: es) ga) (he : starEach (e :: es) X.env = (false, eval e X.env) :: starEach es X.env := by rfl) (hpl : (backTo pos (starEach es X.env)).any (·.1) = false := by rfl) : DE X E (.Call (.Name "any" p) (e :: es) [] pos) (gCB fAny ga) := de_cb (cr_any hc) ok_any hg B.any_ (by decide +kernel) ha (he := he) (hpl := hpl)
theorem de_sum (hc : X.calm = true) (hg : Gl X "sum") (ha : DA X E (e :: es) ga) (he : starEach (e :: es) X.env = (false, eval e X.env) :: starEach es X.env := by rfl) (hpl : (backTo pos (starEach es X.env)).any (·.1) = false := by rfl) : DE X E (.Call (.Name "sum" p) (e :: es) [] pos) (gCB fSum ga) := de_cb (cr_sum hc) ok_sum hg B.sum_ (by decide +kernel) ha (he := he) (hpl := hpl)
theorem de_list (hg : Gl X "list") (ha : DA X E (e :: es) ga) (he : starEach (e :: es) X.env = (false, eval e X.env) :: starEach es X.env := by rfl) (hpl : (backTo pos (starEach es X.env)).any (·.1) = false := by rfl) : DE X E (.Call (.Name "list" p) (e :: es) [] pos) (gCB fList ga) := de_ct call_list_of ok_list hg B.list_ (by decide +kernel) ha (he := he) (hpl := hpl)
theorem de_tuple (hg : Gl X "tuple") (ha : DA X E (e :: es) ga) (he : starEach (e :: es) X.env = (false, eval e X.env) :: starEach es X.env := by rfl) (hpl : (backTo pos (starEach es X.env)).any (·.1) = false := by rfl) : DE X E (.Call (.Name "tuple" p) (e :: es) [] pos) (gCB fTuple ga) := de_ct call_tuple_of ok_tuple hg B.tuple_ (by decide +kernel) ha (he := he) (hpl := hpl)
theorem de_toint (hg : Gl X "int") (ha : DA X E (e :: es) ga) (he : starEach (e :: es) X.env = (false, eval e X.env) :: starEach es X.env := by rfl) (hpl : (backTo pos (starEach es X.env)).any (·.1) = false := by rfl) : DE X E (.Call (.Name "int" p) (e :: es) [] pos) (gCB fInt ga) := de_ct call_int1 ok_int hg B.int_ (by decide +kernel) ha (he := he) (hpl := hpl)
theorem de_min2 (hc : X.calm = true) (hg : Gl X "min") (ha : DA X E (e :: es) ga) (he : starEach (e :: es) X.env = (false, eval e X.env) :: starEach es X.env := by rfl) (hpl : (backTo pos (starEach es X.env)).any (·.1) = false := by rfl) : DE X E (.Call (.Name "min" p) (e :: es) [] pos) (gCB fMin2 ga) := de_cb (call_min2 hc) ok_min2 hg B.min_ (by decide +kernel) ha (he := he) (hpl := hpl)
end
end DL

namespace DL
open PySem PySem.Spec PyProof.Rows L2

/-! ### statements -/
def gNext : GS := fun F ρ w => F.nx ρ w
def gSeq (t u : GS) : GS := fun F ρ w => t { F with nx := u F } ρ w
/-- what holds between the two is said -/
def gCut (t u : GS) : GS := fun F ρ w => ∃ M : Rho → Wd → Prop, t { F with nx := M } ρ w ∧ ∀ ρ w, M ρ w → u F ρ w
def gBreak : GS := fun F ρ w => F.bk ρ w
def gCont : GS := fun F ρ w => F.ct ρ w
def gDrop (g : GE) : GS := fun F ρ w => g ρ w F.ex fun _ w1 => F.nx ρ w1
def gRet (g : GE) : GS := fun F ρ w => g ρ w F.ex F.rt
def gRetN : GS := fun F _ w => F.rt .non w
def gIfS (c : GT) (t u : GS) : GS := fun F ρ w => c ρ w F.ex fun b w1 => if b = true then t F ρ w1 else u F ρ w1
def gNever : GS := fun _ _ _ => False
section
variable {X : Cx} {E : XK} {st : Stmt} {rest : List Stmt} {t u : GS} {e : Expr} {g : GE} {pos : Pos}
theorem el_seq {K : PySem.W.Frag} {G : Gh} {S : Hp} {F : DEnds} {D : Ends} (el : EL K G S E F D) (u : GS) : EL K G S E { F with nx := u F } { D with nx := upS K E u D } :=
  ⟨fun G1 S1 H1 w1 ρ1 σ1 x1 hr1 sr1 h1 => ⟨G1, S1, ρ1, w1, F, hr1, sr1, el.mono x1, h1⟩, el.rt, el.bk, el.ct, el.ex⟩
theorem dss_nil : DSs X E [] gNext := pss_imp pss_nil (by
  rintro D σ H ⟨G, S, ρ, w, F, hr, sr, el, h⟩
  exact el.nx _ _ _ _ _ _ (Ext.refl _ _) hr sr h)
theorem dss_cons (h1 : DS X E st t) (h2 : DSs X E rest u) : DSs X E (st :: rest) (gSeq t u) := pss_imp (pss_cons h1 h2) (by
  rintro D σ H ⟨G, S, ρ, w, F, hr, sr, el, h⟩
  exact ⟨G, S, ρ, w, { F with nx := u F }, hr, sr, el_seq el u, h⟩)
theorem dss_cut (h1 : DS X E st t) (h2 : DSs X E rest u) : DSs X E (st :: rest) (gCut t u) := pss_imp (pss_cons h1 h2) (by
  rintro D σ H ⟨G, S, ρ, w, F, hr, sr, el, M, h, hM⟩
  exact ⟨G, S, ρ, w, { F with nx := M }, hr, sr, ⟨fun G1 S1 H1 w1 ρ1 σ1 x1 hr1 sr1 h1 => ⟨G1, S1, ρ1, w1, F, hr1, sr1, el.mono x1, hM _ _ h1⟩, el.rt, el.bk, el.ct, el.ex⟩, h⟩)
theorem dss_one (h1 : DS X E st t) : DSs X E [st] t := pss_one h1
theorem ds_pass : DS X E (.Pass pos) gNext := ps_imp ps_pass (by
  rintro D σ H ⟨G, S, ρ, w, F, hr, sr, el, h⟩
  exact el.nx _ _ _ _ _ _ (Ext.refl _ _) hr sr h)
theorem ds_break : DS X E (.Break pos) gBreak := ps_imp ps_break (by
  rintro D σ H ⟨G, S, ρ, w, F, hr, sr, el, h⟩
  exact el.bk _ _ _ _ _ _ (Ext.refl _ _) hr sr h)
theorem ds_continue : DS X E (.Continue pos) gCont := ps_imp ps_continue (by
  rintro D σ H ⟨G, S, ρ, w, F, hr, sr, el, h⟩
  exact el.ct _ _ _ _ _ _ (Ext.refl _ _) hr sr h)
theorem ds_doc {x : Str} {j p2} : DS X E (.Expr (.Constant (.str x) j p2) pos) gNext := ps_imp ps_doc (by
  rintro D σ H ⟨G, S, ρ, w, F, hr, sr, el, h⟩
  exact el.nx _ _ _ _ _ _ (Ext.refl _ _) hr sr h)
theorem ds_expr (he : DE X E e g) (hs : swapsWith e none pos.line X.env = pure false := by rfl) : DS X E (.Expr e pos) (gDrop g) := ps_imp (ps_expr he hs) (by
  rintro D σ H ⟨G, S, ρ, w, F, hr, sr, el, h⟩
  exact ⟨G, S, ρ, w, F.ex, _, hr, sr, el.ex, fun G1 S1 H1 w1 d v x1 hr1 _ h1 => el.nx _ _ _ _ _ _ x1 hr1 (sr.mono x1) h1, h⟩)
theorem ds_ret (he : DE X E e g) : DS X E (.Return (some e) pos) (gRet g) := ps_imp (ps_ret he) (by
  rintro D σ H ⟨G, S, ρ, w, F, hr, sr, el, h⟩
  exact ⟨G, S, ρ, w, F.ex, F.rt, hr, sr, el.ex, el.rt, h⟩)
theorem ds_retN : DS X E (.Return none pos) gRetN := ps_imp ps_retN (by
  rintro D σ H ⟨G, S, ρ, w, F, hr, sr, el, h⟩
  exact el.rt _ _ _ _ _ _ (Ext.refl _ _) hr .non h)
theorem ds_if {c : Expr} {a b : List Stmt} {tc : GT} (hc : DT X E c tc) (ha : DSs X E a t) (hb : DSs X E b u) : DS X E (.If c a b pos) (gIfS tc t u) := ps_imp (ps_if hc ha hb) (by
  rintro D σ H ⟨G, S, ρ, w, F, hr, sr, el, h⟩
  refine ⟨G, S, ρ, w, F.ex, _, hr, sr, el.ex, fun G1 S1 H1 w1 c x1 hr1 h1 => ?_, h⟩
  cases c with
  | true => exact iteT ⟨G1, S1, ρ, w1, F, hr1, sr.mono x1, el.mono x1, by simpa using h1⟩
  | false => exact iteF ⟨G1, S1, ρ, w1, F, hr1, sr.mono x1, el.mono x1, by simpa using h1⟩)
theorem ds_never : DS X E st gNever := ps_imp ps_never (by
  rintro D σ H ⟨G, S, ρ, w, F, hr, sr, el, h⟩
  exact h.elim)
theorem dss_never {sts : List Stmt} : DSs X E sts gNever := pss_imp pss_never (by
  rintro D σ H ⟨G, S, ρ, w, F, hr, sr, el, h⟩
  exact h.elim)
end

/-! ### targets -/
abbrev GG := D → Rho → Wd → (Rho → Wd → Prop) → Prop
abbrev GGs := List D → Rho → Wd → (Rho → Wd → Prop) → Prop
def OffOk (vs : List Nat) (σ σ' : L2.St) : Prop := σ'.length = σ.length ∧ ∀ i, i ∉ vs → σ'[i]? = σ[i]?
def NLv (K : PySem.W.Frag) (G : Gh) (S : Hp) (vs : List Nat) (σ : L2.St) (k : Rho → Wd → Prop) (Q : L2.St → Hp → Prop) : Prop := ∀ G' S' H' w' ρ' σ', Ext G S G' S' → HR K G' S' w' H' → SR K G' S' σ' ρ' → OffOk vs σ σ' → k ρ' w' → Q σ' H'
def upG (K : PySem.W.Frag) (vs : List Nat) (g : GG) : TG := fun v σ H Q => ∃ G S ρ w d k, HR K G S w H ∧ SR K G S σ ρ ∧ Rep K G S v d ∧ NLv K G S vs σ k Q ∧ g d ρ w k
def upGs (K : PySem.W.Frag) (vs : List Nat) (g : GGs) : TGs := fun v σ H Q => ∃ G S ρ w d k, HR K G S w H ∧ SR K G S σ ρ ∧ RepAll K G S v d ∧ NLv K G S vs σ k Q ∧ g d ρ w k
def DG (X : Cx) (vs : List Nat) (e : Expr) (g : GG) : Prop := PG X e (upG X.K vs g)
def DGs (X : Cx) (vs : List Nat) (e : List Expr) (g : GGs) : Prop := PGs X e (upGs X.K vs g)
def ggName (i : Nat) : GG := fun d ρ w k => k (ρ.set i (some d)) w
def ggNil : GGs := fun ds ρ w k => ds = [] ∧ k ρ w
def ggCons (t : GG) (u : GGs) : GGs := fun ds ρ w k => match ds with
  | d :: r => t d ρ w fun ρ1 w1 => u r ρ1 w1 k
  | [] => False
def ggTup (n : Nat) (t : GGs) : GG := fun d ρ w k => match d with
  | .tup ds => ds.length = n ∧ t ds ρ w k
  | _ => False
section
variable {X : Cx} {E : XK} {pos : Pos}
theorem pg_imp {e : Expr} {t t' : TG} (h : PG X e t) (i : ∀ v σ H Q, t' v σ H Q → t v σ H Q) : PG X e t' := ⟨fun pins s σ H v u Q I r q => h.run pins s σ H v u Q I r (i _ _ _ _ q)⟩
theorem pgs_imp {e : List Expr} {t t' : TGs} (h : PGs X e t) (i : ∀ v σ H Q, t' v σ H Q → t v σ H Q) : PGs X e t' := ⟨fun pins s σ H v u Q I r q => h.run pins s σ H v u Q I r (i _ _ _ _ q)⟩
theorem dg_name {i : Nat} {x : Str} (hN : X.N.Nodup) (hi : X.N[i]? = some x) (hx : Loc X.env.scope x) (hf : X.fn x = true ∨ X.env.scope.names.lookup x = some .local := by first | exact .inl rfl | exact .inr rfl | assumption) : DG X [i] (.Name x pos) (ggName i) := pg_imp (pg_name hN hi hx hf) (by
  rintro v σ H Q ⟨G, S, ρ, w, d, k, hr, sr, rp, nl, h⟩
  refine nl _ _ _ _ _ _ (Ext.refl _ _) hr (sr.set rp i) ⟨by simp, fun j hj => ?_⟩ h
  rw [List.getElem?_set_ne]
  simpa using fun z => hj (by simp [z]))
theorem dgs_nil : DGs X [] [] ggNil := pgs_imp pgs_nil (by
  rintro v σ H Q ⟨G, S, ρ, w, d, k, hr, sr, rp, nl, h⟩
  obtain ⟨e, h⟩ := h
  subst e
  cases rp
  exact ⟨rfl, nl _ _ _ _ _ _ (Ext.refl _ _) hr sr ⟨rfl, fun _ _ => rfl⟩ h⟩)
theorem dgs_cons {e : Expr} {es : List Expr} {vs us : List Nat} {t : GG} {u : GGs} (h1 : DG X vs e t) (h2 : DGs X us es u)
    (hs : (assignEach (e :: es) X.env).map (·.2) = assign e X.env :: (assignEach es X.env).map (·.2) := by rfl) : DGs X (vs ++ us) (e :: es) (ggCons t u) := pgs_imp (pgs_cons h1 h2 hs) (by
  rintro v σ H Q ⟨G, S, ρ, w, d, k, hr, sr, rp, nl, h⟩
  cases rp with
  | nil => exact h.elim
  | cons r0 rr =>
    refine ⟨_, _, rfl, G, S, ρ, w, _, _, hr, sr, r0, fun G1 S1 H1 w1 ρ1 σ1 x1 hr1 sr1 off1 h1 => ⟨G1, S1, ρ1, w1, _, k, hr1, sr1, rr.mono x1, fun G2 S2 H2 w2 ρ2 σ2 x2 hr2 sr2 off2 h2 => nl _ _ _ _ _ _ (x1.trans x2) hr2 sr2 ⟨off2.1.trans off1.1, fun i hi => ?_⟩ h2, h1⟩, h⟩
    rw [List.mem_append, not_or] at hi
    exact (off2.2 i hi.2).trans (off1.2 i hi.1))
theorem dg_tup {es : List Expr} {j : Nat} {t : GGs} {vs : List Nat} {n : Nat} (hc : X.calm = true) (h : DGs X vs es t)
    (hn : (assignEach es X.env).length = n := by rfl) (hst : (assignEach es X.env).findIdx? (·.1) = none := by rfl) : DG X vs (.Tuple es j pos) (ggTup n t) := pg_imp (pg_tup hc h hn hst) (by
  rintro v σ H Q ⟨G, S, ρ, w, d, k, hr, sr, rp, nl, h⟩
  cases rp with
  | tup e r => exact ⟨_, _, rfl, .inl (.inl (hr.same _ _ e)), by rw [r.length]; exact h.1, G, S, ρ, w, _, k, hr, sr, r, nl, h.2⟩
  | _ => exact h.elim)
def gAsg (ge : GE) (g : GG) : GS := fun F ρ w => ge ρ w F.ex fun d w1 => g d ρ w1 F.nx
theorem asg_up {K : PySem.W.Frag} {vs : List Nat} {ge : GE} {g : GG} : ∀ D σ H, upS K E (gAsg ge g) D σ H → tAsg (upE K E ge) (upG K vs g) D σ H := by
  rintro D σ H ⟨G, S, ρ, w, F, hr, sr, el, h⟩
  exact ⟨G, S, ρ, w, F.ex, _, hr, sr, el.ex, fun G1 S1 H1 w1 d v x1 hr1 rp h1 => ⟨G1, S1, ρ, w1, d, F.nx, hr1, sr.mono x1, rp, fun G2 S2 H2 w2 ρ2 σ2 x2 hr2 sr2 _ h2 => el.nx _ _ _ _ _ _ (x1.trans x2) hr2 sr2 h2, h1⟩, h⟩
theorem ds_asg {tg e : Expr} {vs : List Nat} {ge : GE} {g : GG} (he : DE X E e ge) (hg : DG X vs tg g) (hs : swapsWithSole [tg] e pos.line X.env = pure false := by rfl) (hw : swappedStores [tg] e X.env = pure none := by rfl)
    (h1 : (assignEach [tg] X.env).map (·.2) = [assign tg X.env] := by rfl) : DS X E (.Assign [tg] e pos) (gAsg ge g) := ps_imp (ps_asg he hg hs hw h1) asg_up
def gSet (i : Nat) (ge : GE) : GS := fun F ρ w => ge ρ w F.ex fun d w1 => F.nx (ρ.set i (some d)) w1
theorem set_up {K : PySem.W.Frag} {i : Nat} {ge : GE} : ∀ D σ H, upS K E (gSet i ge) D σ H → tAsg (upE K E ge) (gName i) D σ H := by
  rintro D σ H ⟨G, S, ρ, w, F, hr, sr, el, h⟩
  exact ⟨G, S, ρ, w, F.ex, _, hr, sr, el.ex, fun G1 S1 H1 w1 d v x1 hr1 rp h1 => el.nx _ _ _ _ _ _ x1 hr1 ((sr.mono x1).set rp i) h1, h⟩
theorem ds_set {i : Nat} {x : Str} {e : Expr} {ge : GE} {pos' : Pos} (hN : X.N.Nodup) (hi : X.N[i]? = some x) (hx : Loc X.env.scope x) (he : DE X E e ge) (hs : swapsWith e (some (.Name x pos')) pos.line X.env = pure false := by rfl) (hf : X.fn x = true ∨ X.env.scope.names.lookup x = some .local := by first | exact .inl rfl | exact .inr rfl | assumption) :
    DS X E (.Assign [.Name x pos'] e pos) (gSet i ge) := ps_imp (ps_set hN hi hx he hs hf) set_up
def gPar (i j : Nat) (ga : GA) : GS := fun F ρ w => ga ρ w F.ex fun ds w1 => match ds with
  | [d, e] => F.nx ((ρ.set i (some d)).set j (some e)) w1
  | _ => False
theorem ds_par {i j : Nat} {x y : Str} {a b : Expr} {ga : GA} {px py pt : Pos} {kt k2 pt2} (hc : X.calm = true) (hN : X.N.Nodup) (hi : X.N[i]? = some x) (hj : X.N[j]? = some y) (hij : i ≠ j)
    (hx : X.env.scope.names.lookup x = some .local) (hy : X.env.scope.names.lookup y = some .local) (ha : DA X E [a, b] ga)
    (hw : swappedStores [.Tuple [.Name x px, .Name y py] kt pt] (.Tuple [a, b] k2 pt2) X.env = pure (some [x, y]))
    (hs : swapsWithSole [.Tuple [.Name x px, .Name y py] kt pt] (.Tuple [a, b] k2 pt2) pos.line X.env = pure false := by rfl) :
    DS X E (.Assign [.Tuple [.Name x px, .Name y py] kt pt] (.Tuple [a, b] k2 pt2) pos) (gPar i j ga) := ps_imp (ps_par hc hN hi hj hij hx hy ha hw hs) (by
  rintro D σ H ⟨G, S, ρ, w, F, hr, sr, el, h⟩
  refine ⟨G, S, ρ, w, F.ex, _, hr, sr, el.ex, fun G1 S1 H1 w1 ds vs x1 hr1 rp h1 => ?_, h⟩
  split at h1
  · obtain ⟨v, u, rfl, r1, r2⟩ := two_rep rp
    exact ⟨v, u, rfl, el.nx _ _ _ _ _ _ x1 hr1 (((sr.mono x1).set r1 i).set r2 j) h1⟩
  · exact h1.elim)
/-- x += e -/
def gAug (i : Nat) (ge : GE) (f : F2) : GS := fun F ρ w => match ρ[i]? with
  | some (some d) => ge ρ w F.ex fun e w1 => f d e w1 fun z w2 => F.nx (ρ.set i (some z)) w2
  | _ => False
def iaddD : F2 := fun x y w k => match x, y with
  | .int i, .int j => k (.int (i + j)) w
  | _, _ => False
theorem ds_augadd {i : Nat} {x : Str} {e : Expr} {ge : GE} {pos' : Pos} (hN : X.N.Nodup) (hi : X.N[i]? = some x) (hx : Loc X.env.scope x) (he : DE X E e ge) (hf : X.fn x = true ∨ X.env.scope.names.lookup x = some .local := by first | exact .inl rfl | exact .inr rfl | assumption) :
    DS X E (.AugAssign (.Name x pos') .Add e pos) (gAug i ge iaddD) := ps_imp (ps_aug hN hi hx he ip_add hf) (by
  rintro D σ H ⟨G, S, ρ, w, F, hr, sr, el, h⟩
  unfold gAug at h
  split at h
  · rename_i d e1
    obtain ⟨v, h1, h2⟩ := sr.2 i d e1
    refine ⟨v, h1, G, S, ρ, w, F.ex, _, hr, sr, el.ex, fun G1 S1 H1 w1 e2 u x1 hr1 rp h3 => ?_, h⟩
    unfold iaddD at h3
    split at h3
    · cases h2
      cases rp
      exact ⟨_, _, rfl, rfl, el.nx _ _ _ _ _ _ x1 hr1 ((sr.mono x1).set (.int _) i) h3⟩
    · exact h3.elim
  · exact h.elim)
end

/-! ### while -/
def whileS (t : GT) (b : GS) (F : DEnds) (P : Nat → Rho → Wd → Prop) : Prop := ∀ m ρ w, P m ρ w → t ρ w F.ex fun c w1 => if c = true then b { F with nx := fun ρ' w' => ∃ m', m' < m ∧ P m' ρ' w', ct := fun ρ' w' => ∃ m', m' < m ∧ P m' ρ' w', bk := F.nx } ρ w1 else F.nx ρ w1
def gWhile (t : GT) (b : GS) : GS := fun F ρ w => ∃ P : Nat → Rho → Wd → Prop, (∃ m, P m ρ w) ∧ whileS t b F P
section
variable {X : Cx} {E : XK} {pos : Pos}
theorem ds_while {c : Expr} {body : List Stmt} {tc : GT} {tb : GS} (hp : PassesOwn (model X.prog X.w) X.A X.env X.xe) (hc : DT X E c tc) (hb : DSs X E body tb) : DS X E (.While c body [] pos) (gWhile tc tb) := ps_imp (ps_while hp hc hb) (by
  rintro D σ H ⟨G, S, ρ, w, F, hr, sr, el, P, ⟨n, h0⟩, hs⟩
  refine ⟨fun m σ' H' => ∃ G' S' ρ' w', HR X.K G' S' w' H' ∧ SR X.K G' S' σ' ρ' ∧ EL X.K G' S' E F D ∧ P m ρ' w', ⟨n, G, S, ρ, w, hr, sr, el, h0⟩, ?_⟩
  rintro m σ' H' ⟨G1, S1, ρ1, w1, hr1, sr1, el1, h1⟩
  refine ⟨G1, S1, ρ1, w1, F.ex, _, hr1, sr1, el1.ex, fun G2 S2 H2 w2 c x2 hr2 h2 => ?_, hs m ρ1 w1 h1⟩
  cases c with
  | false => exact iteF (el1.nx _ _ _ _ _ _ x2 hr2 (sr1.mono x2) (by simpa using h2))
  | true =>
    refine iteT ⟨fun σ' H' => ∃ m', m' < m ∧ ∃ G' S' ρ' w', HR X.K G' S' w' H' ∧ SR X.K G' S' σ' ρ' ∧ EL X.K G' S' E F D ∧ P m' ρ' w', fun σ3 H3 h3 => h3, ?_⟩
    refine ⟨G2, S2, ρ1, w2, { F with nx := fun ρ' w' => ∃ m', m' < m ∧ P m' ρ' w', ct := fun ρ' w' => ∃ m', m' < m ∧ P m' ρ' w', bk := F.nx }, hr2, sr1.mono x2, ⟨?_, (el1.mono x2).rt, (el1.mono x2).nx, ?_, (el1.mono x2).ex⟩, by simpa using h2⟩
    · rintro G3 S3 H3 w3 ρ3 σ3 x3 hr3 sr3 ⟨m', hm, h3⟩
      exact ⟨m', hm, G3, S3, ρ3, w3, hr3, sr3, (el1.mono x2).mono x3, h3⟩
    · rintro G3 S3 H3 w3 ρ3 σ3 x3 hr3 sr3 ⟨m', hm, h3⟩
      exact ⟨m', hm, G3, S3, ρ3, w3, hr3, sr3, (el1.mono x2).mono x3, h3⟩)
end

/-! ### what is walked -/
abbrev GI := Rho → Wd → KX → (List D → (Wd → Prop) → Wd → Prop) → Prop
def IterOk (K : PySem.W.Frag) (J : It) (items : List D) (Ok : Wd → Prop) (G : Gh) (S : Hp) : Prop := ∀ (i : Nat) G' S' w' H', Ext G S G' S' → HR K G' S' w' H' → Ok w' →
  (∀ d, items[i]? = some d → J.go i H' ∧ ∀ x H2, J.yld i H' x H2 → ∃ G2 S2, Ext G' S' G2 S2 ∧ HR K G2 S2 w' H2 ∧ Rep K G2 S2 x d) ∧ (items.length = i → J.stop i H')
theorem IterOk.mono {K : PySem.W.Frag} {J : It} {items : List D} {Ok : Wd → Prop} {G G' : Gh} {S S' : Hp} (x : Ext G S G' S') (h : IterOk K J items Ok G S) : IterOk K J items Ok G' S' := fun i G1 S1 w1 H1 x1 => h i G1 S1 w1 H1 (x.trans x1)
def upI (K : PySem.W.Frag) (E : XK) (g : GI) : TI := fun σ H R => ∃ G S ρ w kx k, HR K G S w H ∧ SR K G S σ ρ ∧ XL K G S kx E ∧
  (∀ G' S' H' w' items Ok J, Ext G S G' S' → HR K G' S' w' H' → IterOk K J items Ok G' S' → k items Ok w' → R J H') ∧ g ρ w kx k
def DI (X : Cx) (E : XK) (tg iter : Expr) (g : GI) : Prop := PI X tg iter (upI X.K E g)
def giSeq (ge : GE) : GI := fun ρ w kx k => ge ρ w kx fun d w1 => match d with
  | .lst xs => k xs (fun _ => True) w1
  | .tup xs => k xs (fun _ => True) w1
  | .rf c => match w1.M[c]? with
    | some (.lst xs) => k xs (fun w => w.M[c]? = some (.lst xs)) w1
    | _ => False
  | _ => False
def giRange1 (ga : GA) : GI := fun ρ w kx k => ga ρ w kx fun ds w1 => match ds with
  | [.int j] => (-(2 ^ 62) ≤ j ∧ j < 2 ^ 62) ∧ k ((List.range j.toNat).map fun (i : Nat) => .int (i : Int)) (fun _ => True) w1
  | _ => False
section
variable {X : Cx} {E : XK} {tg : Expr}
theorem pi_imp {e : Expr} {t t' : TI} (h : PI X tg e t) (i : ∀ σ H R, t' σ H R → t σ H R) : PI X tg e t' := ⟨fun pins s σ H R I q => h.run pins s σ H R I (i _ _ _ q)⟩
/-- a list or a tuple -/
def iSq (K : PySem.W.Frag) (tl : TE) : TI := fun σ H R => tl σ H fun x H1 => ∃ a, x = .ref a ∧ (((∃ xs, SqL K H1 a xs) ∧ R (Itl K a) H1) ∨ ((∃ xs, SqT K H1 a xs) ∧ R (Itt K a) H1))
theorem pi_sq {l : Expr} {tl : TE} (hl : PE X l tl) : PI X tg l (iSq X.K tl) := by
  refine ⟨fun pins s σ H R I h => ?_⟩
  refine thn (hl.run pins s σ H _ I h) fun v s1 ⟨x, H1, I1, r1, q1⟩ => ?_
  obtain ⟨a, e, q1⟩ := q1
  subst e
  cases r1
  rcases q1 with ⟨⟨xs, hq⟩, q⟩ | ⟨⟨xs, hq⟩, q⟩
  · obtain ⟨its, rv, p, hz⟩ := I1.list hq
    refine wpAny_pyIter_list p.isList ?_
    refine ⟨s1.heap.objs.size, [s1.heap.objs.size], _, _, H1, rfl, I1.kept (t' := s1.toks) fun b o e => Heap.get?_push_of_some _ e, turn_list a _, ⟨_, Heap.get?_push_size _ rfl, rfl, rfl⟩, fun b hb => ?_, q⟩
    have e : b = s1.heap.objs.size := by simpa using hb
    subst e
    exact I1.fpOk (Nat.le_refl _) (I1.hok.fresh (Nat.le_refl _))
  · obtain ⟨its, rv, p, hz⟩ := I1.tuple hq
    refine wpAny_pyIter_tuple (show s1.heap.IsTuple a its.toArray from p) ?_
    refine ⟨s1.heap.objs.size, [s1.heap.objs.size], _, _, H1, rfl, I1.kept (t' := s1.toks) fun b o e => Heap.get?_push_of_some _ e, turn_tuple a _, ⟨_, Heap.get?_push_size _ rfl, rfl, rfl⟩, fun b hb => ?_, q⟩
    have e : b = s1.heap.objs.size := by simpa using hb
    subst e
    exact I1.fpOk (Nat.le_refl _) (I1.hok.fresh (Nat.le_refl _))
theorem iter_lst {K : PySem.W.Frag} {G : Gh} {S : Hp} {a : Addr} {xs : List V} {ds : List D} (e : S a = some (.lst xs)) (r : RepAll K G S xs ds) : IterOk K (Itl K a) ds (fun _ => True) G S := by
  intro i G1 S1 w1 H1 x1 hr1 _
  have q : SqL K H1 a xs := .inl (.inl (hr1.same _ _ (x1.same _ _ e)))
  refine ⟨fun d hd => ?_, fun hl => ⟨xs, q, by rw [r.length, hl]; exact Nat.le_refl _⟩⟩
  obtain ⟨v, h1, h2⟩ := r.get hd
  refine ⟨⟨xs, v, q, h1⟩, fun x H2 y => ?_⟩
  obtain ⟨rfl, y⟩ := y
  have := y xs q
  rw [h1] at this
  cases this
  exact ⟨G1, S1, Ext.refl _ _, hr1, h2.mono x1⟩
theorem iter_tup {K : PySem.W.Frag} {G : Gh} {S : Hp} {a : Addr} {xs : List V} {ds : List D} (e : S a = some (.tup xs)) (r : RepAll K G S xs ds) : IterOk K (Itt K a) ds (fun _ => True) G S := by
  intro i G1 S1 w1 H1 x1 hr1 _
  have q : SqT K H1 a xs := .inl (.inl (hr1.same _ _ (x1.same _ _ e)))
  refine ⟨fun d hd => ?_, fun hl => ⟨xs, q, by rw [r.length, hl]; exact Nat.le_refl _⟩⟩
  obtain ⟨v, h1, h2⟩ := r.get hd
  refine ⟨⟨xs, v, q, h1⟩, fun x H2 y => ?_⟩
  obtain ⟨rfl, y⟩ := y
  have := y xs q
  rw [h1] at this
  cases this
  exact ⟨G1, S1, Ext.refl _ _, hr1, h2.mono x1⟩
theorem iter_rf {K : PySem.W.Frag} {G : Gh} {S : Hp} {a : Addr} {c : Nat} {ds : List D} (e : G.al[c]? = some a) : IterOk K (Itl K a) ds (fun w => w.M[c]? = some (.lst ds)) G S := by
  intro i G1 S1 w1 H1 x1 hr1 hw
  obtain ⟨_, xs, h1, r⟩ := hr1.cell c a _ (x1.alGet e) hw
  have q : SqL K H1 a xs := .inl (.inl h1)
  refine ⟨fun d hd => ?_, fun hl => ⟨xs, q, by rw [r.length, hl]; exact Nat.le_refl _⟩⟩
  obtain ⟨v, h3, h2⟩ := r.get hd
  refine ⟨⟨xs, v, q, h3⟩, fun x H2 y => ?_⟩
  obtain ⟨rfl, y⟩ := y
  have := y xs q
  rw [h3] at this
  cases this
  exact ⟨G1, S1, Ext.refl _ _, hr1, h2⟩
theorem di_seq {l : Expr} {ge : GE} (hl : DE X E l ge) : DI X E tg l (giSeq ge) := pi_imp (pi_sq hl) (by
  rintro σ H R ⟨G, S, ρ, w, kx, k, hr, sr, xl, kl, h⟩
  refine ⟨G, S, ρ, w, kx, _, hr, sr, xl, fun G1 S1 H1 w1 d v x1 hr1 rp h1 => ?_, h⟩
  cases rp with
  | lst e r => exact ⟨_, rfl, .inl ⟨⟨_, .inl (.inl (hr1.same _ _ e))⟩, kl _ _ _ _ _ _ _ x1 hr1 (iter_lst e r) h1⟩⟩
  | tup e r => exact ⟨_, rfl, .inr ⟨⟨_, .inl (.inl (hr1.same _ _ e))⟩, kl _ _ _ _ _ _ _ x1 hr1 (iter_tup e r) h1⟩⟩
  | rf e =>
    simp only at h1
    split at h1
    · rename_i xs e2
      obtain ⟨_, ys, h3, h4⟩ := hr1.cell _ _ _ e e2
      exact ⟨_, rfl, .inl ⟨⟨_, .inl (.inl h3)⟩, kl _ _ _ _ _ _ _ x1 hr1 (iter_rf e) h1⟩⟩
    · exact h1.elim
  | _ => exact h1.elim)
theorem iter_rng {K : PySem.W.Frag} {G : Gh} {S : Hp} {n : Nat} : IterOk K (Itr 0 n) ((List.range n).map fun (i : Nat) => .int (i : Int)) (fun _ => True) G S := by
  intro i G1 S1 w1 H1 x1 hr1 _
  refine ⟨fun d hd => ?_, fun hl => ?_⟩
  · rw [List.getElem?_map] at hd
    cases q : (List.range n)[i]? with
    | none => rw [q] at hd; cases hd
    | some z =>
      rw [q] at hd
      have hd : D.int (z : Int) = d := by simpa using hd
      subst hd
      have hi := (List.getElem?_eq_some_iff.mp q).1
      have hz := (List.getElem?_eq_some_iff.mp q).2
      rw [List.length_range] at hi
      rw [List.getElem_range] at hz
      subst hz
      refine ⟨hi, fun x H2 y => ?_⟩
      obtain ⟨rfl, rfl⟩ := y
      rw [Int.zero_add]
      exact ⟨G1, S1, Ext.refl _ _, hr1, .int _⟩
  · rw [List.length_map, List.length_range] at hl
    exact Nat.le_of_eq hl
theorem di_range1 {a : Expr} {ga : GA} {p pos : Pos} (B : Blt X.mg) (hg : Gl X "range") (ha : DA X E [a] ga) (hs : starEach [a] X.env = [(false, eval a X.env)] := by rfl) : DI X E tg (.Call (.Name "range" p) [a] [] pos) (giRange1 ga) := pi_imp (pi_range1 hg B.range_ ha hs) (by
  rintro σ H R ⟨G, S, ρ, w, kx, k, hr, sr, xl, kl, h⟩
  refine ⟨G, S, ρ, w, kx, _, hr, sr, xl, fun G1 S1 H1 w1 ds vs x1 hr1 rp h1 => ?_, h⟩
  split at h1
  · rename_i j
    obtain ⟨v, rfl, r1⟩ := one_rep rp
    cases r1
    exact ⟨j, rfl, h1.1.1, h1.1.2, kl _ _ _ _ _ _ _ x1 hr1 iter_rng h1.2⟩
  · exact h1.elim)
end
end DL

namespace DL
open PySem PySem.Spec PyProof.Rows L2

/-! ### for -/
structure ForS (gt : GG) (b : GS) (F : DEnds) (Ok : Wd → Prop) (P : List D → Rho → Wd → Prop) : Prop where
  done : ∀ ρ w, P [] ρ w → Ok w ∧ F.nx ρ w
  turn : ∀ x xs ρ w, P (x :: xs) ρ w → Ok w ∧ gt x ρ w fun ρ1 w1 => b { F with nx := P xs, ct := P xs, bk := F.nx } ρ1 w1
def gFor (gi : GI) (gt : GG) (b : GS) : GS := fun F ρ w => gi ρ w F.ex fun items Ok w1 => ∃ P : List D → Rho → Wd → Prop, P items ρ w1 ∧ ForS gt b F Ok P
/-- turn by turn -/
def forD (gt : GG) (b : GS) (F : DEnds) (Ok : Wd → Prop) : List D → Rho → Wd → Prop
  | [], ρ, w => Ok w ∧ F.nx ρ w
  | x :: xs, ρ, w => Ok w ∧ gt x ρ w fun ρ1 w1 => b { F with nx := forD gt b F Ok xs, ct := forD gt b F Ok xs, bk := F.nx } ρ1 w1
theorem for_forD {gt : GG} {b : GS} {F : DEnds} {Ok : Wd → Prop} {items : List D} {ρ : Rho} {w : Wd} (h : forD gt b F Ok items ρ w) : ∃ P : List D → Rho → Wd → Prop, P items ρ w ∧ ForS gt b F Ok P :=
  ⟨forD gt b F Ok, h, fun _ _ h => h, fun _ _ _ _ h => h⟩
section
variable {X : Cx} {E : XK} {pos : Pos}
theorem ds_for {tg iter : Expr} {body : List Stmt} {vs : List Nat} {gi : GI} {gt : GG} {gb : GS} (hp : PassesOwn (model X.prog X.w) X.A X.env X.xe) (hc : X.calm = true) (hi : DI X E tg iter gi) (hg : DG X vs tg gt) (hb : DSs X E body gb)
    (hs : ∀ x, foldedSetIterable iter X.env x = pure x := by intro _; rfl) : DS X E (.For tg iter body [] pos) (gFor gi gt gb) := ps_imp (ps_for hp hc hi hg hb hs) (by
  rintro D σ H ⟨G, S, ρ, w, F, hr, sr, el, h⟩
  refine ⟨G, S, ρ, w, F.ex, _, hr, sr, el.ex, fun G1 S1 H1 w1 items Ok J x1 hr1 it h1 => ?_, h⟩
  obtain ⟨P, h1, hP⟩ := h1
  refine ⟨fun i m σ' H' => m = items.length - i ∧ i ≤ items.length ∧ ∃ G' S' ρ' w', Ext G1 S1 G' S' ∧ HR X.K G' S' w' H' ∧ SR X.K G' S' σ' ρ' ∧ P (items.drop i) ρ' w', ⟨items.length, by simp, Nat.zero_le _, G1, S1, ρ, w1, Ext.refl _ _, hr1, sr.mono x1, h1⟩, ?_⟩
  rintro i m σ' H' ⟨rfl, hi, G2, S2, ρ2, w2, x2, hr2, sr2, h2⟩
  by_cases hlt : i < items.length
  · have e : items.drop i = items[i] :: items.drop (i + 1) := List.drop_eq_getElem_cons hlt
    rw [e] at h2
    obtain ⟨ok, h2⟩ := hP.turn _ _ _ _ h2
    obtain ⟨i1, _⟩ := it i G2 S2 w2 H' x2 hr2 ok
    obtain ⟨go, yld⟩ := i1 items[i] (List.getElem?_eq_getElem hlt)
    refine .inr ⟨go, fun σ3 H3 => ∃ G' S' ρ' w', Ext G1 S1 G' S' ∧ HR X.K G' S' w' H3 ∧ SR X.K G' S' σ3 ρ' ∧ P (items.drop (i + 1)) ρ' w', fun σ3 H3 h3 => ⟨items.length - (i + 1), by omega, rfl, hlt, h3⟩, fun x H3 y => ?_⟩
    obtain ⟨G3, S3, x3, hr3, rp⟩ := yld x H3 y
    refine ⟨G3, S3, ρ2, w2, items[i], _, hr3, sr2.mono x3, rp, fun G4 S4 H4 w4 ρ4 σ4 x4 hr4 sr4 _ h4 => ?_, h2⟩
    have x04 : Ext G S G4 S4 := x1.trans (x2.trans (x3.trans x4))
    refine ⟨G4, S4, ρ4, w4, { F with nx := P (items.drop (i + 1)), ct := P (items.drop (i + 1)), bk := F.nx }, hr4, sr4, ⟨?_, (el.mono x04).rt, (el.mono x04).nx, ?_, (el.mono x04).ex⟩, h4⟩
    · intro G5 S5 H5 w5 ρ5 σ5 x5 hr5 sr5 h5
      exact ⟨G5, S5, ρ5, w5, x2.trans (x3.trans (x4.trans x5)), hr5, sr5, h5⟩
    · intro G5 S5 H5 w5 ρ5 σ5 x5 hr5 sr5 h5
      exact ⟨G5, S5, ρ5, w5, x2.trans (x3.trans (x4.trans x5)), hr5, sr5, h5⟩
  · have e : i = items.length := by omega
    subst e
    rw [List.drop_length] at h2
    obtain ⟨ok, h2⟩ := hP.done _ _ h2
    obtain ⟨_, i2⟩ := it items.length G2 S2 w2 H' x2 hr2 ok
    exact .inl ⟨i2 rfl, el.nx _ _ _ _ _ _ (x1.trans x2) hr2 sr2 h2⟩)
end

/-! ### list comprehensions -/
def wipeR (ρ : Rho) : List Nat → Rho
  | [] => ρ
  | v :: vs => (wipeR ρ vs).set v none
def gYes : GT := fun _ w _ k => k true w
def DTs (X : Cx) (E : XK) (ifs : List Expr) (g : GT) : Prop := PTs X ifs (upT X.K E g)
/-- P: the items left, the list so far -/
structure LcS (gt : GG) (tt : GT) (ge : GE) (Ok : Wd → Prop) (ρ : Rho) (k : KD) (P : List D → List D → Wd → Prop) : Prop where
  done : ∀ acc w, P [] acc w → Ok w ∧ k (.lst acc) w
  turn : ∀ x xs acc w, P (x :: xs) acc w → Ok w ∧ gt x ρ w fun ρ1 w1 => tt ρ1 w1 noX fun b w2 => if b = true then ge ρ1 w2 noX fun y w3 => acc.length < sizeLine ∧ P xs (acc ++ [y]) w3 else P xs acc w2
def gLc (gi : GI) (gt : GG) (tt : GT) (ge : GE) (vs : List Nat) : GE := fun ρ w kx k => gi ρ w kx fun items Ok w1 => ∃ P : List D → List D → Wd → Prop, P items [] w1 ∧ LcS gt tt ge Ok (wipeR ρ vs) k P
/-- turn by turn -/
def lcD (gt : GG) (tt : GT) (ge : GE) (Ok : Wd → Prop) (ρ : Rho) (k : KD) : List D → List D → Wd → Prop
  | [], acc, w => Ok w ∧ k (.lst acc) w
  | x :: xs, acc, w => Ok w ∧ gt x ρ w fun ρ1 w1 => tt ρ1 w1 noX fun b w2 => if b = true then ge ρ1 w2 noX fun y w3 => acc.length < sizeLine ∧ lcD gt tt ge Ok ρ k xs (acc ++ [y]) w3 else lcD gt tt ge Ok ρ k xs acc w2
theorem lc_lcD {gt : GG} {tt : GT} {ge : GE} {Ok : Wd → Prop} {ρ : Rho} {k : KD} {items : List D} {w : Wd} (h : lcD gt tt ge Ok ρ k items [] w) : ∃ P : List D → List D → Wd → Prop, P items [] w ∧ LcS gt tt ge Ok ρ k P :=
  ⟨lcD gt tt ge Ok ρ k, h, fun _ _ h => h, fun _ _ _ _ h => h⟩
section
variable {X : Cx} {E : XK} {pos : Pos}
theorem dts_nil : DTs X E [] gYes := by
  have h := pts_nil (X := X)
  refine ⟨fun pins s σ H Q I q => h.run pins s σ H Q I ?_⟩
  obtain ⟨G, S, ρ, w, kx, k, hr, sr, xl, kl, h⟩ := q
  exact kl _ _ _ _ _ (Ext.refl _ _) hr h
theorem dts_one {c : Expr} {t : GT} (h : DT X E c t) : DTs X E [c] t := pts_one h
theorem wipe_set {σ : L2.St} {ρ : Rho} {K : PySem.W.Frag} {G : Gh} {S : Hp} (sr : SR K G S σ ρ) (v : Nat) : SR K G S (σ.set v none) (ρ.set v none) := by
  refine ⟨by simp [sr.1], fun j e hj => ?_⟩
  by_cases hi : j = v
  · subst hi
    by_cases hl : j < ρ.length
    · rw [List.getElem?_set_self hl] at hj
      cases hj
    · rw [List.getElem?_eq_none (by simpa using hl)] at hj
      cases hj
  · rw [List.getElem?_set_ne (Ne.symm hi)] at hj
    obtain ⟨u, h1, h2⟩ := sr.2 j e hj
    exact ⟨u, by rw [List.getElem?_set_ne (Ne.symm hi)]; exact h1, h2⟩
theorem wipe_sr {σ : L2.St} {ρ : Rho} {K : PySem.W.Frag} {G : Gh} {S : Hp} (sr : SR K G S σ ρ) : ∀ vs : List Nat, SR K G S (wipe σ vs) (wipeR ρ vs)
  | [] => sr
  | v :: vs => wipe_set (wipe_sr sr vs) v
theorem wipe_get {σ : L2.St} : ∀ {vs : List Nat} {i : Nat}, (wipe σ vs)[i]? = if i ∈ vs then (if i < σ.length then some none else none) else σ[i]?
  | [], i => by simp [wipe]
  | v :: vs, i => by
    unfold wipe
    rw [List.getElem?_set]
    by_cases h : v = i
    · subst h
      simp [wipe_length]
    · rw [if_neg h, wipe_get]
      have : (i ∈ v :: vs) ↔ i ∈ vs := by
        simp only [List.mem_cons]
        exact ⟨fun z => z.elim (fun z => absurd z.symm h) id, .inr⟩
      simp only [this]
theorem wipe_off {σ σ2 : L2.St} {vs us : List Nat} (hu : ∀ i ∈ us, i ∈ vs) (h : OffOk us (wipe σ vs) σ2) : wipe σ2 vs = wipe σ vs := by
  refine List.ext_getElem? fun i => ?_
  rw [wipe_get, wipe_get]
  have hl : σ2.length = σ.length := by rw [h.1, wipe_length]
  by_cases hi : i ∈ vs
  · rw [if_pos hi, if_pos hi, hl]
  · rw [if_neg hi, if_neg hi, h.2 i (fun z => hi (hu i z)), wipe_get, if_neg hi]
theorem fr_ne {K : PySem.W.Frag} {G : Gh} {S H : Hp} {w : Wd} (hr : HR K G S w H) {Dl : Addr} (hD : H Dl = none) : ∀ q ∈ G.fr, q.1 ≠ Dl := hr.freshFr hD
theorem lc_go {K : PySem.W.Frag} {gi : GI} {gt : GG} {tt : GT} {ge : GE} {vs us : List Nat} (hu : ∀ i ∈ us, i ∈ vs) : ∀ σ H Q, upE K E (gLc gi gt tt ge vs) σ H Q → tLc (upI K E gi) (upG K us gt) (upT K E0 tt) (upE K E0 ge) vs σ H Q := by
  rintro σ H Q ⟨G, S, ρ, w, kx, k, hr, sr, xl, kl, h⟩
  refine ⟨G, S, ρ, w, kx, _, hr, sr, xl, fun G1 S1 H1 w1 items Ok J x1 hr1 it h1 Dl hD => ?_, h⟩
  obtain ⟨P, h1, hP⟩ := h1
  have hfr := fr_ne hr1 hD
  have sD := hr1.freshS hD
  -- the state between turns: the list so far stands apart
  refine ⟨fun i m H' => m = items.length - i ∧ i ≤ items.length ∧ ∃ (G' : Gh) (S' : Hp) (w' : Wd) (xs : List V) (acc : List D), Ext G1 S1 ⟨G'.al, G'.st, G1.fr⟩ S' ∧ (∀ q ∈ G1.fr, q ∈ G'.fr) ∧ (Dl, HO.lst xs) ∈ G'.fr ∧ HR K G' S' w' H' ∧ RepAll K G' S' xs acc ∧ P (items.drop i) acc w', ⟨items.length, ?_⟩, ?_⟩
  · obtain ⟨hr2, x2⟩ := hr1.push (o := .lst []) hD
    refine ⟨by simp, Nat.zero_le _, ⟨G1.al, G1.st, (Dl, .lst []) :: G1.fr⟩, S1, w1, [], [], ⟨⟨[], by simp⟩, fun _ z => z, fun _ z => z, Same.refl _⟩, fun q hq => List.mem_cons_of_mem _ hq, List.mem_cons_self, hr2, .nil, h1⟩
  rintro i m H' ⟨rfl, hi, G2, S2, w2, xs, acc, x2, f2, fD, hr2, ra, h2⟩
  have x12 : Ext G1 S1 G2 S2 := ⟨x2.al, x2.st, f2, x2.same⟩
  by_cases hlt : i < items.length
  · have e : items.drop i = items[i] :: items.drop (i + 1) := List.drop_eq_getElem_cons hlt
    rw [e] at h2
    obtain ⟨ok, h2⟩ := hP.turn _ _ _ _ h2
    obtain ⟨i1, _⟩ := it i G2 S2 w2 H' x12 hr2 ok
    obtain ⟨go, yld⟩ := i1 items[i] (List.getElem?_eq_getElem hlt)
    refine .inr ⟨go, fun H3 => ∃ (G' : Gh) (S' : Hp) (w' : Wd) (xs : List V) (acc : List D), Ext G1 S1 ⟨G'.al, G'.st, G1.fr⟩ S' ∧ (∀ q ∈ G1.fr, q ∈ G'.fr) ∧ (Dl, HO.lst xs) ∈ G'.fr ∧ HR K G' S' w' H3 ∧ RepAll K G' S' xs acc ∧ P (items.drop (i + 1)) acc w', fun H3 h3 => ⟨items.length - (i + 1), by omega, rfl, hlt, h3⟩, fun x H3 y => ?_⟩
    obtain ⟨G3, S3, x3, hr3, rp⟩ := yld x H3 y
    have x13 := x12.trans x3
    refine ⟨G3, S3, wipeR ρ vs, w2, items[i], _, hr3, (wipe_sr (sr.mono x1) vs).mono x13, rp, fun G4 S4 H4 w4 ρ4 σ4 x4 hr4 sr4 off4 h4 => ⟨wipe_off hu off4, ?_⟩, h2⟩
    have x24 : Ext G2 S2 G4 S4 := x3.trans x4
    refine ⟨G4, S4, ρ4, w4, noX, _, hr4, sr4, xl_no, fun G5 S5 H5 w5 b x5 hr5 h5 => ?_, h4⟩
    have x25 := x24.trans x5
    have x15 := x12.trans x25
    cases b with
    | false => exact iteF ⟨G5, S5, w5, xs, acc, ⟨x15.al, x15.st, fun _ z => z, x15.same⟩, x15.fr, x25.fr _ fD, hr5, ra.mono x25, by simpa using h5⟩
    | true =>
      refine iteT ⟨G5, S5, ρ4, w5, noX, _, hr5, sr4.mono x5, xl_no, fun G6 S6 H6 w6 d v x6 hr6 rp6 h6 => ?_, by simpa using h5⟩
      have x26 := x25.trans x6
      have x16 := x12.trans x26
      have ra6 := ra.mono x26
      have fD6 := x26.fr _ fD
      refine ⟨xs, (hr6.fr _ fD6).2.2, by rw [ra.length]; exact h6.1, ?_⟩
      have hp := hr6.poke (o' := .lst (xs ++ [v])) (fr := G1.fr) fD6 (fun q hq => ⟨x16.fr q hq, hfr q hq⟩)
      refine ⟨⟨G6.al, G6.st, (Dl, .lst (xs ++ [v])) :: G1.fr⟩, S6, w6, xs ++ [v], acc ++ [d], ⟨x16.al, x16.st, fun _ z => z, x16.same⟩, fun q hq => List.mem_cons_of_mem _ hq, List.mem_cons_self, hp, ?_, h6.2⟩
      exact (RepAll.refr ra6).append (.cons (Rep.refr rp6) .nil)
  · have e : i = items.length := by omega
    subst e
    rw [List.drop_length] at h2
    obtain ⟨ok, h2⟩ := hP.done _ _ h2
    obtain ⟨_, i2⟩ := it items.length G2 S2 w2 H' x12 hr2 ok
    refine .inl ⟨i2 rfl, ?_⟩
    -- the list is put among what stays
    obtain ⟨z1, z2, z3⟩ := hr2.fr _ fD
    have x3 : Ext G2 S2 G2 (upd S2 Dl (.lst xs)) := ⟨⟨[], by simp⟩, fun _ z => z, fun _ z => z, fun b u e => by rw [upd_ne (ne_of_none e z1)]; exact e⟩
    have x3' : Ext G1 S1 ⟨G2.al, G2.st, G1.fr⟩ (upd S2 Dl (.lst xs)) := ⟨x2.al, x2.st, fun _ z => z, fun b u e => x3.same _ _ (x2.same _ _ e)⟩
    refine kl _ _ _ _ _ _ (x1.trans x3') ⟨fun b u e => ?_, hr2.len, hr2.nod, fun j b c' f1 f2 => ?_, ⟨hr2.st.1, fun b c' e => ?_⟩, fun q hq => ?_⟩ (.lst upd_same (RepAll.refr (ra.mono x3))) h2
    · by_cases hb : b = Dl
      · subst hb
        rw [upd_same] at e
        cases e
        exact z3
      · rw [upd_ne hb] at e
        exact hr2.same _ _ e
    · have ne : b ≠ Dl := fun z => z2 (z ▸ List.mem_of_getElem? f1)
      have q := hr2.cell j b c' f1 f2
      have q2 := q.mono (H' := H') x3 rfl (by rw [upd_ne ne]; exact q.sNone)
      cases c' with
      | dead => exact q2
      | lst ds =>
        obtain ⟨n0, ys, e3, r⟩ := q2
        exact ⟨n0, ys, e3, RepAll.refr r⟩
      | dk ds =>
        obtain ⟨n0, ys, e3, r⟩ := q2
        exact ⟨n0, ys, e3, Paired.mapP r fun p q z => ⟨z.1, Rep.refr z.2⟩⟩
      | ins C ds =>
        obtain ⟨n0, dx, ys, e3, r⟩ := q2
        exact ⟨n0, dx, ys, e3, Paired.mapP r fun p q z => ⟨z.1, Rep.refr z.2⟩⟩
    · obtain ⟨y1, y2, y3, y4, y5, y6, y7⟩ := hr2.st.2 b c' e
      obtain ⟨n1, n2⟩ := y6 _ fD
      exact ⟨by rw [upd_ne (Ne.symm n1)]; exact y1, by rw [upd_ne (Ne.symm n2)]; exact y2, y3, y4, y5, fun q hq => y6 q (f2 q hq), y7⟩
    · obtain ⟨y1, y2, y3⟩ := hr2.fr q (f2 q hq)
      exact ⟨by rw [upd_ne (hfr q hq)]; exact y1, y2, y3⟩
theorem de_lc {elt tg iter : Expr} {ifs : List Expr} {scope : Scope} {own : List (Str × Nat)} {us : List Nat} {gi : GI} {gt : GG} {tt : GT} {ge : GE} (hc : X.calm = true) (hN : X.N.Nodup) (hi : DI X E tg iter gi) (ok : BlkOk X.N X.env.scope scope own) (hu : ∀ i ∈ us, i ∈ own.map (·.2))
    (hg : ∀ (s : Shared) (H : Hp) (C : Addr) (cl : List (Str × Addr)) (fp : List Addr), DG (X.blk s H scope (compEnvC scope cl C X.env) fp) us tg gt) (ht : ∀ (s : Shared) (H : Hp) (C : Addr) (cl : List (Str × Addr)) (fp : List Addr), DTs (X.blk s H scope (compEnvC scope cl C X.env) fp) E0 ifs tt)
    (he : ∀ (s : Shared) (H : Hp) (C : Addr) (cl : List (Str × Addr)) (fp : List Addr), DE (X.blk s H scope (compEnvC scope cl C X.env) fp) E0 elt ge) (hs : ∀ x, foldedSetIterable iter X.env x = pure x := by intro _; rfl) :
    DE X E (.ListComp elt [⟨tg, iter, ifs, 0⟩] scope pos) (gLc gi gt tt ge (own.map (·.2))) := pe_imp (pe_lc (g := upG X.K us gt) (tt := upT X.K E0 tt) (te := upE X.K E0 ge) hc hN hi ok hg ht he hs) (lc_go hu)
theorem ds_setLc {i : Nat} {y : Str} {py spos : Pos} {elt tg iter : Expr} {ifs : List Expr} {scope : Scope} {own : List (Str × Nat)} {us : List Nat} {gi : GI} {gt : GG} {tt : GT} {ge : GE} (hc : X.calm = true) (hN : X.N.Nodup) (hy : X.N[i]? = some y) (hyl : X.env.scope.names.lookup y = some .local)
    (hsw : swapsWith (.ListComp elt [⟨tg, iter, ifs, 0⟩] scope pos) (some (.Name y py)) spos.line X.env = pure true) (hi : DI X E tg iter gi) (ok : BlkOk X.N X.env.scope scope own) (hu : ∀ i ∈ us, i ∈ own.map (·.2))
    (hg : ∀ (s : Shared) (H : Hp) (C : Addr) (cl : List (Str × Addr)) (fp : List Addr), DG (X.blk s H scope (compEnvC scope cl C X.env) fp) us tg gt) (ht : ∀ (s : Shared) (H : Hp) (C : Addr) (cl : List (Str × Addr)) (fp : List Addr), DTs (X.blk s H scope (compEnvC scope cl C X.env) fp) E0 ifs tt)
    (he : ∀ (s : Shared) (H : Hp) (C : Addr) (cl : List (Str × Addr)) (fp : List Addr), DE (X.blk s H scope (compEnvC scope cl C X.env) fp) E0 elt ge) (hs : ∀ x, foldedSetIterable iter X.env x = pure x := by intro _; rfl) :
    DS X E (.Assign [.Name y py] (.ListComp elt [⟨tg, iter, ifs, 0⟩] scope pos) spos) (gSet i (gLc gi gt tt ge (own.map (·.2)))) := ps_imp (ps_setLc (g := upG X.K us gt) (tt := upT X.K E0 tt) (te := upE X.K E0 ge) hc hN hy hyl hsw hi ok hg ht he hs) (by
  intro D σ H h
  obtain ⟨G, S, ρ, w, F, hr, sr, el, h⟩ := h
  exact lc_go hu σ H _ ⟨G, S, ρ, w, F.ex, fun d w1 => F.nx (ρ.set i (some d)) w1, hr, sr, el.ex, fun G1 S1 H1 w1 d v x1 hr1 rp h1 => el.nx _ _ _ _ _ _ x1 hr1 ((sr.mono x1).set rp i) h1, h⟩)
end
end DL

namespace DL
open PySem PySem.Spec PyProof.Rows L2

/-! ### the start; the drawing state -/
section
variable {K : PySem.W.Frag} {G : Gh} {S H : Hp} {w : Wd}
theorem hr_start : HR K ⟨[], none, []⟩ H ⟨[], none⟩ H := ⟨Same.refl H, rfl, List.nodup_nil, fun i a c e => (nomatch e), ⟨fun _ => rfl, fun a c e => (nomatch e)⟩, fun p hp => (nomatch hp)⟩
def gLaw : GF := fun ds w _ k => ∃ ns : List Int, ds = [.scr ns] ∧ ns.length ≤ 63 ∧ w = ⟨[], none⟩ ∧ ∀ w', k (.bl true) w'
theorem law_start {a : Addr} {ns : List Int} (hl : ns.length ≤ 63) (hS : SqL K H a (ns.map V.int)) : upF 1 K gLaw [.ref a] H (fun v _ => v = .bl true) fun _ _ _ => False :=
  ⟨⟨[], none, []⟩, H, [.scr ns], ⟨[], none⟩, noX, fun d _ => d = .bl true, rfl, hr_start, .cons (.scr hS) .nil, xl_no, fun _ _ _ _ d v _ _ r e => by
    subst e
    cases r
    rfl, ns, rfl, hl, rfl, fun _ => rfl⟩
def stKv (c : Addr) (t : Int) : List (Key × V) := [(.inr "cells", .ref c), (.inr "turn", .int t)]
theorem st_cells (c : Addr) (t : Int) : valV (stKv c t) (.inr "cells") = some (.ref c) := valV_pos rfl
theorem key_ne : ¬ ((Sum.inr ("cells" : Str) : Key) = Sum.inr ("turn" : Str)) := by decide +kernel
theorem st_turn (c : Addr) (t : Int) : valV (stKv c t) (.inr "turn") = some (.int t) := by
  unfold stKv
  rw [valV_neg key_ne, valV_pos rfl]
theorem st_put (c : Addr) (t u : Int) : putK (stKv c t) (.inr "turn") (.int u) = stKv c u := by
  have e : ((stKv c t).any fun kv => decide (kv.1 = (Sum.inr ("turn" : Str) : Key))) = true := by
    rw [valV_any, st_turn]
    rfl
  unfold putK
  rw [if_pos e]
  show [if (Sum.inr ("cells" : Str) : Key) = Sum.inr ("turn" : Str) then ((Sum.inr ("cells" : Str) : Key), V.int u) else (Sum.inr ("cells" : Str), V.ref c), if (Sum.inr ("turn" : Str) : Key) = Sum.inr ("turn" : Str) then ((Sum.inr ("turn" : Str) : Key), V.int u) else (Sum.inr ("turn" : Str), V.int t)] = stKv c u
  rw [if_neg key_ne, if_pos rfl]
  rfl
/-- behind a draw -/
theorem HR.drawn (h : HR K G S w H) {a c : Addr} {n' : Nat} {cells : List Int} {turn : Int} {H' : Hp} (e : G.st = some (a, c)) (he : ∀ b, b ≠ a → b ≠ c → H' b = H b) (h1 : H' a = some (.dK (stKv c turn))) (h2 : H' c = some (.lst (cells.map V.int)))
    (h3 : cells ≠ []) (h4 : cells.length ≤ 63) (h5 : 0 ≤ turn) (h6 : turn + (n' : Nat) ≤ 1000000000) : HR K G S ⟨w.M, some n'⟩ H' := by
  obtain ⟨z1, z2, z3, z4, z5, z6, _⟩ := h.st.2 a c e
  refine ⟨fun b u q => ?_, h.len, h.nod, fun i b cc e1 e2 => ?_, ⟨fun z => (nomatch z), fun a' c' e' => ?_⟩, fun q hq => ?_⟩
  · rw [he b (ne_of_none q z1) (ne_of_none q z2)]
    exact h.same _ _ q
  · have q := h.cell i b cc e1 e2
    exact q.mono (Ext.refl _ _) (he b (fun z => z4 (z ▸ List.mem_of_getElem? e1)) (fun z => z5 (z ▸ List.mem_of_getElem? e1))) q.sNone
  · rw [e] at e'
    cases e'
    exact ⟨z1, z2, z3, z4, z5, z6, cells, turn, h1, h2, h3, h4, h5, h6⟩
  · obtain ⟨y1, y2, y3⟩ := h.fr q hq
    exact ⟨y1, y2, by rw [he _ (z6 q hq).1 (z6 q hq).2]; exact y3⟩
/-- the state is made -/
theorem HR.made (h : HR K G S w H) (hn : w.n = none) {c a : Addr} {cells : List Int} (hc : H c = some (.lst (cells.map V.int))) (nc : S c = none ∧ c ∉ G.al ∧ ∀ p ∈ G.fr, p.1 ≠ c) (ha : H a = some (.dK (stKv c 0))) (na : S a = none ∧ a ∉ G.al ∧ ∀ p ∈ G.fr, p.1 ≠ a) (hac : a ≠ c)
    (h3 : cells ≠ []) (h4 : cells.length ≤ 63) : HR K ⟨G.al, some (a, c), G.fr⟩ S ⟨w.M, some 1000000000⟩ H ∧ Ext G S ⟨G.al, some (a, c), G.fr⟩ S := by
  have x : Ext G S ⟨G.al, some (a, c), G.fr⟩ S := ⟨⟨[], by simp⟩, fun p z => (by rw [h.st.1 hn] at z; cases z), fun _ z => z, Same.refl S⟩
  refine ⟨⟨h.same, h.len, h.nod, fun i b cc e1 e2 => ?_, ⟨fun z => (nomatch z), fun a' c' e' => ?_⟩, h.fr⟩, x⟩
  · have q := h.cell i b cc e1 e2
    exact q.mono x rfl q.sNone
  · cases e'
    exact ⟨na.1, nc.1, hac, na.2.1, nc.2.1, fun p hp => ⟨na.2.2 p hp, nc.2.2 p hp⟩, cells, 0, ha, hc, h3, h4, by omega, by simp⟩
end
theorem lay_ints : ∀ l : List Int, PyData.canLayAll0 (l.map PyData.int) = true ∧ PyData.depthAll (l.map PyData.int) = 0
  | [] => ⟨rfl, rfl⟩
  | x :: r => by
    obtain ⟨h1, h2⟩ := lay_ints r
    refine ⟨?_, ?_⟩
    · simp [PyData.canLayAll0, PyData.canLay0, h1]
    · simp [PyData.depthAll, PyData.depth, h2]
theorem shaped_ints (l : List Int) : SeqAt.shaped (.list (l.map PyData.int)) = true := by
  obtain ⟨h1, h2⟩ := lay_ints l
  unfold SeqAt.shaped
  simp [PyData.canLay0, PyData.depth, h1, h2]
def gTake : GF := fun ds w _ k => ∃ (m : Int) (n : Nat), ds = [.st, .int m] ∧ (0 < m ∧ m.natAbs.log2 < 9000) ∧ w.n = some (n + 1) ∧ ∀ r, 0 ≤ r → r < m → k (.int r) ⟨w.M, some n⟩
def gBegin : GF := fun ds w _ k => ∃ ns : List Int, ds = [.scr ns] ∧ w.n = none ∧ k .st ⟨w.M, some 1000000000⟩
end DL

namespace DL
open PySem PySem.Spec PyProof.Rows L2
/-! ### the equations of the operations, for simp -/
section
variable {w : Wd} {k : KD} {kb : KB} {i j : Int} {s t : Str} {b : Bool} {xs ys : List D} {d e : D} {n : String}
theorem addD_i : addD (.int i) (.int j) w k = k (.int (i + j)) w := rfl
theorem addD_s : addD (.str s) (.str t) w k = (s.length + t.length ≤ sizeLine ∧ k (.str (s ++ t)) w) := rfl
theorem addD_l : addD (.lst xs) (.lst ys) w k = (xs.length + ys.length ≤ sizeLine ∧ k (.lst (xs ++ ys)) w) := rfl
theorem addD_t : addD (.tup xs) (.tup ys) w k = (xs ≠ [] ∧ xs.length + ys.length ≤ sizeLine ∧ k (.tup (xs ++ ys)) w) := rfl
theorem subD_i : subD (.int i) (.int j) w k = k (.int (i - j)) w := rfl
theorem mulD_i : mulD (.int i) (.int j) w k = (CMulX i j ∧ k (.int (i * j)) w) := rfl
theorem mulD_l : mulD (.lst xs) (.int j) w k = (-(2 ^ 63) ≤ j ∧ j < 2 ^ 63 ∧ xs.length * j.toNat ≤ sizeLine ∧ k (.lst (List.replicate j.toNat xs).flatten) w) := rfl
theorem fdivD_i : fdivD (.int i) (.int j) w k = ((j ≠ 0 ∧ j.natAbs.log2 < 9000) ∧ k (.int (i.fdiv j)) w) := rfl
theorem modD_i : modD (.int i) (.int j) w k = (j ≠ 0 ∧ k (.int (i.fmod j)) w) := rfl
theorem powD_i : powD (.int i) (.int j) w k = (CPow i j ∧ k (.int (i ^ j.toNat)) w) := rfl
theorem ltD_i : ltD (.int i) (.int j) w k = k (.bl (decide (i < j))) w := rfl
theorem ltD_s : ltD (.str s) (.str t) w k = k (.bl (decide (s.cps.toList < t.cps.toList))) w := rfl
theorem leD_i : leD (.int i) (.int j) w k = k (.bl (decide (i ≤ j))) w := rfl
theorem gtD_i : gtD (.int i) (.int j) w k = k (.bl (decide (j < i))) w := rfl
theorem geD_i : geD (.int i) (.int j) w k = k (.bl (decide (j ≤ i))) w := rfl
theorem isD_n : isD d .non w k = k (.bl (isNonD d)) w := rfl
theorem isnotD_n : isnotD d .non w k = k (.bl (!isNonD d)) w := rfl
theorem isNonD_non : isNonD .non = true := rfl
theorem isNonD_bl : isNonD (.bl b) = false := rfl
theorem isNonD_int : isNonD (.int i) = false := rfl
theorem isNonD_str : isNonD (.str s) = false := rfl
theorem isNonD_lst : isNonD (.lst xs) = false := rfl
theorem isNonD_tup : isNonD (.tup xs) = false := rfl
theorem negD_i : negD (.int i) w k = k (.int (-i)) w := rfl
theorem iaddD_i : iaddD (.int i) (.int j) w k = k (.int (i + j)) w := rfl
theorem truD_non : truD .non w kb = kb false w := rfl
theorem truD_bl : truD (.bl b) w kb = kb b w := rfl
theorem truD_int : truD (.int i) w kb = kb (i != 0) w := rfl
theorem truD_str : truD (.str s) w kb = (s.length ≤ sizeLine ∧ kb ((s.length : Int) != 0) w) := rfl
theorem truD_lst : truD (.lst xs) w kb = kb (!xs.isEmpty) w := rfl
theorem truD_tup : truD (.tup xs) w kb = kb (!xs.isEmpty) w := rfl
/-- an item, where there is one -/
def someK (o : Option D) (f : D → Prop) : Prop := match o with
  | some d => f d
  | none => False
theorem someK_some {f : D → Prop} : someK (some d) f = f d := rfl
theorem ixD_l : ixD (.lst xs) (.int i) w k = someK (atI xs i) (fun d => k d w) := rfl
theorem ixD_t : ixD (.tup xs) (.int i) w k = someK (atI xs i) (fun d => k d w) := rfl
theorem fAbs_i : fAbs [.int i] w k = k (.int i.natAbs) w := rfl
theorem fInt_i : fInt [.int i] w k = k (.int i) w := rfl
theorem fInt_b : fInt [.bl b] w k = k (.int (if b then 1 else 0)) w := rfl
theorem fMin2_i : fMin2 [.int i, .int j] w k = k (.int (if j < i then j else i)) w := rfl
theorem fLen_l : fLen [.lst xs] w k = k (.int xs.length) w := rfl
theorem fLen_t : fLen [.tup xs] w k = k (.int xs.length) w := rfl
theorem fLen_s : fLen [.str s] w k = (s.length ≤ sizeLine ∧ k (.int s.length) w) := rfl
theorem fList_l : fList [.lst xs] w k = k (.lst xs) w := rfl
theorem fList_t : fList [.tup xs] w k = k (.lst xs) w := rfl
theorem fTuple_l : fTuple [.lst xs] w k = k (.tup xs) w := rfl
theorem fTuple_t : fTuple [.tup xs] w k = k (.tup xs) w := rfl
def optBK (o : Option Bool) (f : Bool → Prop) : Prop := match o with
  | some d => f d
  | none => False
theorem optBK_some {f : Bool → Prop} : optBK (some b) f = f b := rfl
theorem fIsi_non : fIsi [.non, .ob (.ty n)] w k = optBK (kitB "NoneType" n) (fun b => k (.bl b) w) := rfl
theorem fIsi_bl : fIsi [.bl b, .ob (.ty n)] w k = optBK (kitB "bool" n) (fun b => k (.bl b) w) := rfl
theorem fIsi_int : fIsi [.int i, .ob (.ty n)] w k = optBK (kitB "int" n) (fun b => k (.bl b) w) := rfl
theorem fIsi_str : fIsi [.str s, .ob (.ty n)] w k = optBK (kitB "str" n) (fun b => k (.bl b) w) := rfl
theorem fIsi_lst : fIsi [.lst xs, .ob (.ty n)] w k = optBK (kitB "list" n) (fun b => k (.bl b) w) := rfl
theorem fIsi_tup : fIsi [.tup xs, .ob (.ty n)] w k = optBK (kitB "tuple" n) (fun b => k (.bl b) w) := rfl
theorem allBl_map (l : List Bool) : allBl (l.map D.bl) = some l := by
  induction l with
  | nil => rfl
  | cons x r ih =>
    rw [List.map_cons]
    unfold allBl
    rw [ih]
theorem allInt_map (l : List Int) : allInt (l.map D.int) = some l := by
  induction l with
  | nil => rfl
  | cons x r ih =>
    rw [List.map_cons]
    unfold allInt
    rw [ih]
theorem fAll_m (l : List Bool) : fAll [.lst (l.map D.bl)] w k = k (.bl (l.all id)) w := by
  unfold fAll
  simp only [allBl_map]
theorem fAny_m (l : List Bool) : fAny [.lst (l.map D.bl)] w k = k (.bl (l.any id)) w := by
  unfold fAny
  simp only [allBl_map]
theorem fSum_m (l : List Int) : fSum [.lst (l.map D.int)] w k = k (.int l.sum) w := by
  unfold fSum
  simp only [allInt_map]
end
theorem ggTup2 {a b : D} {t : GGs} {r : Rho} {w : Wd} {k : Rho → Wd → Prop} : DL.ggTup 2 t (.tup [a, b]) r w k = t [a, b] r w k := by
  show (2 = 2 ∧ t [a, b] r w k) = _
  simp
theorem ggTup3 {a b c : D} {t : GGs} {r : Rho} {w : Wd} {k : Rho → Wd → Prop} : DL.ggTup 3 t (.tup [a, b, c]) r w k = t [a, b, c] r w k := by
  show (3 = 3 ∧ t [a, b, c] r w k) = _
  simp
theorem ggNil0 {r : Rho} {w : Wd} {k : Rho → Wd → Prop} : DL.ggNil [] r w k = k r w := by
  show ([] = [] ∧ k r w) = _
  simp
theorem ggCons1 {d : D} {ds : List D} {t : GG} {u : GGs} {r : Rho} {w : Wd} {k : Rho → Wd → Prop} : DL.ggCons t u (d :: ds) r w k = t d r w fun r1 w1 => u ds r1 w1 k := rfl
/-! ### equality -/
section
variable {w : Wd} {k : KD} {i j a b c d : Int} {s t : Str}
theorem eqD_i : eqD (.int i) (.int j) w k = k (.bl (decide (i = j))) w := by
  simp [eqD, eqD0, toPD, SeqAt.shaped, PyData.canLay0, PyData.depth, PyData.eqv, Bool.beq_eq_decide_eq]
theorem neD_i : neD (.int i) (.int j) w k = k (.bl (!decide (i = j))) w := by
  simp [neD, neD0, toPD, SeqAt.shaped, PyData.canLay0, PyData.depth, PyData.eqv, Bool.beq_eq_decide_eq]
theorem eqD_s : eqD (.str s) (.str t) w k = k (.bl (decide (s = t))) w := rfl
theorem neD_s : neD (.str s) (.str t) w k = k (.bl (!decide (s = t))) w := rfl
theorem eqD_b {p q : Bool} : eqD (.bl p) (.bl q) w k = k (.bl (decide (p = q))) w := by
  simp [eqD, eqD0, toPD, SeqAt.shaped, PyData.canLay0, PyData.depth, PyData.eqv, Bool.beq_eq_decide_eq]
theorem neD_b {p q : Bool} : neD (.bl p) (.bl q) w k = k (.bl (!decide (p = q))) w := by
  simp [neD, neD0, toPD, SeqAt.shaped, PyData.canLay0, PyData.depth, PyData.eqv, Bool.beq_eq_decide_eq]
theorem eqD_f : eqD (.tup [.int a, .int b]) (.tup [.int c, .int d]) w k = k (.bl (decide (a = c ∧ b = d))) w := by
  simp [eqD, eqD0, toPD, toPDs, SeqAt.shaped, PyData.canLay0, PyData.canLayAll0, PyData.depth, PyData.depthAll, PyData.eqv, PyData.eqvAll, Bool.beq_eq_decide_eq]
theorem neD_f : neD (.tup [.int a, .int b]) (.tup [.int c, .int d]) w k = k (.bl (!decide (a = c ∧ b = d))) w := by
  simp [neD, neD0, toPD, toPDs, SeqAt.shaped, PyData.canLay0, PyData.canLayAll0, PyData.depth, PyData.depthAll, PyData.eqv, PyData.eqvAll, Bool.beq_eq_decide_eq]
end
theorem nc0 : ((0 : Nat) : Int) = 0 := rfl
theorem nc1 : ((1 : Nat) : Int) = 1 := rfl
theorem nc2 : ((2 : Nat) : Int) = 2 := rfl
theorem nc3 : ((3 : Nat) : Int) = 3 := rfl
theorem nc4 : ((4 : Nat) : Int) = 4 := rfl
theorem nc5 : ((5 : Nat) : Int) = 5 := rfl
theorem nc6 : ((6 : Nat) : Int) = 6 := rfl
theorem nc7 : ((7 : Nat) : Int) = 7 := rfl
theorem nc8 : ((8 : Nat) : Int) = 8 := rfl
theorem nc9 : ((9 : Nat) : Int) = 9 := rfl
theorem bl_map (f : D → Bool) (xs : List D) : (xs.map fun x => D.bl (f x)) = (xs.map f).map D.bl := by rw [List.map_map]; rfl
/-! ### indices -/
theorem at_nat {α : Type} {xs : List α} {r : Int} (h0 : 0 ≤ r) (h1 : r < xs.length) : atI xs r = xs[r.toNat]? := by
  unfold atI ixN
  rw [if_pos h0, if_pos h1]
  rfl
theorem at_0 {α : Type} {x : α} {xs : List α} : atI (x :: xs) 0 = some x := by
  rw [at_nat (by decide) (by simp)]
  rfl
theorem at_1 {α : Type} {x y : α} {xs : List α} : atI (x :: y :: xs) 1 = some y := by
  rw [at_nat (by decide) (by simp; omega)]
  rfl
theorem at_2 {α : Type} {x y z : α} {xs : List α} : atI (x :: y :: z :: xs) 2 = some z := by
  rw [at_nat (by decide) (by simp; omega)]
  rfl
theorem at_some {α : Type} {xs : List α} {r : Int} (h0 : 0 ≤ r) (h1 : r < xs.length) : ∃ x, x ∈ xs ∧ atI xs r = some x := by
  rw [at_nat h0 h1]
  have : r.toNat < xs.length := by omega
  exact ⟨xs[r.toNat], List.getElem_mem this, List.getElem?_eq_getElem this⟩
theorem ix_all {xs : List D} {r : Int} {w : Wd} {k : KD} (Pd : D → Prop) (h0 : 0 ≤ r) (h1 : r < xs.length) (hP : ∀ x ∈ xs, Pd x) (hk : ∀ x, Pd x → k x w) : ixD (.lst xs) (.int r) w k := by
  obtain ⟨x, hx, e⟩ := at_some h0 h1
  rw [ixD_l, e]
  exact hk x (hP x hx)
theorem ix_allT {xs : List D} {r : Int} {w : Wd} {k : KD} (Pd : D → Prop) (h0 : 0 ≤ r) (h1 : r < xs.length) (hP : ∀ x ∈ xs, Pd x) (hk : ∀ x, Pd x → k x w) : ixD (.tup xs) (.int r) w k := by
  obtain ⟨x, hx, e⟩ := at_some h0 h1
  rw [ixD_t, e]
  exact hk x (hP x hx)
theorem all_nil {α : Type} {Pd : α → Prop} : ∀ x ∈ ([] : List α), Pd x := fun _ h => nomatch h
theorem all_cons {α : Type} {Pd : α → Prop} {y : α} {ys : List α} (h : Pd y) (hs : ∀ x ∈ ys, Pd x) : ∀ x ∈ y :: ys, Pd x := List.forall_mem_cons.mpr ⟨h, hs⟩
/-- a comprehension whose items change nothing -/
theorem lc_map {gt : GG} {ge : GE} {Ok : Wd → Prop} {ρ : Rho} {k : KD} {items : List D} {w : Wd} (f : D → D) (hOk : Ok w) (hl : items.length ≤ 100000) (h : ∀ x, x ∈ items → ∀ k' : KD, k' (f x) w → gt x ρ w fun ρ1 w1 => ge ρ1 w1 noX k') (hk : k (.lst (items.map f)) w) :
    ∃ P : List D → List D → Wd → Prop, P items [] w ∧ LcS gt gYes ge Ok ρ k P := by
  refine ⟨fun rem acc w' => w' = w ∧ ∃ dn, items = dn ++ rem ∧ acc = dn.map f, ⟨rfl, [], rfl, rfl⟩, ?_, ?_⟩
  · rintro acc w' ⟨rfl, dn, e, rfl⟩
    rw [List.append_nil] at e
    subst e
    exact ⟨hOk, hk⟩
  · rintro x xs acc w' ⟨rfl, dn, e, rfl⟩
    refine ⟨hOk, ?_⟩
    have hx : x ∈ items := by rw [e]; simp
    have := h x hx (fun y w3 => (dn.map f).length < sizeLine ∧ (w3 = w' ∧ ∃ dn', items = dn' ++ xs ∧ dn.map f ++ [y] = dn'.map f)) ⟨?_, rfl, dn ++ [x], by rw [e]; simp, by simp⟩
    · exact this
    · rw [List.length_map]
      have : dn.length ≤ items.length := by rw [e]; simp
      exact Nat.lt_of_le_of_lt (Nat.le_trans this hl) (by decide)
theorem take_ok {w : Wd} {m : Int} {n : Nat} {kx : KX} {k : KD} (hm : 0 < m ∧ m.natAbs.log2 < 9000) (hn : w.n = some (n + 1)) (h : ∀ r, 0 ≤ r → r < m → k (.int r) ⟨w.M, some n⟩) : gTake [.st, .int m] w kx k := ⟨m, n, rfl, hm, hn, h⟩
theorem take_use {w : Wd} {m : Int} {c : Nat} {kx : KX} {k : KD} (n : Nat) (hn : w.n = some c) (hc : n + 1 ≤ c) (hm : 0 < m ∧ m.natAbs.log2 < 9000) (h : ∀ r c', 0 ≤ r → r < m → n ≤ c' → k (.int r) ⟨w.M, some c'⟩) : gTake [.st, .int m] w kx k :=
  ⟨m, c - 1, rfl, hm, by rw [hn]; congr 1; omega, fun r h0 h1 => h r _ h0 h1 (by omega)⟩
theorem log_of {m : Nat} (h : m < 2 ^ 200) : m.log2 < 9000 := Nat.lt_trans (PySem.Flt.log2_lt_of (by decide) h) (by decide)
theorem range_len {n : Nat} : ((List.range n).map fun (i : Nat) => D.int (i : Int)).length = n := by simp
end DL

namespace DL
open PySem PySem.Spec PyProof.Rows L2 RZ

/-! ### zip -/
def zipD (xs ys : List D) : List D := List.zipWith (fun x y => .tup [x, y]) xs ys
def giZip (ga : GA) : GI := fun ρ w kx k => ga ρ w kx fun ds w1 => match ds with
  | [.lst xs, .lst ys] => k (zipD xs ys) (fun _ => True) w1
  | [.tup xs, .tup ys] => k (zipD xs ys) (fun _ => True) w1
  | [.rf i, .lst ys] => match w1.M[i]? with
    | some (.lst xs) => k (zipD xs ys) (fun w => w.M[i]? = some (.lst xs)) w1
    | _ => False
  | _ => False
theorem zip_get {xs ys : List D} {i : Nat} {d : D} (h : (zipD xs ys)[i]? = some d) : ∃ x y, xs[i]? = some x ∧ ys[i]? = some y ∧ d = .tup [x, y] := by
  unfold zipD at h
  rw [List.getElem?_zipWith] at h
  cases h1 : xs[i]? with
  | none => rw [h1] at h; cases h
  | some x =>
    cases h2 : ys[i]? with
    | none => rw [h1, h2] at h; cases h
    | some y =>
      rw [h1, h2] at h
      exact ⟨x, y, rfl, rfl, (Option.some.inj h).symm⟩
theorem zip_len {xs ys : List D} {i : Nat} (h : (zipD xs ys).length = i) : xs.length ≤ i ∨ ys.length ≤ i := by
  unfold zipD at h
  rw [List.length_zipWith] at h
  omega
section
variable {X : Cx} {E : XK}
theorem zip_new {K : PySem.W.Frag} {G : Gh} {S H : Hp} {w : Wd} {x y : V} {d e : D} {T : Addr} (hr : HR K G S w H) (hT : H T = none) (r1 : Rep K G S x d) (r2 : Rep K G S y e) :
    ∃ G2 S2, Ext G S G2 S2 ∧ HR K G2 S2 w (upd H T (.tup [x, y])) ∧ Rep K G2 S2 (.ref T) (.tup [d, e]) := by
  obtain ⟨h1, x1⟩ := hr.newS hT (.tup [x, y])
  exact ⟨G, _, x1, h1, .tup upd_same ((RepAll.cons r1 (.cons r2 .nil)).mono x1)⟩
theorem iter_zipL {K : PySem.W.Frag} {G : Gh} {S : Hp} {a b : Addr} {xs ys : List V} {ds es : List D} (e1 : S a = some (.lst xs)) (e2 : S b = some (.lst ys)) (r1 : RepAll K G S xs ds) (r2 : RepAll K G S ys es) : IterOk K (Itz K a b) (zipD ds es) (fun _ => True) G S := by
  intro i G1 S1 w1 H1 x1 hr1 _
  have q1 : SqL K H1 a xs := .inl (.inl (hr1.same _ _ (x1.same _ _ e1)))
  have q2 : SqL K H1 b ys := .inl (.inl (hr1.same _ _ (x1.same _ _ e2)))
  refine ⟨fun d hd => ?_, fun hl => ⟨xs, ys, q1, q2, by rw [r1.length, r2.length]; exact zip_len hl⟩⟩
  obtain ⟨d1, d2, g1, g2, rfl⟩ := zip_get hd
  obtain ⟨v1, h1, h2⟩ := r1.get g1
  obtain ⟨v2, h3, h4⟩ := r2.get g2
  refine ⟨⟨xs, ys, v1, v2, q1, q2, h1, h3⟩, fun x H2 y => ?_⟩
  obtain ⟨T, u1, u2, rfl, hT, rfl, y1, y2⟩ := y
  have z1 := y1 xs q1
  have z2 := y2 ys q2
  rw [h1] at z1
  rw [h3] at z2
  cases z1
  cases z2
  exact zip_new hr1 hT (h2.mono x1) (h4.mono x1)
theorem iter_zipT {K : PySem.W.Frag} {G : Gh} {S : Hp} {a b : Addr} {xs ys : List V} {ds es : List D} (e1 : S a = some (.tup xs)) (e2 : S b = some (.tup ys)) (r1 : RepAll K G S xs ds) (r2 : RepAll K G S ys es) : IterOk K (ItzT K a b) (zipD ds es) (fun _ => True) G S := by
  intro i G1 S1 w1 H1 x1 hr1 _
  have q1 : SqT K H1 a xs := .inl (.inl (hr1.same _ _ (x1.same _ _ e1)))
  have q2 : SqT K H1 b ys := .inl (.inl (hr1.same _ _ (x1.same _ _ e2)))
  refine ⟨fun d hd => ?_, fun hl => ⟨xs, ys, q1, q2, by rw [r1.length, r2.length]; exact zip_len hl⟩⟩
  obtain ⟨d1, d2, g1, g2, rfl⟩ := zip_get hd
  obtain ⟨v1, h1, h2⟩ := r1.get g1
  obtain ⟨v2, h3, h4⟩ := r2.get g2
  refine ⟨⟨xs, ys, v1, v2, q1, q2, h1, h3⟩, fun x H2 y => ?_⟩
  obtain ⟨T, u1, u2, rfl, hT, rfl, y1, y2⟩ := y
  have z1 := y1 xs q1
  have z2 := y2 ys q2
  rw [h1] at z1
  rw [h3] at z2
  cases z1
  cases z2
  exact zip_new hr1 hT (h2.mono x1) (h4.mono x1)
theorem iter_zipC {K : PySem.W.Frag} {G : Gh} {S : Hp} {a b : Addr} {i : Nat} {ys : List V} {ds es : List D} (e1 : G.al[i]? = some a) (e2 : S b = some (.lst ys)) (r2 : RepAll K G S ys es) : IterOk K (Itz K a b) (zipD ds es) (fun w => w.M[i]? = some (.lst ds)) G S := by
  intro j G1 S1 w1 H1 x1 hr1 ok
  obtain ⟨_, xs, h1, r1⟩ := hr1.cell i a _ (x1.alGet e1) ok
  have q1 : SqL K H1 a xs := .inl (.inl h1)
  have q2 : SqL K H1 b ys := .inl (.inl (hr1.same _ _ (x1.same _ _ e2)))
  refine ⟨fun d hd => ?_, fun hl => ⟨xs, ys, q1, q2, by rw [r1.length, r2.length]; exact zip_len hl⟩⟩
  obtain ⟨d1, d2, g1, g2, rfl⟩ := zip_get hd
  obtain ⟨v1, h1, h2⟩ := r1.get g1
  obtain ⟨v2, h3, h4⟩ := r2.get g2
  refine ⟨⟨xs, ys, v1, v2, q1, q2, h1, h3⟩, fun x H2 y => ?_⟩
  obtain ⟨T, u1, u2, rfl, hT, rfl, y1, y2⟩ := y
  have z1 := y1 xs q1
  have z2 := y2 ys q2
  rw [h1] at z1
  rw [h3] at z2
  cases z1
  cases z2
  exact zip_new hr1 hT h2 (h4.mono x1)
theorem di_zip {e e2 : Expr} {ga : GA} {p pos tpos : Pos} {elts : List Expr} {kk : Nat} (B : Blt X.mg) (hg : Gl X "zip") (ha : DA X E [e, e2] ga)
    (hs : starEach [e, e2] X.env = (false, eval e X.env) :: starEach [e2] X.env := by rfl) (hpl : (backTo pos (starEach [e2] X.env)).any (·.1) = false := by rfl) :
    DI X E (.Tuple elts kk tpos) (.Call (.Name "zip" p) [e, e2] [] pos) (giZip ga) := pi_imp (pi_zipA hg B.zip_ ha hs hpl) (by
  rintro σ H R ⟨G, S, ρ, w, kx, k, hr, sr, xl, kl, h⟩
  refine ⟨G, S, ρ, w, kx, _, hr, sr, xl, fun G1 S1 H1 w1 ds vs x1 hr1 rp h1 => ?_, h⟩
  split at h1
  · obtain ⟨v, u, rfl, r1, r2⟩ := two_rep rp
    cases r1 with
    | lst e1 q1 => cases r2 with
      | lst e2 q2 => exact ⟨_, _, _, _, rfl, .inl ⟨.inl (.inl (hr1.same _ _ e1)), .inl (.inl (hr1.same _ _ e2)), kl _ _ _ _ _ _ _ x1 hr1 (iter_zipL e1 e2 q1 q2) h1⟩⟩
  · obtain ⟨v, u, rfl, r1, r2⟩ := two_rep rp
    cases r1 with
    | tup e1 q1 => cases r2 with
      | tup e2 q2 => exact ⟨_, _, _, _, rfl, .inr ⟨.inl (.inl (hr1.same _ _ e1)), .inl (.inl (hr1.same _ _ e2)), kl _ _ _ _ _ _ _ x1 hr1 (iter_zipT e1 e2 q1 q2) h1⟩⟩
  · obtain ⟨v, u, rfl, r1, r2⟩ := two_rep rp
    split at h1
    · rename_i em
      cases r1 with
      | rf e1 => cases r2 with
        | lst e2 q2 =>
          obtain ⟨_, xs, g1, g2⟩ := hr1.cell _ _ _ e1 em
          exact ⟨_, _, _, _, rfl, .inl ⟨.inl (.inl g1), .inl (.inl (hr1.same _ _ e2)), kl _ _ _ _ _ _ _ x1 hr1 (iter_zipC e1 e2 q2) h1⟩⟩
    · exact h1.elim
  · exact h1.elim)
end

/-! ### xs[::-1] -/
def gRevL (g : GE) : GE := fun ρ w kx k => g ρ w kx fun x w1 => match x with
  | .lst xs => k (.lst xs.reverse) w1
  | _ => False
theorem RepAll.rev {K : PySem.W.Frag} {G : Gh} {S : Hp} : ∀ {vs : List V} {ds : List D}, RepAll K G S vs ds → RepAll K G S vs.reverse ds.reverse
  | _, _, .nil => .nil
  | _, _, .cons h r => by
    rw [List.reverse_cons, List.reverse_cons]
    exact (RepAll.rev r).append (.cons h .nil)
theorem de_revL {X : Cx} {E : XK} {e : Expr} {g : GE} {k : Nat} {p1 p2 p3 pos : Pos} (he : DE X E e g) : DE X E (.Subscript e (.Slice none none (some (.UnaryOp .USub (.Constant (.int 1) k p1) p2)) p3) pos) (gRevL g) := by
  refine pe_imp (pe_revL he) ?_
  rintro σ H Q ⟨G, S, ρ, w, kx, k, hr, sr, xl, kl, h⟩
  refine ⟨G, S, ρ, w, kx, _, hr, sr, xl, fun G1 S1 H1 w1 d x x1 hr1 rp h1 => ?_, h⟩
  cases rp with
  | lst e r => exact ⟨_, _, rfl, .inl (.inl (hr1.same _ _ e)), (kl.mono x1).newL hr1 (RepAll.rev r) h1⟩
  | _ => exact h1.elim
/-! ### comprehensions by a relation -/
theorem paired_snoc {α β : Type} {R : α → β → Prop} {x : α} {y : β} (h : R x y) : ∀ {xs : List α} {ys : List β}, Paired R xs ys → Paired R (xs ++ [x]) (ys ++ [y])
  | _, _, .nil => .cons h .nil
  | _, _, .cons r t => .cons r (paired_snoc h t)
theorem lc_rel {gt : GG} {ge : GE} {Ok : Wd → Prop} {ρ : Rho} {k : KD} {items : List D} {w : Wd} (R : D → D → Prop) (hOk : Ok w) (hl : items.length ≤ 100000) (h : ∀ x, x ∈ items → ∀ k' : KD, (∀ y, R x y → k' y w) → gt x ρ w fun ρ1 w1 => ge ρ1 w1 noX k')
    (hk : ∀ ys, Paired R items ys → k (.lst ys) w) : ∃ P : List D → List D → Wd → Prop, P items [] w ∧ LcS gt gYes ge Ok ρ k P := by
  refine ⟨fun rem acc w' => w' = w ∧ ∃ dn, items = dn ++ rem ∧ Paired R dn acc, ⟨rfl, [], rfl, .nil⟩, ?_, ?_⟩
  · rintro acc w' ⟨rfl, dn, e, r⟩
    rw [List.append_nil] at e
    subst e
    exact ⟨hOk, hk _ r⟩
  · rintro x xs acc w' ⟨rfl, dn, e, r⟩
    refine ⟨hOk, ?_⟩
    have hx : x ∈ items := by rw [e]; simp
    have := h x hx (fun y w3 => acc.length < sizeLine ∧ (w3 = w' ∧ ∃ dn', items = dn' ++ xs ∧ Paired R dn' (acc ++ [y]))) fun y hy => ⟨?_, rfl, dn ++ [x], by rw [e]; simp, paired_snoc hy r⟩
    · exact this
    · have l := Paired.length r
      have : dn.length ≤ items.length := by rw [e]; simp
      exact Nat.lt_of_le_of_lt (Nat.le_trans (by omega) hl) (by decide)
/-! ### slices -/
theorem slD_l {xs : List D} {lo hi : Option Int} {w : Wd} {k : KD} : slD (.lst xs) lo hi w k = k (.lst (cutD xs lo hi)) w := rfl
theorem cut_map {α β : Type} (f : α → β) (xs : List α) (lo hi : Option Int) : cutD (xs.map f) lo hi = (cutD xs lo hi).map f := by
  unfold cutD
  rw [List.length_map, List.map_take, List.map_drop]
theorem cut_mem {α : Type} {xs : List α} {lo hi : Option Int} {x : α} (h : x ∈ cutD xs lo hi) : x ∈ xs := List.mem_of_mem_drop (List.mem_of_mem_take h)
theorem cut_len {α : Type} (xs : List α) (k : Nat) : (cutD xs none (some (k : Int))).length ≤ k := by
  unfold cutD
  rw [HT.sIx_none, HT.sIx_nat, List.drop_zero, List.length_take]
  omega
/-! ### plain data -/
mutual
def plain : D → Bool
  | .non => true
  | .int _ => true
  | .str _ => true
  | .lst xs => plains xs
  | .tup xs => plains xs
  | _ => false
def plains : List D → Bool
  | [] => true
  | x :: xs => plain x && plains xs
end
mutual
def okF : D → Bool
  | .non => true
  | .bl _ => true
  | .int _ => true
  | .str _ => true
  | .lst xs => okFs xs
  | .tup xs => okFs xs
  | _ => false
def okFs : List D → Bool
  | [] => true
  | x :: xs => okF x && okFs xs
end
mutual
def dep : D → Nat
  | .lst xs => deps xs + 1
  | .tup xs => deps xs + 1
  | _ => 0
def deps : List D → Nat
  | [] => 0
  | x :: xs => max (dep x) (deps xs)
end
-- no list within is too long for a walk
mutual
def wid : D → Bool
  | .lst xs => decide (xs.length ≤ 100000) && wids xs
  | .tup xs => decide (xs.length ≤ 100000) && wids xs
  | _ => true
def wids : List D → Bool
  | [] => true
  | x :: xs => wid x && wids xs
end
theorem plains_mem : ∀ {xs : List D} {x : D}, plains xs = true → x ∈ xs → plain x = true
  | y :: ys, x, h, hx => by
    unfold plains at h
    rw [Bool.and_eq_true] at h
    rcases List.mem_cons.mp hx with rfl | hx
    · exact h.1
    · exact plains_mem h.2 hx
theorem okFs_mem : ∀ {xs : List D} {x : D}, okFs xs = true → x ∈ xs → okF x = true
  | y :: ys, x, h, hx => by
    unfold okFs at h
    rw [Bool.and_eq_true] at h
    rcases List.mem_cons.mp hx with rfl | hx
    · exact h.1
    · exact okFs_mem h.2 hx
theorem wids_mem : ∀ {xs : List D} {x : D}, wids xs = true → x ∈ xs → wid x = true
  | y :: ys, x, h, hx => by
    unfold wids at h
    rw [Bool.and_eq_true] at h
    rcases List.mem_cons.mp hx with rfl | hx
    · exact h.1
    · exact wids_mem h.2 hx
theorem deps_mem : ∀ {xs : List D} {x : D}, x ∈ xs → dep x ≤ deps xs
  | y :: ys, x, hx => by
    unfold deps
    rcases List.mem_cons.mp hx with rfl | hx
    · omega
    · have := deps_mem hx
      omega
mutual
theorem plain_ok : ∀ {d : D}, plain d = true → okF d = true
  | .non, _ => rfl
  | .int _, _ => rfl
  | .str _, _ => rfl
  | .lst xs, h => by
    unfold plain at h
    unfold okF
    exact plains_ok h
  | .tup xs, h => by
    unfold plain at h
    unfold okF
    exact plains_ok h
theorem plains_ok : ∀ {xs : List D}, plains xs = true → okFs xs = true
  | [], _ => rfl
  | x :: xs, h => by
    unfold plains at h
    rw [Bool.and_eq_true] at h
    unfold okFs
    rw [Bool.and_eq_true]
    exact ⟨plain_ok h.1, plains_ok h.2⟩
end
/-! ### equality of plain data -/
mutual
def lay : D → Bool
  | .non => true
  | .bl _ => true
  | .int _ => true
  | .str s => PyData.strOk s
  | .lst xs => lays xs
  | .tup xs => lays xs
  | _ => false
def lays : List D → Bool
  | [] => true
  | x :: xs => lay x && lays xs
end
mutual
theorem lay_pd : ∀ {d : D}, lay d = true → ∃ p, toPD d = some p ∧ p.canLay0 = true ∧ p.depth = dep d
  | .non, _ => ⟨_, rfl, rfl, rfl⟩
  | .bl _, _ => ⟨_, rfl, rfl, rfl⟩
  | .int _, _ => ⟨_, rfl, rfl, rfl⟩
  | .str s, h => ⟨_, rfl, h, rfl⟩
  | .lst xs, h => by
    obtain ⟨ps, h1, h2, h3⟩ := lays_pd (xs := xs) h
    refine ⟨.list ps, by rw [toPD, h1]; rfl, h2, ?_⟩
    show PyData.depthAll ps + 1 = _
    rw [h3]
    rfl
  | .tup xs, h => by
    obtain ⟨ps, h1, h2, h3⟩ := lays_pd (xs := xs) h
    refine ⟨.tuple ps, by rw [toPD, h1]; rfl, h2, ?_⟩
    show PyData.depthAll ps + 1 = _
    rw [h3]
    rfl
theorem lays_pd : ∀ {xs : List D}, lays xs = true → ∃ ps, toPDs xs = some ps ∧ PyData.canLayAll0 ps = true ∧ PyData.depthAll ps = deps xs
  | [], _ => ⟨[], rfl, rfl, rfl⟩
  | x :: xs, h => by
    unfold lays at h
    rw [Bool.and_eq_true] at h
    obtain ⟨p, h1, h2, h3⟩ := lay_pd h.1
    obtain ⟨ps, h4, h5, h6⟩ := lays_pd h.2
    refine ⟨p :: ps, by rw [toPDs, h1, h4], by simp [PyData.canLayAll0, h2, h5], ?_⟩
    show max p.depth (PyData.depthAll ps) = max (dep x) (deps xs)
    rw [h3, h6]
end
theorem neD_self {d : D} {w : Wd} {k : KD} (h : lay d = true) (hd : dep d ≤ 64) (hk : k (.bl false) w) : neD d d w k := by
  obtain ⟨p, h1, h2, h3⟩ := lay_pd h
  have sh : SeqAt.shaped p = true := by
    unfold SeqAt.shaped
    rw [h2, h3, decide_eq_true hd]
    rfl
  have e : neD0 d d w k := by
    unfold neD0
    rw [h1]
    refine ⟨sh, sh, ?_⟩
    rw [SeqAt.eqv_refl p h2]
    exact hk
  cases d with
  | str s =>
    rw [neD_s, decide_eq_true rfl]
    exact hk
  | _ => exact e
theorem eqD_self {d : D} {w : Wd} {k : KD} (h : lay d = true) (hd : dep d ≤ 64) (hk : k (.bl true) w) : eqD d d w k := by
  obtain ⟨p, h1, h2, h3⟩ := lay_pd h
  have sh : SeqAt.shaped p = true := by
    unfold SeqAt.shaped
    rw [h2, h3, decide_eq_true hd]
    rfl
  have e : eqD0 d d w k := by
    unfold eqD0
    rw [h1]
    refine ⟨sh, sh, ?_⟩
    rw [SeqAt.eqv_refl p h2]
    exact hk
  cases d with
  | str s =>
    rw [eqD_s, decide_eq_true rfl]
    exact hk
  | _ => exact e
/-- what the laws' own comparison tells: alike, kind by kind -/
def gSame : Nat → GF
  | 0 => fun _ _ _ _ => False
  | j + 1 => fun ds w _ k => ∃ a b : D, ds = [a, b] ∧ (okF a = true ∧ plain b = true ∧ dep b ≤ j ∧ wid a = true ∧ wid b = true) ∧ ∀ c : Bool, (c = true ↔ a = b) → k (.bl c) w
theorem zip_pairs {xs ys : List D} (hl : xs.length = ys.length) : ∀ {cs : List D}, Paired (fun p y => ∃ c a b, p = D.tup [a, b] ∧ y = D.bl c ∧ (c = true ↔ a = b)) (zipD xs ys) cs → ∃ bs : List Bool, cs = bs.map D.bl ∧ (bs.all id = true ↔ xs = ys) := by
  induction xs generalizing ys with
  | nil =>
    intro cs h
    cases ys with
    | cons y ys => cases hl
    | nil =>
      cases h
      exact ⟨[], rfl, by simp⟩
  | cons x xs ih =>
    intro cs h
    cases ys with
    | nil => cases hl
    | cons y ys =>
      unfold zipD at h
      rw [List.zipWith_cons_cons] at h
      cases h with
      | cons h1 h2 =>
        obtain ⟨c, a, b, e1, rfl, h3⟩ := h1
        obtain ⟨bs, rfl, h4⟩ := ih (by simpa using hl) h2
        cases e1
        refine ⟨c :: bs, rfl, ?_⟩
        rw [List.all_cons, Bool.and_eq_true, h4]
        show c = true ∧ xs = ys ↔ x :: xs = y :: ys
        rw [h3, List.cons.injEq]
end DL

namespace DL
open PySem PySem.Spec PyProof.Rows L2 RZ

/-! ### methods of lists and texts -/
abbrev FM := D → List D → Wd → KD → Prop
def MtOk (K : PySem.W.Frag) (r : V → List V → Hp → VK → Prop) (f : FM) : Prop := ∀ {G S H w x d vs ds k Q}, HR K G S w H → Rep K G S x d → RepAll K G S vs ds → KL K G S k Q → f d ds w k → r x vs H Q
def isTy (T : String) (d : D) (w : Wd) : Prop := match d with
  | .str _ => T = "str"
  | .lst _ => T = "list"
  | .rf i => match w.M[i]? with
    | some (.lst _) => T = "list"
    | some (.dk _) => T = "dict"
    | _ => False
  | _ => False
theorem isTy_ok {K : PySem.W.Frag} {G : Gh} {S H : Hp} {w : Wd} {v : V} {d : D} {T : String} (hr : HR K G S w H) (r : Rep K G S v d) (h : isTy T d w) : tyV K T v H := by
  cases r with
  | str x => exact h
  | lst e r => exact .inl ⟨h, _, .inl (.inl (hr.same _ _ e))⟩
  | rf e =>
    unfold isTy at h
    simp only at h
    split at h
    · rename_i e2
      obtain ⟨_, ys, h1, h2⟩ := hr.cell _ _ _ e e2
      exact .inl ⟨h, ys, .inl (.inl h1)⟩
    · rename_i e2
      obtain ⟨_, ys, h1, h2⟩ := hr.cell _ _ _ e e2
      exact .inr (.inr (.inl ⟨h, .inl ⟨ys, h1⟩⟩))
    · exact h.elim
  | _ => exact h.elim
def gBM (T : String) (f : FM) (go : GE) (ga : GA) : GE := fun ρ w kx k => go ρ w kx fun x w1 => isTy T x w1 ∧ ga ρ w1 kx fun xs w2 => f x xs w2 k
section
variable {X : Cx} {E : XK} {o e : Expr} {es : List Expr} {go : GE} {ga : GA} {apos cpos : Pos} {name : Str} {T id : String} {r : V → List V → Hp → VK → Prop} {f : FM}
theorem de_bm (pa : PlainAttrs T) (slot : Slot T name id) (hty : typeOf (.builtin id) = pure (.type "method_descriptor")) (hm : MtR X id r) (hf : MtOk X.K r f) (ho : DE X E o go) (ha : DA X E (e :: es) ga)
    (hbase : attributeBase o name X.env (eval o X.env) = eval o X.env)
    (hfew : ((backTo cpos (starEach (e :: es) X.env)).all (fun x => !x.1) && (backToKw cpos (keywordEach [] X.env)).all (fun x => x.1.isSome)
      && decide ((e :: es).length + ([] : List Keyword).length + (if ([] : List Keyword).isEmpty then 0 else 1) < 30)) = true)
    (hline : (apos.endLine == cpos.line) = true) (hs : starEach (e :: es) X.env = (false, eval e X.env) :: starEach es X.env) (hplain : (backTo cpos (starEach es X.env)).any (·.1) = false) :
    DE X E (.Call (.Attribute o name apos) (e :: es) [] cpos) (gBM T f go ga) := pe_imp (pe_bm pa slot hty hm ho ha hbase hfew hline hs hplain) (by
  rintro σ H Q ⟨G, S, ρ, w, kx, k, hr, sr, xl, kl, h⟩
  exact ⟨G, S, ρ, w, kx, _, hr, sr, xl, fun G1 S1 H1 w1 d v x1 hr1 rp h1 => ⟨isTy_ok hr1 rp h1.1, G1, S1, ρ, w1, kx, _, hr1, sr.mono x1, xl.mono x1, fun G2 S2 H2 w2 ds vs x2 hr2 rp2 h2 => hf hr2 (rp.mono x2) rp2 (kl.mono (x1.trans x2)) h2, h1.2⟩, h⟩)
theorem de_bm0 (pa : PlainAttrs T) (slot : Slot T name id) (hty : typeOf (.builtin id) = pure (.type "method_descriptor")) (hm : MtR X id r) (hf : MtOk X.K r f) (ho : DE X E o go)
    (hbase : attributeBase o name X.env (eval o X.env) = eval o X.env) (hline : (apos.endLine == cpos.line) = true) :
    DE X E (.Call (.Attribute o name apos) [] [] cpos) (gBM T f go gaNil) := pe_imp (pe_bm0 pa slot hty hm ho hbase hline) (by
  rintro σ H Q ⟨G, S, ρ, w, kx, k, hr, sr, xl, kl, h⟩
  exact ⟨G, S, ρ, w, kx, _, hr, sr, xl, fun G1 S1 H1 w1 d v x1 hr1 rp h1 => ⟨isTy_ok hr1 rp h1.1, hf hr1 rp .nil (kl.mono x1) h1.2⟩, h⟩)
end
/-! cells: append, pop, extend, reverse -/
def cellK (i : Nat) (w : Wd) (f : List D → Prop) : Prop := match w.M[i]? with
  | some (.lst xs) => f xs
  | _ => False
theorem cell_get {K : PySem.W.Frag} {G : Gh} {S H : Hp} {w : Wd} {a : Addr} {i : Nat} {f : List D → Prop} (hr : HR K G S w H) (e : G.al[i]? = some a) (h : cellK i w f) :
    ∃ ds xs, w.M[i]? = some (.lst ds) ∧ S a = none ∧ H a = some (.lst xs) ∧ RepAll K G S xs ds ∧ f ds := by
  unfold cellK at h
  split at h
  · rename_i ds e2
    obtain ⟨h1, xs, h2, h3⟩ := hr.cell _ _ _ e e2
    exact ⟨ds, xs, e2, h1, h2, h3, h⟩
  · exact h.elim
theorem cell_put {K : PySem.W.Frag} {G : Gh} {S H : Hp} {w : Wd} {a : Addr} {i : Nat} {c : Cell} {ys : List V} {es : List D} (hr : HR K G S w H) (e : G.al[i]? = some a) (e2 : w.M[i]? = some c) (hs : S a = none) (r : RepAll K G S ys es) :
    HR K G S ⟨w.M.set i (.lst es), w.n⟩ (upd H a (.lst ys)) := hr.setC e e2 hs ⟨hs, ys, upd_same, r⟩
def mAppend : FM := fun x ds w k => match x, ds with
  | .rf i, [d] => cellK i w fun xs => xs.length < sizeLine ∧ k .non ⟨w.M.set i (.lst (xs ++ [d])), w.n⟩
  | _, _ => False
def mPopAt : FM := fun x ds w k => match x, ds with
  | .rf i, [.int j] => cellK i w fun xs => 0 ≤ j ∧ j < xs.length ∧ j < 2 ^ 63 ∧ someK xs[j.toNat]? fun d => k d ⟨w.M.set i (.lst (xs.eraseIdx j.toNat)), w.n⟩
  | _, _ => False
def mExtend : FM := fun x ds w k => match x, ds with
  | .rf i, [.lst ys] => cellK i w fun xs => xs.length + ys.length ≤ sizeLine ∧ k .non ⟨w.M.set i (.lst (xs ++ ys)), w.n⟩
  | _, _ => False
def mReverse : FM := fun x ds w k => match x, ds with
  | .rf i, [] => cellK i w fun xs => k .non ⟨w.M.set i (.lst xs.reverse), w.n⟩
  | _, _ => False
section
variable {K : PySem.W.Frag}
theorem ok_append : MtOk K rAppend mAppend := by
  intro G S H w x d vs ds k Q hr rx rxs kl h
  unfold mAppend at h
  split at h
  · cases rx with
    | rf e =>
      obtain ⟨es, xs, e2, h1, h2, h3, h4, h5⟩ := cell_get hr e h
      obtain ⟨v, rfl, r⟩ := one_rep rxs
      exact ⟨_, xs, v, rfl, rfl, h2, by rw [h3.length]; exact h4, kl _ _ _ _ _ _ (Ext.refl _ _) (cell_put hr e e2 h1 (h3.append (.cons r .nil))) .non h5⟩
  · exact h.elim
theorem seqIx {n : Nat} {j : Int} (h0 : 0 ≤ j) (h1 : j < n) : seqIndex? j n = some j.toNat := by
  have e : ixN n j = some j.toNat := by
    unfold ixN
    rw [if_pos h0, if_pos h1]
  exact (ixN_seq e).1
theorem ok_popAt : MtOk K rPopAt mPopAt := by
  intro G S H w x d vs ds k Q hr rx rxs kl h
  unfold mPopAt at h
  split at h
  · cases rx with
    | rf e =>
      obtain ⟨es, xs, e2, h1, h2, h3, h4, h5, h6, h7⟩ := cell_get hr e h
      obtain ⟨v, rfl, r⟩ := one_rep rxs
      cases r
      unfold someK at h7
      split at h7
      · rename_i d e3
        obtain ⟨u, e4, r4⟩ := h3.get e3
        exact ⟨_, xs, _, _, u, rfl, rfl, h2, by omega, h6, seqIx h4 (by rw [h3.length]; exact h5), e4, kl _ _ _ _ _ _ (Ext.refl _ _) (cell_put hr e e2 h1 (h3.eraseIdx _)) r4 h7⟩
      · exact h7.elim
  · exact h.elim
theorem ok_extend : MtOk K rExtend mExtend := by
  intro G S H w x d vs ds k Q hr rx rxs kl h
  unfold mExtend at h
  split at h
  · cases rx with
    | rf e =>
      obtain ⟨es, xs, e2, h1, h2, h3, h4, h5⟩ := cell_get hr e h
      obtain ⟨v, rfl, r⟩ := one_rep rxs
      cases r with
      | lst e6 r6 => exact ⟨_, _, xs, _, rfl, rfl, h2, hr.same _ _ e6, by rw [h3.length, r6.length]; exact h4, kl _ _ _ _ _ _ (Ext.refl _ _) (cell_put hr e e2 h1 (h3.append r6)) .non h5⟩
  · exact h.elim
theorem ok_reverse : MtOk K rReverse mReverse := by
  intro G S H w x d vs ds k Q hr rx rxs kl h
  unfold mReverse at h
  split at h
  · cases rx with
    | rf e =>
      obtain ⟨es, xs, e2, h1, h2, h3, h5⟩ := cell_get hr e h
      cases rxs
      exact ⟨_, xs, rfl, rfl, h2, kl _ _ _ _ _ _ (Ext.refl _ _) (cell_put hr e e2 h1 (RepAll.rev h3)) .non h5⟩
  · exact h.elim
end
/-! x.split(sep): a list that stays, or a cell -/
theorem rep_strs {K : PySem.W.Frag} {G : Gh} {S : Hp} : ∀ ys : List Str, RepAll K G S (ys.map V.str) (ys.map D.str)
  | [] => .nil
  | y :: ys => .cons (.str y) (rep_strs ys)
def mSplit : FM := fun x ds w k => match x, ds with
  | .str a, [.str b] => (b.length == 0) = false ∧ a.length + 2 ≤ sizeLine ∧ k (.lst ((Txt.split a b).map D.str)) w
  | _, _ => False
def mSplitC : FM := fun x ds w k => match x, ds with
  | .str a, [.str b] => (b.length == 0) = false ∧ a.length + 2 ≤ sizeLine ∧ k (.rf w.M.length) ⟨w.M ++ [.lst ((Txt.split a b).map D.str)], w.n⟩
  | _, _ => False
def rSplitT : V → List V → Hp → VK → Prop := fun x xs H Q => ∃ a b, x = .str a ∧ xs = [.str b] ∧ (b.length == 0) = false ∧ a.length + 2 ≤ sizeLine ∧ rNewStrs (Txt.split a b) H Q
theorem ok_split {K : PySem.W.Frag} : MtOk K rSplitT mSplit := by
  intro G S H w x d vs ds k Q hr rx rxs kl h
  unfold mSplit at h
  split at h
  · cases rx
    obtain ⟨v, rfl, r⟩ := one_rep rxs
    cases r
    exact ⟨_, _, rfl, rfl, h.1, h.2.1, kl.newL hr (rep_strs _) h.2.2⟩
  · exact h.elim
theorem ok_splitC {K : PySem.W.Frag} : MtOk K rSplitT mSplitC := by
  intro G S H w x d vs ds k Q hr rx rxs kl h
  unfold mSplitC at h
  split at h
  · cases rx
    obtain ⟨v, rfl, r⟩ := one_rep rxs
    cases r
    exact ⟨_, _, rfl, rfl, h.1, h.2.1, kl.newCL hr (rep_strs _) h.2.2⟩
  · exact h.elim
/-! xs.count(y): flat things -/
theorem countP_eqU {x : V} : ∀ {xs : List V} {us : List Value}, Vals xs us → xs.all flatV = true → us.countP (eqU x) = xs.countP fun y => eqV y x
  | _, _, .nil, _ => rfl
  | _, _, .cons r t, h => by
    rw [List.all_cons, Bool.and_eq_true] at h
    rw [List.countP_cons, List.countP_cons, countP_eqU t h.2, eqU_of r h.1]
def rCntV (K : PySem.W.Frag) : V → List V → Hp → VK → Prop := fun x xs H Q => ∃ (p : Addr) (ys : List V) (y : V), x = .ref p ∧ xs = [y] ∧ flatV y = true ∧ ys.all flatV = true ∧ SqL K H p ys ∧ Q (.int ((ys.countP fun z => eqV z y : Nat) : Int)) H
theorem mt_countV {X : Cx} : MtR X "list.count" (rCntV X.K) := by
  intro pins s σ H x xs v us Q I rx rxs h
  obtain ⟨p, ys, y, rfl, rfl, fy, fys, hs, q⟩ := h
  cases rx
  obtain ⟨u, rfl, ru⟩ := rxs.one
  obtain ⟨its, rv, ⟨⟨cls, dd, data, sl⟩, n, ho, hc, hdn, hd⟩, hlen⟩ := I.list hs
  simp only at hc hd
  subst hc hd
  refine call_meets PySem.F.slot_list_count ⟨_, ho, rfl⟩ PySem.F.entry_list_count (PySem.F.args_list_count_2 _ _)
    (SeqAt.list_countAt p its.toArray n dd sl u (eqU y)) ⟨ho, fun z hz => mem_eqAt ru fy rv fys z (by simpa using hz), ?_⟩
  have ec : its.toArray.toList.countP (eqU y) = ys.countP fun z => eqV z y := by
    rw [List.toList_toArray]
    exact countP_eqU rv fys
  refine ⟨.int ((ys.countP fun z => eqV z y : Nat) : Int), H, I.tok _, ⟨s.toks, ?_⟩, q⟩
  show Value.int ((its.toArray.toList.countP (eqU y) : Nat) : Int) s.toks = Value.int ((ys.countP fun z => eqV z y : Nat) : Int) s.toks
  rw [ec]
def allStr : List D → Option (List Str)
  | [] => some []
  | .str b :: r => match allStr r with
    | some bs => some (b :: bs)
    | none => none
  | _ => none
theorem rep_strs' {K : PySem.W.Frag} {G : Gh} {S : Hp} : ∀ {ds : List D} {vs : List V} {bs : List Str}, RepAll K G S vs ds → allStr ds = some bs → vs = bs.map V.str
  | [], _, _, r, e => by
    cases r
    cases e
    rfl
  | d :: ds, _, _, r, e => by
    cases r with
    | cons h r =>
      cases d with
      | str b =>
        cases h
        unfold allStr at e
        cases q : allStr ds with
        | none =>
          rw [q] at e
          cases e
        | some bs =>
          rw [q] at e
          cases e
          rw [rep_strs' r q]
          rfl
      | _ => simp [allStr] at e
theorem allStr_map (l : List Str) : allStr (l.map D.str) = some l := by
  induction l with
  | nil => rfl
  | cons x r ih =>
    rw [List.map_cons]
    unfold allStr
    rw [ih]
def mCount : FM := fun x ds w k => match x, ds with
  | .lst xs, [.str s] => ∃ ss, allStr xs = some ss ∧ ∀ c : Nat, c ≤ xs.length → k (.int (c : Nat)) w
  | _, _ => False
theorem ok_count {K : PySem.W.Frag} : MtOk K (rCntV K) mCount := by
  intro G S H w x d vs ds k Q hr rx rxs kl h
  unfold mCount at h
  split at h
  · obtain ⟨ss, h1, h2⟩ := h
    obtain ⟨v, rfl, r⟩ := one_rep rxs
    cases r
    cases rx with
    | lst e r2 =>
      have e3 := rep_strs' r2 h1
      refine ⟨_, _, _, rfl, rfl, rfl, ?_, .inl (.inl (hr.same _ _ e)), kl.here hr (.int _) (h2 _ ?_)⟩
      · rw [e3]
        simp [flatV]
      · rw [← r2.length]
        exact List.countP_le_length
  · exact h.elim
end DL

namespace DL
open PySem PySem.Spec PyProof.Rows L2 RZ

/-! ### a comprehension whose list may change -/
def gLcC (gi : GI) (gt : GG) (tt : GT) (ge : GE) (vs : List Nat) : GE := fun ρ w kx k => gLc gi gt tt ge vs ρ w kx fun d w1 => ∃ acc, d = .lst acc ∧ k (.rf w1.M.length) ⟨w1.M ++ [.lst acc], w1.n⟩
section
variable {X : Cx} {E : XK} {pos : Pos}
theorem lc_goC {K : PySem.W.Frag} {gi : GI} {gt : GG} {tt : GT} {ge : GE} {vs us : List Nat} (hu : ∀ i ∈ us, i ∈ vs) : ∀ σ H Q, upE K E (gLcC gi gt tt ge vs) σ H Q → tLc (upI K E gi) (upG K us gt) (upT K E0 tt) (upE K E0 ge) vs σ H Q := by
  rintro σ H Q ⟨G, S, ρ, w, kx, k, hr, sr, xl, kl, h⟩
  refine ⟨G, S, ρ, w, kx, _, hr, sr, xl, fun G1 S1 H1 w1 items Ok J x1 hr1 it h1 Dl hD => ?_, h⟩
  obtain ⟨P, h1, hP⟩ := h1
  have hfr := fr_ne hr1 hD
  have sD := hr1.freshS hD
  -- the state between turns: the list so far stands apart
  refine ⟨fun i m H' => m = items.length - i ∧ i ≤ items.length ∧ ∃ (G' : Gh) (S' : Hp) (w' : Wd) (xs : List V) (acc : List D), Ext G1 S1 ⟨G'.al, G'.st, G1.fr⟩ S' ∧ (∀ q ∈ G1.fr, q ∈ G'.fr) ∧ (Dl, HO.lst xs) ∈ G'.fr ∧ HR K G' S' w' H' ∧ RepAll K G' S' xs acc ∧ P (items.drop i) acc w', ⟨items.length, ?_⟩, ?_⟩
  · obtain ⟨hr2, x2⟩ := hr1.push (o := .lst []) hD
    refine ⟨by simp, Nat.zero_le _, ⟨G1.al, G1.st, (Dl, .lst []) :: G1.fr⟩, S1, w1, [], [], ⟨⟨[], by simp⟩, fun _ z => z, fun _ z => z, Same.refl _⟩, fun q hq => List.mem_cons_of_mem _ hq, List.mem_cons_self, hr2, .nil, h1⟩
  rintro i m H' ⟨rfl, hi, G2, S2, w2, xs, acc, x2, f2, fD, hr2, ra, h2⟩
  have x12 : Ext G1 S1 G2 S2 := ⟨x2.al, x2.st, f2, x2.same⟩
  by_cases hlt : i < items.length
  · have e : items.drop i = items[i] :: items.drop (i + 1) := List.drop_eq_getElem_cons hlt
    rw [e] at h2
    obtain ⟨ok, h2⟩ := hP.turn _ _ _ _ h2
    obtain ⟨i1, _⟩ := it i G2 S2 w2 H' x12 hr2 ok
    obtain ⟨go, yld⟩ := i1 items[i] (List.getElem?_eq_getElem hlt)
    refine .inr ⟨go, fun H3 => ∃ (G' : Gh) (S' : Hp) (w' : Wd) (xs : List V) (acc : List D), Ext G1 S1 ⟨G'.al, G'.st, G1.fr⟩ S' ∧ (∀ q ∈ G1.fr, q ∈ G'.fr) ∧ (Dl, HO.lst xs) ∈ G'.fr ∧ HR K G' S' w' H3 ∧ RepAll K G' S' xs acc ∧ P (items.drop (i + 1)) acc w', fun H3 h3 => ⟨items.length - (i + 1), by omega, rfl, hlt, h3⟩, fun x H3 y => ?_⟩
    obtain ⟨G3, S3, x3, hr3, rp⟩ := yld x H3 y
    have x13 := x12.trans x3
    refine ⟨G3, S3, wipeR ρ vs, w2, items[i], _, hr3, (wipe_sr (sr.mono x1) vs).mono x13, rp, fun G4 S4 H4 w4 ρ4 σ4 x4 hr4 sr4 off4 h4 => ⟨wipe_off hu off4, ?_⟩, h2⟩
    have x24 : Ext G2 S2 G4 S4 := x3.trans x4
    refine ⟨G4, S4, ρ4, w4, noX, _, hr4, sr4, xl_no, fun G5 S5 H5 w5 b x5 hr5 h5 => ?_, h4⟩
    have x25 := x24.trans x5
    have x15 := x12.trans x25
    cases b with
    | false => exact iteF ⟨G5, S5, w5, xs, acc, ⟨x15.al, x15.st, fun _ z => z, x15.same⟩, x15.fr, x25.fr _ fD, hr5, ra.mono x25, by simpa using h5⟩
    | true =>
      refine iteT ⟨G5, S5, ρ4, w5, noX, _, hr5, sr4.mono x5, xl_no, fun G6 S6 H6 w6 d v x6 hr6 rp6 h6 => ?_, by simpa using h5⟩
      have x26 := x25.trans x6
      have x16 := x12.trans x26
      have ra6 := ra.mono x26
      have fD6 := x26.fr _ fD
      refine ⟨xs, (hr6.fr _ fD6).2.2, by rw [ra.length]; exact h6.1, ?_⟩
      have hp := hr6.poke (o' := .lst (xs ++ [v])) (fr := G1.fr) fD6 (fun q hq => ⟨x16.fr q hq, hfr q hq⟩)
      refine ⟨⟨G6.al, G6.st, (Dl, .lst (xs ++ [v])) :: G1.fr⟩, S6, w6, xs ++ [v], acc ++ [d], ⟨x16.al, x16.st, fun _ z => z, x16.same⟩, fun q hq => List.mem_cons_of_mem _ hq, List.mem_cons_self, hp, ?_, h6.2⟩
      exact (RepAll.refr ra6).append (.cons (Rep.refr rp6) .nil)
  · have e : i = items.length := by omega
    subst e
    rw [List.drop_length] at h2
    obtain ⟨ok, h2⟩ := hP.done _ _ h2
    obtain ⟨_, i2⟩ := it items.length G2 S2 w2 H' x12 hr2 ok
    refine .inl ⟨i2 rfl, ?_⟩
    obtain ⟨z1, z2, z3⟩ := hr2.fr _ fD
    obtain ⟨acc0, ee, hk⟩ := h2
    cases ee
    have x3 : Ext G1 S1 ⟨G2.al ++ [Dl], G2.st, G1.fr⟩ S2 := ⟨(by obtain ⟨r, e⟩ := x2.al; exact ⟨r ++ [Dl], by show G2.al ++ [Dl] = _; rw [show G2.al = G1.al ++ r from e, List.append_assoc]⟩), x2.st, fun _ z => z, x2.same⟩
    have xc : Ext ⟨G2.al, G2.st, G1.fr⟩ S2 ⟨G2.al ++ [Dl], G2.st, G1.fr⟩ S2 := ⟨⟨[Dl], rfl⟩, fun _ z => z, fun _ z => z, Same.refl _⟩
    refine kl ⟨G2.al ++ [Dl], G2.st, G1.fr⟩ S2 H' ⟨w2.M ++ [.lst acc], w2.n⟩ _ _ (x1.trans x3) ⟨hr2.same, by simp [hr2.len], ?_, fun j b c' f1 f2 => ?_, ⟨hr2.st.1, fun b c' e => ?_⟩, fun q hq => ?_⟩ (.rf (show (G2.al ++ [Dl])[w2.M.length]? = some Dl by rw [List.getElem?_append_right (by rw [hr2.len]; exact Nat.le_refl _), hr2.len, Nat.sub_self]; rfl)) hk
    · show (G2.al ++ [Dl]).Nodup
      rw [List.nodup_append]
      refine ⟨hr2.nod, by simp, fun a ha b hb z => ?_⟩
      rw [List.mem_singleton] at hb
      exact z2 (by rw [← hb, ← z]; exact ha)
    · have f1 : (G2.al ++ [Dl])[j]? = some b := f1
      have f2 : (w2.M ++ [Cell.lst acc])[j]? = some c' := f2
      by_cases hj : j < G2.al.length
      · rw [List.getElem?_append_left hj] at f1
        rw [List.getElem?_append_left (by rw [← hr2.len]; exact hj)] at f2
        have q := hr2.cell j b c' f1 f2
        cases c' with
        | dead => exact q
        | lst ds =>
          obtain ⟨n0, ys, e3, r⟩ := q
          exact ⟨n0, ys, e3, (RepAll.refr r).mono xc⟩
        | dk ds =>
          obtain ⟨n0, ys, e3, r⟩ := q
          exact ⟨n0, ys, e3, Paired.mapP r fun p q z => ⟨z.1, (Rep.refr z.2).mono xc⟩⟩
        | ins C ds =>
          obtain ⟨n0, dx, ys, e3, r⟩ := q
          exact ⟨n0, dx, ys, e3, Paired.mapP r fun p q z => ⟨z.1, (Rep.refr z.2).mono xc⟩⟩
      · have hi2 : G2.al.length ≤ j := Nat.le_of_not_lt hj
        rw [List.getElem?_append_right hi2] at f1
        rw [List.getElem?_append_right (by rw [← hr2.len]; exact hi2), ← hr2.len] at f2
        have l := (List.getElem?_eq_some_iff.mp f1).1
        have l0 : j - G2.al.length = 0 := by
          rw [List.length_singleton] at l
          omega
        rw [l0] at f1 f2
        have e1 : Dl = b := by simpa using f1
        have e2 : Cell.lst acc = c' := by simpa using f2
        subst e1
        subst e2
        exact ⟨z1, xs, z3, (RepAll.refr ra).mono xc⟩
    · obtain ⟨y1, y2, y3, y4, y5, y6, y7⟩ := hr2.st.2 b c' e
      obtain ⟨n1, n2⟩ := y6 _ fD
      refine ⟨y1, y2, y3, fun hm => ?_, fun hm => ?_, fun q hq => y6 q (f2 q hq), y7⟩
      · rcases List.mem_append.mp hm with hm | hm
        · exact y4 hm
        · exact n1 (List.mem_singleton.mp hm).symm
      · rcases List.mem_append.mp hm with hm | hm
        · exact y5 hm
        · exact n2 (List.mem_singleton.mp hm).symm
    · obtain ⟨y1, y2, y3⟩ := hr2.fr q (f2 q hq)
      refine ⟨y1, fun hm => ?_, y3⟩
      rcases List.mem_append.mp hm with hm | hm
      · exact y2 hm
      · exact hfr q hq (List.mem_singleton.mp hm)
theorem de_lcC {elt tg iter : Expr} {ifs : List Expr} {scope : Scope} {own : List (Str × Nat)} {us : List Nat} {gi : GI} {gt : GG} {tt : GT} {ge : GE} (hc : X.calm = true) (hN : X.N.Nodup) (hi : DI X E tg iter gi) (ok : BlkOk X.N X.env.scope scope own) (hu : ∀ i ∈ us, i ∈ own.map (·.2))
    (hg : ∀ (s : Shared) (H : Hp) (C : Addr) (cl : List (Str × Addr)) (fp : List Addr), DG (X.blk s H scope (compEnvC scope cl C X.env) fp) us tg gt) (ht : ∀ (s : Shared) (H : Hp) (C : Addr) (cl : List (Str × Addr)) (fp : List Addr), DTs (X.blk s H scope (compEnvC scope cl C X.env) fp) E0 ifs tt)
    (he : ∀ (s : Shared) (H : Hp) (C : Addr) (cl : List (Str × Addr)) (fp : List Addr), DE (X.blk s H scope (compEnvC scope cl C X.env) fp) E0 elt ge) (hs : ∀ x, foldedSetIterable iter X.env x = pure x := by intro _; rfl) :
    DE X E (.ListComp elt [⟨tg, iter, ifs, 0⟩] scope pos) (gLcC gi gt tt ge (own.map (·.2))) := pe_imp (pe_lc (g := upG X.K us gt) (tt := upT X.K E0 tt) (te := upE X.K E0 ge) hc hN hi ok hg ht he hs) (lc_goC hu)
theorem ds_setLcC {i : Nat} {y : Str} {py spos : Pos} {elt tg iter : Expr} {ifs : List Expr} {scope : Scope} {own : List (Str × Nat)} {us : List Nat} {gi : GI} {gt : GG} {tt : GT} {ge : GE} (hc : X.calm = true) (hN : X.N.Nodup) (hy : X.N[i]? = some y) (hyl : X.env.scope.names.lookup y = some .local)
    (hsw : swapsWith (.ListComp elt [⟨tg, iter, ifs, 0⟩] scope pos) (some (.Name y py)) spos.line X.env = pure true) (hi : DI X E tg iter gi) (ok : BlkOk X.N X.env.scope scope own) (hu : ∀ i ∈ us, i ∈ own.map (·.2))
    (hg : ∀ (s : Shared) (H : Hp) (C : Addr) (cl : List (Str × Addr)) (fp : List Addr), DG (X.blk s H scope (compEnvC scope cl C X.env) fp) us tg gt) (ht : ∀ (s : Shared) (H : Hp) (C : Addr) (cl : List (Str × Addr)) (fp : List Addr), DTs (X.blk s H scope (compEnvC scope cl C X.env) fp) E0 ifs tt)
    (he : ∀ (s : Shared) (H : Hp) (C : Addr) (cl : List (Str × Addr)) (fp : List Addr), DE (X.blk s H scope (compEnvC scope cl C X.env) fp) E0 elt ge) (hs : ∀ x, foldedSetIterable iter X.env x = pure x := by intro _; rfl) :
    DS X E (.Assign [.Name y py] (.ListComp elt [⟨tg, iter, ifs, 0⟩] scope pos) spos) (gSet i (gLcC gi gt tt ge (own.map (·.2)))) := ps_imp (ps_setLc (g := upG X.K us gt) (tt := upT X.K E0 tt) (te := upE X.K E0 ge) hc hN hy hyl hsw hi ok hg ht he hs) (by
  intro D σ H h
  obtain ⟨G, S, ρ, w, F, hr, sr, el, h⟩ := h
  exact lc_goC hu σ H _ ⟨G, S, ρ, w, F.ex, fun d w1 => F.nx (ρ.set i (some d)) w1, hr, sr, el.ex, fun G1 S1 H1 w1 d v x1 hr1 rp h1 => el.nx _ _ _ _ _ _ x1 hr1 ((sr.mono x1).set rp i) h1, h⟩)
end
/-! ### stores -/
def ggSub (go gi : GE) : GG := fun d ρ w k => go ρ w noX fun x w1 => gi ρ w1 noX fun y w2 => match x, y with
  | .rf i, .int j => cellK i w2 fun xs => 0 ≤ j ∧ j < xs.length ∧ k ρ ⟨w2.M.set i (.lst (xs.set j.toNat d)), w2.n⟩
  | _, _ => False
section
variable {X : Cx} {E : XK} {o i : Expr} {go gi : GE} {pos : Pos}
theorem dg_sub (ho : DE X E o go) (hi : DE X E i gi)
    (ha : ∀ v, assign (.Subscript o i pos) X.env v = (do
      let ov ← holding [v] (eval o X.env)
      let iv ← holding [v, ov] (eval i X.env)
      standAt pos
      holding [v, ov, iv] (setItem ov iv v)
      release [v, ov, iv] []) := by intro _; rfl) : DG X [] (.Subscript o i pos) (ggSub go gi) := pg_imp (pg_sub ho hi set_list ha) (by
  rintro v σ H Q ⟨G, S, ρ, w, d, k, hr, sr, rp, nl, h⟩
  refine ⟨G, S, ρ, w, noX, _, hr, sr, xl_no, fun G1 S1 H1 w1 dx vx x1 hr1 rx h1 => ⟨G1, S1, ρ, w1, noX, _, hr1, sr.mono x1, xl_no, fun G2 S2 H2 w2 dy vy x2 hr2 ry h2 => ?_, h1⟩, h⟩
  split at h2
  · cases ry
    have rx2 := rx.mono x2
    cases rx2 with
    | rf e =>
      obtain ⟨es, xs, e2, g1, g2, g3, g4, g5, g6⟩ := cell_get hr2 e h2
      have x12 := x1.trans x2
      rename_i i1 j1 _
      have ej : ∀ n : Nat, n = es.length → ∀ j : Int, 0 ≤ j → j < n → ixN n j = some j.toNat := fun n _ j h0 h1 => by
        unfold ixN
        rw [if_pos h0, if_pos h1]
      exact ⟨_, xs, _, _, rfl, rfl, g2, ej xs.length g3.length _ g4 (by rw [g3.length]; exact g5), nl _ _ _ _ _ _ x12 (cell_put hr2 e e2 g1 (g3.set (rp.mono x12) _)) (sr.mono x12) ⟨rfl, fun _ _ => rfl⟩ g6⟩
  · exact h2.elim)
end
/-! ### slices of lists and tuples, the whole too -/
def slA : D → Option Int → Option Int → Wd → KD → Prop := fun x lo hi w k => match x with
  | .lst ds => k (.lst (cutD ds lo hi)) w
  | .tup ds => k (.tup (cutD ds lo hi)) w
  | .rf i => cellK i w fun ds => k (.lst (cutD ds lo hi)) w
  | _ => False
theorem cut_whole {α : Type} {xs : List α} {lo hi : Option Int} (h : HT.sIx xs.length 0 lo = 0 ∧ HT.sIx xs.length xs.length hi = xs.length) : cutD xs lo hi = xs := by
  unfold cutD
  rw [h.1, h.2, List.drop_zero, Nat.sub_zero, List.take_length]
def rSlAA (K : PySem.W.Frag) : V → Option Int → Option Int → Hp → VK → Prop := fun x lo hi H Q => rSlL K x lo hi H Q ∨ rSlA K x lo hi H Q
theorem ok_slA {K : PySem.W.Frag} : SlOk K (rSlAA K) slA := by
  intro G S H w x d lo hi k Q hr rx kl h
  cases rx with
  | lst e r => exact .inl ⟨_, _, rfl, .inl (.inl (hr.same _ _ e)), kl.newL hr (rep_cut r) h⟩
  | tup e r =>
    refine .inr ⟨_, _, rfl, .inl (.inl (hr.same _ _ e)), fun hw => ?_, fun _ => kl.newT hr (rep_cut r) h⟩
    rw [r.length] at hw
    have h : k (.tup (cutD _ lo hi)) w := h
    rw [cut_whole hw] at h
    exact kl.here hr (.tup e r) h
  | rf e =>
    obtain ⟨es, xs, e2, h1, h2, h3, h4⟩ := cell_get hr e h
    exact .inl ⟨_, _, rfl, .inl (.inl h2), kl.newL hr (rep_cut h3) h4⟩
  | _ => exact h.elim
section
variable {X : Cx} {E : XK} {a : Expr} {ga : GE} {gl gh : GO} {pos p2 : Pos} {lo hi : Option Expr}
theorem de_slA (he : DE X E a ga) (hl : DO X E lo gl) (hu : DO X E hi gh) : DE X E (.Subscript a (.Slice lo hi none p2) pos) (gSl slA ga gl gh) := de_slice (sl_list.or sl_tupA) ok_slA he hl hu
end
/-! ### t + u, of any tuples; lists that may change of + and *; is of truths -/
def addTD : F2 := fun x y w k => match x, y with
  | .tup xs, .tup ys => xs.length + ys.length ≤ sizeLine ∧ k (.tup (xs ++ ys)) w
  | _, _ => False
theorem ok_addTD {K : PySem.W.Frag} : BinOk K (rCatA K) addTD := by
  intro G S H w x y d e k Q hr rx ry kl h
  unfold addTD at h
  split at h
  · cases rx with
    | tup e1 r1 => cases ry with
      | tup e2 r2 =>
        refine ⟨_, _, _, _, rfl, rfl, .inl (.inl (hr.same _ _ e1)), .inl (.inl (hr.same _ _ e2)), by rw [r1.length, r2.length]; exact h.1, fun z => ?_, fun _ z => ?_, fun _ _ => kl.newT hr (r1.append r2) h.2⟩
        · subst z
          cases r1
          exact kl.here hr (.tup e2 r2) h.2
        · subst z
          cases r2
          have h2 := h.2
          rw [List.append_nil] at h2
          exact kl.here hr (.tup e1 r1) h2
  · exact h.elim
def addCD : F2 := fun x y w k => match x, y with
  | .lst xs, .lst ys => xs.length + ys.length ≤ sizeLine ∧ k (.rf w.M.length) ⟨w.M ++ [.lst (xs ++ ys)], w.n⟩
  | .rf i, .lst ys => cellK i w fun xs => xs.length + ys.length ≤ sizeLine ∧ k (.rf w.M.length) ⟨w.M ++ [.lst (xs ++ ys)], w.n⟩
  | _, _ => False
theorem ok_addCD {K : PySem.W.Frag} : BinOk K rCat addCD := by
  intro G S H w x y d e k Q hr rx ry kl h
  unfold addCD at h
  split at h
  · cases rx with
    | lst e1 r1 => cases ry with
      | lst e2 r2 => exact ⟨_, _, _, _, rfl, rfl, hr.same _ _ e1, hr.same _ _ e2, by rw [r1.length, r2.length]; exact h.1, kl.newCL hr (r1.append r2) h.2⟩
  · cases rx with
    | rf e1 => cases ry with
      | lst e2 r2 =>
        obtain ⟨es, xs, _, h1, h2, h3, h4, h5⟩ := cell_get hr e1 h
        exact ⟨_, _, _, _, rfl, rfl, h2, hr.same _ _ e2, by rw [h3.length, r2.length]; exact h4, kl.newCL hr (h3.append r2) h5⟩
  · exact h.elim
def mulCD : F2 := fun x y w k => match x, y with
  | .lst xs, .int j => -(2 ^ 63) ≤ j ∧ j < 2 ^ 63 ∧ xs.length * j.toNat ≤ sizeLine ∧ k (.rf w.M.length) ⟨w.M ++ [.lst (List.replicate j.toNat xs).flatten], w.n⟩
  | _, _ => False
theorem ok_mulCD {K : PySem.W.Frag} : BinOk K rRep mulCD := by
  intro G S H w x y d e k Q hr rx ry kl h
  unfold mulCD at h
  split at h
  · cases ry
    cases rx with
    | lst e1 r1 => exact ⟨_, _, _, rfl, rfl, hr.same _ _ e1, h.1, h.2.1, by rw [r1.length]; exact h.2.2.1, kl.newCL hr (r1.rep _) h.2.2.2⟩
  · exact h.elim
def isbD : F2 := fun x y w k => match x, y with
  | .bl a, .bl b => k (.bl (decide (a = b))) w
  | _, _ => False
def isnotbD : F2 := fun x y w k => match x, y with
  | .bl a, .bl b => k (.bl (!decide (a = b))) w
  | _, _ => False
theorem ok_isbD {K : PySem.W.Frag} : BinOk K rIsB isbD := by
  intro G S H w x y d e k Q hr rx ry kl h
  unfold isbD at h
  split at h
  · cases rx
    cases ry
    exact ⟨_, _, rfl, rfl, kl.here hr (.bl _) h⟩
  · exact h.elim
theorem ok_isnotbD {K : PySem.W.Frag} : BinOk K rNotB isnotbD := by
  intro G S H w x y d e k Q hr rx ry kl h
  unfold isnotbD at h
  split at h
  · cases rx
    cases ry
    exact ⟨_, _, rfl, rfl, kl.here hr (.bl _) h⟩
  · exact h.elim
section
variable {X : Cx} {E : XK} {a b : Expr} {ga gb : GE} {pos : Pos}
theorem de_addt (ha : DE X E a ga) (hb : DE X E b gb) : DE X E (.BinOp a .Add b pos) (gBin addTD ga gb) := de_bin op_catA ok_addTD ha hb
theorem de_addC (ha : DE X E a ga) (hb : DE X E b gb) : DE X E (.BinOp a .Add b pos) (gBin addCD ga gb) := de_bin op_cat ok_addCD ha hb
theorem de_mulC (ha : DE X E a ga) (hb : DE X E b gb) : DE X E (.BinOp a .Mult b pos) (gBin mulCD ga gb) := de_bin op_rep ok_mulCD ha hb
theorem de_isb (ha : DE X E a ga) (hb : DE X E b gb) : DE X E (.Compare a [.Is] [b] pos) (gBin isbD ga gb) := de_cmp op_isBl ok_isbD ha hb (nomark _)
theorem de_isnotb (ha : DE X E a ga) (hb : DE X E b gb) : DE X E (.Compare a [.IsNot] [b] pos) (gBin isnotbD ga gb) := de_cmp op_notBl ok_isnotbD ha hb (nomark _)
theorem dt_isb (ha : DE X E a ga) (hb : DE X E b gb) : DT X E (.Compare a [.Is] [b] pos) (gB (gBin isbD ga gb)) := dt_cmp op_isBl ok_isbD ha hb (nomark _)
theorem dt_isnotb (ha : DE X E a ga) (hb : DE X E b gb) : DT X E (.Compare a [.IsNot] [b] pos) (gB (gBin isnotbD ga gb)) := dt_cmp op_notBl ok_isnotbD ha hb (nomark _)
end
/-! ### enumerate -/
def enumD : Nat → List D → List D
  | _, [] => []
  | i, x :: xs => .tup [.int (i : Nat), x] :: enumD (i + 1) xs
theorem enum_len : ∀ (xs : List D) (i : Nat), (enumD i xs).length = xs.length
  | [], _ => rfl
  | x :: xs, i => congrArg (· + 1) (enum_len xs (i + 1))
theorem enum_get : ∀ {xs : List D} {n i : Nat} {d : D}, (enumD n xs)[i]? = some d → ∃ x, xs[i]? = some x ∧ d = .tup [.int ((n + i : Nat) : Int), x]
  | [], _, _, _, h => by simp [enumD] at h
  | x :: xs, n, 0, d, h => by
    unfold enumD at h
    rw [List.getElem?_cons_zero] at h
    exact ⟨x, rfl, (Option.some.inj h).symm⟩
  | x :: xs, n, i + 1, d, h => by
    unfold enumD at h
    rw [List.getElem?_cons_succ] at h
    obtain ⟨y, h1, h2⟩ := enum_get h
    refine ⟨y, by rw [List.getElem?_cons_succ]; exact h1, ?_⟩
    rw [h2, show n + 1 + i = n + (i + 1) by omega]
def giEnum (ga : GA) : GI := fun ρ w kx k => ga ρ w kx fun ds w1 => match ds with
  | [.lst xs] => k (enumD 0 xs) (fun _ => True) w1
  | _ => False
theorem iter_enum {K : PySem.W.Frag} {G : Gh} {S : Hp} {a : Addr} {xs : List V} {ds : List D} (e1 : S a = some (.lst xs)) (r1 : RepAll K G S xs ds) : IterOk K (Ite K a) (enumD 0 ds) (fun _ => True) G S := by
  intro i G1 S1 w1 H1 x1 hr1 _
  have q1 : SqL K H1 a xs := .inl (.inl (hr1.same _ _ (x1.same _ _ e1)))
  refine ⟨fun d hd => ?_, fun hl => ⟨xs, q1, by rw [r1.length, ← enum_len ds 0, hl]; exact Nat.le_refl _⟩⟩
  obtain ⟨d1, g1, rfl⟩ := enum_get hd
  obtain ⟨v1, h1, h2⟩ := r1.get g1
  refine ⟨⟨xs, v1, q1, h1⟩, fun x H2 y => ?_⟩
  obtain ⟨T, u1, rfl, hT, rfl, y1⟩ := y
  have z1 := y1 xs q1
  rw [h1] at z1
  cases z1
  rw [Nat.zero_add]
  exact zip_new hr1 hT (.int _) (h2.mono x1)
section
variable {X : Cx} {E : XK}
theorem di_enum {e : Expr} {ga : GA} {p pos tpos : Pos} {elts : List Expr} {kk : Nat} (B : Blt X.mg) (hg : Gl X "enumerate") (ha : DA X E [e] ga) (hs : starEach [e] X.env = [(false, eval e X.env)] := by rfl) :
    DI X E (.Tuple elts kk tpos) (.Call (.Name "enumerate" p) [e] [] pos) (giEnum ga) := pi_imp (pi_enum hg B.enum_ ha hs) (by
  rintro σ H R ⟨G, S, ρ, w, kx, k, hr, sr, xl, kl, h⟩
  refine ⟨G, S, ρ, w, kx, _, hr, sr, xl, fun G1 S1 H1 w1 ds vs x1 hr1 rp h1 => ?_, h⟩
  split at h1
  · obtain ⟨v, rfl, r1⟩ := one_rep rp
    cases r1 with
    | lst e1 q1 => exact ⟨_, _, rfl, .inl (.inl (hr1.same _ _ e1)), kl _ _ _ _ _ _ _ x1 hr1 (iter_enum e1 q1) h1⟩
  · exact h1.elim)
end
/-! ### behind a def its own cells are forgotten -/
mutual
def low (n : Nat) : D → Bool
  | .rf i => decide (i < n)
  | .lst xs => lows n xs
  | .tup xs => lows n xs
  | _ => true
def lows (n : Nat) : List D → Bool
  | [] => true
  | x :: xs => low n x && lows n xs
end
section
variable {K : PySem.W.Frag} {G : Gh} {S H : Hp} {w : Wd}
mutual
theorem Rep.low : ∀ {v : V} {d : D}, Rep K G S v d → DL.low G.al.length d = true
  | _, _, .non => rfl
  | _, _, .bl _ => rfl
  | _, _, .int _ => rfl
  | _, _, .str _ => rfl
  | _, _, .lst _ r => RepAll.low r
  | _, _, .tup _ r => RepAll.low r
  | _, _, .rf h => decide_eq_true (List.getElem?_eq_some_iff.mp h).1
  | _, _, .st _ => rfl
  | _, _, .ob _ => rfl
  | _, _, .scr _ => rfl
theorem RepAll.low : ∀ {v : List V} {d : List D}, RepAll K G S v d → lows G.al.length d = true
  | _, _, .nil => rfl
  | _, _, .cons h r => by
    unfold lows
    rw [Rep.low h, RepAll.low r]
    rfl
end
variable {n : Nat}
mutual
theorem Rep.trunc : ∀ {v : V} {d : D}, Rep K G S v d → DL.low n d = true → Rep K ⟨G.al.take n, G.st, G.fr⟩ S v d
  | _, _, .non, _ => .non
  | _, _, .bl b, _ => .bl b
  | _, _, .int b, _ => .int b
  | _, _, .str b, _ => .str b
  | _, _, .lst e r, h => .lst e (RepAll.trunc r h)
  | _, _, .tup e r, h => .tup e (RepAll.trunc r h)
  | _, _, .rf (i := i) e, h => by
    have hi : i < n := of_decide_eq_true h
    refine .rf ?_
    show (G.al.take n)[i]? = _
    rw [List.getElem?_take, if_pos hi]
    exact e
  | _, _, .st h, _ => .st h
  | _, _, .ob h, _ => .ob h
  | _, _, .scr h, _ => .scr h
theorem RepAll.trunc : ∀ {v : List V} {d : List D}, RepAll K G S v d → lows n d = true → RepAll K ⟨G.al.take n, G.st, G.fr⟩ S v d
  | _, _, .nil, _ => .nil
  | _, _, .cons q r, h => by
    unfold lows at h
    rw [Bool.and_eq_true] at h
    exact .cons (Rep.trunc q h.1) (RepAll.trunc r h.2)
end
def lowC (n : Nat) : Cell → Prop
  | .dead => True
  | .lst xs => lows n xs = true
  | .dk kvs => ∀ p ∈ kvs, low n p.2 = true
  | .ins _ fs => ∀ p ∈ fs, low n p.2 = true
theorem fs_low {κ : Type} : ∀ {xs : List (κ × V)} {ys : List (κ × D)}, FsRep K G S xs ys → ∀ p ∈ ys, DL.low G.al.length p.2 = true
  | _, _, .nil, p, hp => nomatch hp
  | _, _, .cons h r, p, hp => by
    rcases List.mem_cons.mp hp with rfl | hp
    · exact h.2.low
    · exact fs_low r p hp
theorem fs_trunc {κ : Type} : ∀ {xs : List (κ × V)} {ys : List (κ × D)}, FsRep K G S xs ys → (∀ p ∈ ys, DL.low n p.2 = true) → FsRep K ⟨G.al.take n, G.st, G.fr⟩ S xs ys
  | _, _, .nil, _ => .nil
  | _, _, .cons h r, hp => .cons ⟨h.1, h.2.trunc (hp _ List.mem_cons_self)⟩ (fs_trunc r fun p q => hp p (List.mem_cons_of_mem _ q))
theorem CellOk.low {a : Addr} {c : Cell} (h : CellOk K G S H a c) : lowC G.al.length c := by
  cases c with
  | dead => trivial
  | lst ds => obtain ⟨_, _, _, r⟩ := h; exact r.low
  | dk ds => obtain ⟨_, _, _, r⟩ := h; exact fs_low r
  | ins C ds => obtain ⟨_, _, _, _, r⟩ := h; exact fs_low r
theorem CellOk.trunc {a : Addr} {c : Cell} (h : CellOk K G S H a c) (l : lowC n c) : CellOk K ⟨G.al.take n, G.st, G.fr⟩ S H a c := by
  cases c with
  | dead => exact h
  | lst ds => obtain ⟨h1, xs, h2, r⟩ := h; exact ⟨h1, xs, h2, r.trunc l⟩
  | dk ds => obtain ⟨h1, xs, h2, r⟩ := h; exact ⟨h1, xs, h2, fs_trunc r l⟩
  | ins C ds => obtain ⟨h1, dx, xs, h2, r⟩ := h; exact ⟨h1, dx, xs, h2, fs_trunc r l⟩
theorem HR.lowAll (h : HR K G S w H) : ∀ c ∈ w.M, lowC w.M.length c := fun c hc => by
  obtain ⟨i, hi⟩ := List.getElem?_of_mem hc
  have l := (List.getElem?_eq_some_iff.mp hi).1
  rw [← h.len] at l ⊢
  exact (h.cell i _ c (List.getElem?_eq_getElem l) hi).low
theorem HR.trunc {M0 r : List Cell} (h : HR K G S w H) (e : w.M = M0 ++ r) (hl : ∀ c ∈ M0, lowC M0.length c) : HR K ⟨G.al.take M0.length, G.st, G.fr⟩ S ⟨M0, w.n⟩ H := by
  have ln : G.al.length = M0.length + r.length := by rw [h.len, e, List.length_append]
  refine ⟨h.same, ?_, h.nod.sublist (List.take_sublist _ _), fun i a c e1 e2 => ?_, ⟨h.st.1, fun a c z => ?_⟩, fun p hp => ?_⟩
  · show (G.al.take M0.length).length = M0.length
    rw [List.length_take, ln]
    omega
  · have e1 : (G.al.take M0.length)[i]? = some a := e1
    have e2 : M0[i]? = some c := e2
    have li := (List.getElem?_eq_some_iff.mp e2).1
    rw [List.getElem?_take, if_pos li] at e1
    have q := h.cell i a c e1 (by rw [e, List.getElem?_append_left li]; exact e2)
    exact q.trunc (hl c (List.mem_of_getElem? e2))
  · obtain ⟨z1, z2, z3, z4, z5, z6⟩ := h.st.2 a c z
    exact ⟨z1, z2, z3, fun q => z4 (List.mem_of_mem_take q), fun q => z5 (List.mem_of_mem_take q), z6⟩
  · obtain ⟨y1, y2, y3⟩ := h.fr p hp
    exact ⟨y1, fun q => y2 (List.mem_of_mem_take q), y3⟩
end
/-- the def's own cells are gone: what it tells names none of them -/
def gTr (f : GF) : GF := fun ds w kx k => f ds w kx fun d w1 => (∃ r, w1.M = w.M ++ r) ∧ low w.M.length d = true ∧ k d ⟨w.M, w1.n⟩
theorem tr_up {n : Nat} {K : PySem.W.Frag} {f : GF} : ∀ vs H Q E, upF n K (gTr f) vs H Q E → upF n K f vs H Q E := by
  rintro vs H Q E ⟨G, S, ds, w, kx, k, h1, h2, h3, h4, h5, h6⟩
  refine ⟨G, S, ds, w, kx, _, h1, h2, h3, h4, fun G' S' H' w' d v x1 hr1 rp hk => ?_, h6⟩
  obtain ⟨⟨r, e⟩, lo, hk⟩ := hk
  refine h5 ⟨G'.al.take w.M.length, G'.st, G'.fr⟩ S' H' ⟨w.M, w'.n⟩ _ _ ⟨⟨[], ?_⟩, x1.st, x1.fr, x1.same⟩ (hr1.trunc e h2.lowAll) (rp.trunc lo) hk
  obtain ⟨r2, e2⟩ := x1.al
  show G'.al.take w.M.length = G.al ++ []
  rw [e2, ← h2.len, List.take_left, List.append_nil]
theorem FnAt.trunc {P : Program} {w : World} {K : PySem.W.Frag} {mg : Str → Option Value} {base : Heap} {CX : CXT} {k : Nat} {x : Str} {n : Nat} {g : GF} (h : FnAt P w K mg base CX k x n g) : FnAt P w K mg base CX k x n (gTr g) := by
  obtain ⟨f, fd, ps, h1, h2⟩ := h.ex
  exact ⟨f, fd, ps, h1.imp tr_up, h2⟩
/-! ### equations -/
section
variable {w : Wd} {k : KD} {i j : Int} {M : List Cell} {n : Option Nat} {xs ys : List D} {d : D} {c c' : Cell}
theorem isTy_l {T : String} : isTy T (.lst xs) w = (T = "list") := rfl
theorem isTy_s {T : String} {s : Str} : isTy T (.str s) w = (T = "str") := rfl
theorem new_at : (M ++ [c])[M.length]? = some c := by simp
theorem new_set : (M ++ [c]).set M.length c' = M ++ [c'] := by
  rw [List.set_append_right (h := Nat.le_refl _), Nat.sub_self]
  rfl
theorem isTy_new {T : String} : isTy T (.rf M.length) ⟨M ++ [.lst xs], n⟩ = (T = "list") := by
  unfold isTy
  simp
theorem cellK_new {f : List D → Prop} : cellK M.length ⟨M ++ [.lst xs], n⟩ f = f xs := by
  unfold cellK
  simp
theorem append_new : mAppend (.rf M.length) [d] ⟨M ++ [.lst xs], n⟩ k = (xs.length < sizeLine ∧ k .non ⟨M ++ [.lst (xs ++ [d])], n⟩) := by
  unfold mAppend
  simp only [cellK_new, new_set]
theorem popAt_new : mPopAt (.rf M.length) [.int j] ⟨M ++ [.lst xs], n⟩ k = (0 ≤ j ∧ j < xs.length ∧ j < 2 ^ 63 ∧ someK xs[j.toNat]? fun d => k d ⟨M ++ [.lst (xs.eraseIdx j.toNat)], n⟩) := by
  unfold mPopAt
  simp only [cellK_new, new_set]
theorem frz_new {ge : GE} {ρ : Rho} {kx : KX} : gFrz ge ρ w kx k = ge ρ w kx fun x w1 => match x with
  | .rf i => match w1.M[i]? with
    | some (.lst ds) => k (.lst ds) ⟨w1.M.set i .dead, w1.n⟩
    | _ => False
  | _ => False := rfl
def frzK (d : D) (w : Wd) (k : KD) : Prop := match d with
  | .rf i => match w.M[i]? with
    | some (.lst ds) => k (.lst ds) ⟨w.M.set i .dead, w.n⟩
    | _ => False
  | _ => False
theorem gFrz_eq {ge : GE} {ρ : Rho} {kx : KX} : gFrz ge ρ w kx k = ge ρ w kx fun x w1 => frzK x w1 k := rfl
theorem frzK_new : frzK (.rf M.length) ⟨M ++ [.lst xs], n⟩ k = k (.lst xs) ⟨M ++ [.dead], n⟩ := by
  unfold frzK
  simp only [new_at, new_set]
theorem fLen_new : fLen [.rf M.length] ⟨M ++ [.lst xs], n⟩ k = k (.int xs.length) ⟨M ++ [.lst xs], n⟩ := by
  simp [fLen, seqD]
theorem fTuple_new : fTuple [.rf M.length] ⟨M ++ [.lst xs], n⟩ k = k (.tup xs) ⟨M ++ [.lst xs], n⟩ := by
  simp [fTuple, seqD]
theorem ixD_new : ixD (.rf M.length) (.int j) ⟨M ++ [.lst xs], n⟩ k = someK (atI xs j) (fun d => k d ⟨M ++ [.lst xs], n⟩) := by
  simp [ixD, seqD]
  rfl
theorem slA_l {lo hi : Option Int} : slA (.lst xs) lo hi w k = k (.lst (cutD xs lo hi)) w := rfl
theorem slA_t {lo hi : Option Int} : slA (.tup xs) lo hi w k = k (.tup (cutD xs lo hi)) w := rfl
theorem slA_new {lo hi : Option Int} : slA (.rf M.length) lo hi ⟨M ++ [.lst xs], n⟩ k = k (.lst (cutD xs lo hi)) ⟨M ++ [.lst xs], n⟩ := by
  unfold slA
  simp only [cellK_new]
theorem addTD_t : addTD (.tup xs) (.tup ys) w k = (xs.length + ys.length ≤ sizeLine ∧ k (.tup (xs ++ ys)) w) := rfl
theorem addCD_l : addCD (.lst xs) (.lst ys) w k = (xs.length + ys.length ≤ sizeLine ∧ k (.rf w.M.length) ⟨w.M ++ [.lst (xs ++ ys)], w.n⟩) := rfl
theorem mulCD_l : mulCD (.lst xs) (.int j) w k = (-(2 ^ 63) ≤ j ∧ j < 2 ^ 63 ∧ xs.length * j.toNat ≤ sizeLine ∧ k (.rf w.M.length) ⟨w.M ++ [.lst (List.replicate j.toNat xs).flatten], w.n⟩) := rfl
theorem isbD_b {a b : Bool} : isbD (.bl a) (.bl b) w k = k (.bl (decide (a = b))) w := rfl
theorem isnotbD_b {a b : Bool} : isnotbD (.bl a) (.bl b) w k = k (.bl (!decide (a = b))) w := rfl
theorem mSplitC_s {a b : Str} : mSplitC (.str a) [.str b] w k = ((b.length == 0) = false ∧ a.length + 2 ≤ sizeLine ∧ k (.rf w.M.length) ⟨w.M ++ [.lst ((Txt.split a b).map D.str)], w.n⟩) := rfl
theorem giEnum_l {ρ : Rho} {kx : KX} {ga : GA} {kk : List D → (Wd → Prop) → Wd → Prop} : giEnum ga ρ w kx kk = ga ρ w kx fun ds w1 => match ds with
  | [.lst xs] => kk (enumD 0 xs) (fun _ => True) w1
  | _ => False := rfl
end
theorem lows_of {n : Nat} : ∀ {xs : List D}, (∀ x ∈ xs, low n x = true) → lows n xs = true
  | [], _ => rfl
  | x :: xs, h => by
    unfold lows
    rw [h x List.mem_cons_self, lows_of fun y hy => h y (List.mem_cons_of_mem _ hy)]
    rfl
/-! ### list + list, either may be changeable -/
def lstK (d : D) (w : Wd) (f : List D → Prop) : Prop := match d with
  | .lst xs => f xs
  | .rf i => cellK i w f
  | _ => False
def addLD : F2 := fun x y w k => lstK x w fun xs => lstK y w fun ys => xs.length + ys.length ≤ sizeLine ∧ k (.lst (xs ++ ys)) w
theorem lst_get {K : PySem.W.Frag} {G : Gh} {S H : Hp} {w : Wd} {v : V} {d : D} {f : List D → Prop} (hr : HR K G S w H) (r : Rep K G S v d) (h : lstK d w f) : ∃ a xs ds, v = .ref a ∧ H a = some (.lst xs) ∧ RepAll K G S xs ds ∧ f ds := by
  cases r with
  | lst e r => exact ⟨_, _, _, rfl, hr.same _ _ e, r, h⟩
  | rf e =>
    obtain ⟨es, xs, _, _, h2, h3, h4⟩ := cell_get hr e h
    exact ⟨_, _, _, rfl, h2, h3, h4⟩
  | _ => exact h.elim
theorem ok_addLD {K : PySem.W.Frag} : BinOk K rCat addLD := by
  intro G S H w x y d e k Q hr rx ry kl h
  obtain ⟨a, xs, ds, rfl, h1, h2, h⟩ := lst_get hr rx h
  obtain ⟨b, ys, es, rfl, h3, h4, h5, h6⟩ := lst_get hr ry h
  exact ⟨_, _, _, _, rfl, rfl, h1, h3, by rw [h2.length, h4.length]; exact h5, kl.newL hr (h2.append h4) h6⟩
theorem de_addl {X : Cx} {E : XK} {a b : Expr} {ga gb : GE} {pos : Pos} (ha : DE X E a ga) (hb : DE X E b gb) : DE X E (.BinOp a .Add b pos) (gBin addLD ga gb) := de_bin op_cat ok_addLD ha hb
theorem lstK_l {xs : List D} {w : Wd} {f : List D → Prop} : lstK (.lst xs) w f = f xs := rfl
theorem lstK_r {i : Nat} {w : Wd} {f : List D → Prop} : lstK (.rf i) w f = cellK i w f := rfl
theorem addLD_eq {x y : D} {w : Wd} {k : KD} : addLD x y w k = lstK x w fun xs => lstK y w fun ys => xs.length + ys.length ≤ sizeLine ∧ k (.lst (xs ++ ys)) w := rfl
end DL

namespace DL
open PySem PySem.Spec PyProof.Rows L2 RZ

/-! ### comprehensions over data of a kind -/
theorem lc_tyf {α : Type} {gt : GG} {tt : GT} {ge : GE} {Ok : Wd → Prop} {ρ : Rho} {k : KD} {w : Wd} (toD f : α → D) (p : α → Bool) (xs : List α) (hOk : Ok w) (hl : xs.length ≤ 100000)
    (h : ∀ a, a ∈ xs → ∀ (A : KD) (B : Wd → Prop), (p a = true → A (f a) w) → (p a = false → B w) → gt (toD a) ρ w fun ρ1 w1 => tt ρ1 w1 noX fun c w2 => if c = true then ge ρ1 w2 noX A else B w2)
    (hk : k (.lst ((xs.filter p).map f)) w) : ∃ P : List D → List D → Wd → Prop, P (xs.map toD) [] w ∧ LcS gt tt ge Ok ρ k P := by
  refine ⟨fun rem acc w' => w' = w ∧ ∃ dn rs, xs = dn ++ rs ∧ rem = rs.map toD ∧ acc = (dn.filter p).map f, ⟨rfl, [], xs, rfl, rfl, rfl⟩, ?_, ?_⟩
  · rintro acc w' ⟨rfl, dn, rs, e, e2, rfl⟩
    have : rs = [] := by simpa using e2.symm
    subst this
    rw [List.append_nil] at e
    subst e
    exact ⟨hOk, hk⟩
  · rintro x rem acc w' ⟨rfl, dn, rs, e, e2, rfl⟩
    cases rs with
    | nil => cases e2
    | cons a rs =>
      rw [List.map_cons] at e2
      injection e2 with e2 e3
      subst e2
      subst e3
      refine ⟨hOk, ?_⟩
      have ha : a ∈ xs := by rw [e]; simp
      have hlen : dn.length ≤ xs.length := by rw [e]; simp
      refine h a ha _ _ (fun hp => ⟨?_, rfl, dn ++ [a], rs, by rw [e]; simp, rfl, ?_⟩) (fun hp => ⟨rfl, dn ++ [a], rs, by rw [e]; simp, rfl, ?_⟩)
      · rw [List.length_map]
        have := List.length_filter_le p dn
        exact Nat.lt_of_le_of_lt (show (dn.filter p).length ≤ 100000 by omega) (by decide)
      · rw [List.filter_append, List.filter_cons, if_pos hp, List.map_append]
        rfl
      · rw [List.filter_append, List.filter_cons, if_neg (by rw [hp]; decide), List.filter_nil, List.append_nil]
theorem lc_ty {α : Type} {gt : GG} {ge : GE} {Ok : Wd → Prop} {ρ : Rho} {k : KD} {w : Wd} (toD f : α → D) (xs : List α) (hOk : Ok w) (hl : xs.length ≤ 100000)
    (h : ∀ a, a ∈ xs → ∀ k' : KD, k' (f a) w → gt (toD a) ρ w fun ρ1 w1 => ge ρ1 w1 noX k') (hk : k (.lst (xs.map f)) w) : ∃ P : List D → List D → Wd → Prop, P (xs.map toD) [] w ∧ LcS gt gYes ge Ok ρ k P := by
  refine lc_tyf toD f (fun _ => true) xs hOk hl (fun a ha A B h1 _ => ?_) ?_
  · exact h a ha A (h1 rfl)
  · rw [List.filter_eq_self.mpr fun _ _ => rfl]
    exact hk
/-! ### places from the end -/
theorem at_last1 {α : Type} (xs : List α) (v : α) : atI (xs ++ [v]) (-1) = some v := atI_last xs v
theorem cut_init {α : Type} (xs : List α) (v : α) : cutD (xs ++ [v]) none (some (-1)) = xs := by
  unfold cutD
  rw [HT.sIx_none, List.drop_zero, Nat.sub_zero]
  have : HT.sIx (xs ++ [v]).length (xs ++ [v]).length (some (-1)) = xs.length := by
    show (if (-1 : Int) < 0 then ((-1 : Int) + ((xs ++ [v]).length : Int)).toNat else min (-1 : Int).toNat (xs ++ [v]).length) = _
    rw [if_pos (by decide), List.length_append, List.length_singleton]
    omega
  rw [this, List.take_left]
theorem rep_map {α β : Type} (f : α → β) (n : Nat) (xs : List α) : (List.replicate n (xs.map f)).flatten = ((List.replicate n xs).flatten).map f := by
  rw [List.map_flatten, List.map_replicate]
theorem rep_mem {α : Type} {n : Nat} {xs : List α} {x : α} (h : x ∈ (List.replicate n xs).flatten) : x ∈ xs := by
  obtain ⟨l, h1, h2⟩ := List.mem_flatten.mp h
  rw [List.eq_of_mem_replicate h1] at h2
  exact h2
theorem rep_flen {α : Type} (n : Nat) (xs : List α) : ((List.replicate n xs).flatten).length = n * xs.length := by
  rw [List.length_flatten, List.map_replicate, List.sum_replicate_nat]
theorem cut_len' {α : Type} (xs : List α) (lo hi : Option Int) : (cutD xs lo hi).length ≤ xs.length := by
  unfold cutD
  rw [List.length_take, List.length_drop]
  omega
theorem split_last {α : Type} {xs : List α} (h : 0 < xs.length) : ∃ ys y, xs = ys ++ [y] := by
  have : xs ≠ [] := fun z => by rw [z] at h; cases h
  exact ⟨xs.dropLast, xs.getLast this, (List.dropLast_concat_getLast this).symm⟩
end DL

namespace DL
open PySem PySem.Spec PyProof.Rows L2 RZ

/-! ### dicts: keys are ints and texts -/
def keyD : D → Option Key
  | .int i => some (.inl i)
  | .str s => some (.inr s)
  | _ => none
section
variable {K : PySem.W.Frag} {G : Gh} {S H : Hp} {w : Wd}
theorem rep_key {v : V} {d : D} {k : Key} (r : Rep K G S v d) (h : keyD d = some k) : v = kV k := by
  cases r with
  | int i => cases h; rfl
  | str i => cases h; rfl
  | _ => cases h
section
variable {κ : Type} [DecidableEq κ]
def valD (kvs : List (κ × D)) (k : κ) : Option D := (kvs.find? fun kv => decide (kv.1 = k)).map (·.2)
def putD (kvs : List (κ × D)) (k : κ) (d : D) : List (κ × D) := if (kvs.any fun kv => decide (kv.1 = k)) = true then kvs.map fun kv => if kv.1 = k then (kv.1, d) else kv else kvs ++ [(k, d)]
theorem fs_any {k : κ} : ∀ {xs : List (κ × V)} {ys : List (κ × D)}, FsRep K G S xs ys → (xs.any fun kv => decide (kv.1 = k)) = ys.any fun kv => decide (kv.1 = k)
  | _, _, .nil => rfl
  | _, _, .cons h r => by
    rw [List.any_cons, List.any_cons, fs_any r, h.1]
theorem fs_some {k : κ} {d : D} : ∀ {xs : List (κ × V)} {ys : List (κ × D)}, FsRep K G S xs ys → valD ys k = some d → ∃ v, valV xs k = some v ∧ Rep K G S v d
  | _, _, .nil, e => nomatch e
  | x :: xs, y :: ys, .cons h r, e => by
    by_cases hk : y.1 = k
    · have e2 : valD (y :: ys) k = some y.2 := by simp [valD, List.find?_cons, hk]
      rw [e2] at e
      cases e
      exact ⟨x.2, valV_pos (h.1.trans hk), h.2⟩
    · have e2 : valD (y :: ys) k = valD ys k := by simp [valD, List.find?_cons, hk]
      rw [e2] at e
      rw [valV_neg fun z => hk (h.1.symm.trans z)]
      exact fs_some r e
theorem fs_none {k : κ} : ∀ {xs : List (κ × V)} {ys : List (κ × D)}, FsRep K G S xs ys → valD ys k = none → valV xs k = none
  | _, _, .nil, _ => rfl
  | x :: xs, y :: ys, .cons h r, e => by
    by_cases hk : y.1 = k
    · have e2 : valD (y :: ys) k = some y.2 := by simp [valD, List.find?_cons, hk]
      rw [e2] at e
      cases e
    · have e2 : valD (y :: ys) k = valD ys k := by simp [valD, List.find?_cons, hk]
      rw [e2] at e
      rw [valV_neg fun z => hk (h.1.symm.trans z)]
      exact fs_none r e
theorem fs_map {k : κ} {v : V} {d : D} (hd : Rep K G S v d) : ∀ {xs : List (κ × V)} {ys : List (κ × D)}, FsRep K G S xs ys → FsRep K G S (xs.map fun kv => if kv.1 = k then (kv.1, v) else kv) (ys.map fun kv => if kv.1 = k then (kv.1, d) else kv)
  | _, _, .nil => .nil
  | x :: _, y :: _, .cons h r => by
    refine .cons ?_ (fs_map hd r)
    by_cases hk : y.1 = k
    · simp only [if_pos hk, if_pos (h.1.trans hk)]
      exact ⟨h.1, hd⟩
    · have hk2 : ¬ x.1 = k := fun z => hk (h.1.symm.trans z)
      simp only [if_neg hk, if_neg hk2]
      exact h
theorem fs_snoc {k : κ} {v : V} {d : D} (hd : Rep K G S v d) : ∀ {xs : List (κ × V)} {ys : List (κ × D)}, FsRep K G S xs ys → FsRep K G S (xs ++ [(k, v)]) (ys ++ [(k, d)])
  | _, _, .nil => .cons ⟨rfl, hd⟩ .nil
  | _, _, .cons h r => .cons h (fs_snoc hd r)
theorem fs_put {k : κ} {v : V} {d : D} (hd : Rep K G S v d) {xs : List (κ × V)} {ys : List (κ × D)} (h : FsRep K G S xs ys) : FsRep K G S (putK xs k v) (putD ys k d) := by
  unfold putK putD
  rw [fs_any h]
  split
  · exact fs_map hd h
  · exact fs_snoc hd h
theorem fs_lenD {xs : List (κ × V)} {ys : List (κ × D)} (h : FsRep K G S xs ys) : xs.length = ys.length := Paired.length h
theorem fs_keys : ∀ {xs : List (κ × V)} {ys : List (κ × D)}, FsRep K G S xs ys → xs.map (·.1) = ys.map (·.1)
  | _, _, .nil => rfl
  | _, _, .cons h r => by
    rw [List.map_cons, List.map_cons, fs_keys r, h.1]
end
def dkK (i : Nat) (w : Wd) (f : List (Key × D) → Prop) : Prop := match w.M[i]? with
  | some (.dk xs) => f xs
  | _ => False
theorem dk_get {a : Addr} {i : Nat} {f : List (Key × D) → Prop} (hr : HR K G S w H) (e : G.al[i]? = some a) (h : dkK i w f) :
    ∃ ds xs, w.M[i]? = some (.dk ds) ∧ S a = none ∧ H a = some (.dK xs) ∧ FsRep K G S xs ds ∧ f ds := by
  unfold dkK at h
  split at h
  · rename_i ds e2
    obtain ⟨h1, xs, h2, h3⟩ := hr.cell _ _ _ e e2
    exact ⟨ds, xs, e2, h1, h2, h3, h⟩
  · exact h.elim
theorem dk_put {a : Addr} {i : Nat} {c : Cell} {ys : List (Key × V)} {es : List (Key × D)} (hr : HR K G S w H) (e : G.al[i]? = some a) (e2 : w.M[i]? = some c) (hs : S a = none) (r : FsRep K G S ys es) :
    HR K G S ⟨w.M.set i (.dk es), w.n⟩ (upd H a (.dK ys)) := hr.setC e e2 hs ⟨hs, ys, upd_same, r⟩
theorem KL.newCell {k : KD} {Q : VK} {o : HO} {c : Cell} (kl : KL K G S k Q) (hr : HR K G S w H) (h : k (.rf w.M.length) ⟨w.M ++ [c], w.n⟩) {p : Addr} (hp : H p = none) (hc : CellOk K ⟨G.al ++ [p], G.st, G.fr⟩ S (upd H p o) p c) : Q (.ref p) (upd H p o) := by
  obtain ⟨h1, x1⟩ := hr.newC hp o c hc
  refine kl _ _ _ _ _ _ x1 h1 (.rf ?_) h
  show (G.al ++ [p])[w.M.length]? = some p
  rw [List.getElem?_append_right (by rw [hr.len]; exact Nat.le_refl _), hr.len, Nat.sub_self]
  rfl
end
def gDNew : GE := fun _ w _ k => k (.rf w.M.length) ⟨w.M ++ [.dk []], w.n⟩
def keyK (d : D) (f : Key → Prop) : Prop := match keyD d with
  | some k => f k
  | none => False
def rfK (d : D) (f : Nat → Prop) : Prop := match d with
  | .rf i => f i
  | _ => False
def gDGet (go gi : GE) : GE := fun ρ w kx k => go ρ w kx fun x w1 => gi ρ w1 kx fun y w2 => rfK x fun i => keyK y fun q => dkK i w2 fun kvs => someK (valD kvs q) fun d => k d w2
def gDGet2 (go gi gd : GE) : GE := fun ρ w kx k => go ρ w kx fun x w1 => rfK x fun i => dkK i w1 fun _ => gi ρ w1 kx fun y w2 => gd ρ w2 kx fun z w3 => keyK y fun q => dkK i w3 fun kvs => k ((valD kvs q).getD z) w3
def gDSetd (go gi gd : GE) : GE := fun ρ w kx k => go ρ w kx fun x w1 => rfK x fun i => dkK i w1 fun _ => gi ρ w1 kx fun y w2 => gd ρ w2 kx fun z w3 => keyK y fun q => dkK i w3 fun kvs => kvs.length < sizeLine ∧ match valD kvs q with
  | some d => k d w3
  | none => k z ⟨w3.M.set i (.dk (putD kvs q z)), w3.n⟩
def ggDPut (go gi : GE) : GG := fun d ρ w k => go ρ w noX fun x w1 => gi ρ w1 noX fun y w2 => rfK x fun i => keyK y fun q => dkK i w2 fun kvs => kvs.length < sizeLine ∧ k ρ ⟨w2.M.set i (.dk (putD kvs q d)), w2.n⟩
theorem rfK_rep {K : PySem.W.Frag} {G : Gh} {S : Hp} {v : V} {d : D} {f : Nat → Prop} (r : Rep K G S v d) (h : rfK d f) : ∃ a i, v = .ref a ∧ d = .rf i ∧ G.al[i]? = some a ∧ f i := by
  cases r with
  | rf e => exact ⟨_, _, rfl, rfl, e, h⟩
  | _ => exact h.elim
theorem keyK_rep {K : PySem.W.Frag} {G : Gh} {S : Hp} {v : V} {d : D} {f : Key → Prop} (r : Rep K G S v d) (h : keyK d f) : ∃ k, v = kV k ∧ f k := by
  unfold keyK at h
  split at h
  · rename_i k e
    exact ⟨k, rep_key r e, h⟩
  · exact h.elim
theorem someK_get {o : Option D} {f : D → Prop} (h : someK o f) : ∃ d, o = some d ∧ f d := by
  unfold someK at h
  split at h
  · exact ⟨_, rfl, h⟩
  · exact h.elim
section
variable {X : Cx} {E : XK} {o i e : Expr} {go gi gd : GE} {pos apos cpos : Pos}
theorem de_dnew : DE X E (.Dict [] [] pos) gDNew := pe_imp pe_dnewK (by
  rintro σ H Q ⟨G, S, ρ, w, kx, k, hr, sr, xl, kl, h⟩ p hp
  exact kl.newCell hr h hp ⟨hr.freshS hp, [], upd_same, .nil⟩)
theorem de_dget (hu : X.A.units + 1 < cLine) (ho : DE X E o go) (hi : DE X E i gi) (hs : NoSl i := by exact fun _ _ => rfl) : DE X E (.Subscript o i pos) (gDGet go gi) := pe_imp (pe_dget hu ho hi hs) (by
  rintro σ H Q ⟨G, S, ρ, w, kx, k, hr, sr, xl, kl, h⟩
  refine ⟨G, S, ρ, w, kx, _, hr, sr, xl, fun G1 S1 H1 w1 dx vx x1 hr1 rx h1 => ⟨G1, S1, ρ, w1, kx, _, hr1, sr.mono x1, xl.mono x1, fun G2 S2 H2 w2 dy vy x2 hr2 ry h2 => ?_, h1⟩, h⟩
  obtain ⟨a, j, rfl, rfl, ea, h3⟩ := rfK_rep (rx.mono x2) h2
  obtain ⟨q, rfl, h4⟩ := keyK_rep ry h3
  obtain ⟨ds, xs, _, _, g1, g2, h5⟩ := dk_get hr2 ea h4
  obtain ⟨d, e1, h6⟩ := someK_get h5
  obtain ⟨v, e2, rv⟩ := fs_some g2 e1
  exact ⟨a, v, rfl, by rw [← e2]; exact DGet.k g1, kl _ _ _ _ _ _ (x1.trans x2) hr2 rv h6⟩)
theorem de_dget2 (hu : X.A.units + 1 < cLine) (ho : DE X E o go) (hi : DE X E i gi) (hd : DE X E e gd) (m : M2 X o "get" apos i e cpos := by exact ⟨rfl, rfl, rfl, rfl⟩) : DE X E (.Call (.Attribute o "get" apos) [i, e] [] cpos) (gDGet2 go gi gd) := pe_imp (pe_dget2 hu ho hi hd m) (by
  rintro σ H Q ⟨G, S, ρ, w, kx, k, hr, sr, xl, kl, h⟩
  refine ⟨G, S, ρ, w, kx, _, hr, sr, xl, fun G1 S1 H1 w1 dx vx x1 hr1 rx h1 => ?_, h⟩
  obtain ⟨a, j, rfl, rfl, ea, h3⟩ := rfK_rep rx h1
  obtain ⟨ds, xs, _, _, g1, g2, h5⟩ := dk_get hr1 ea h3
  refine ⟨a, rfl, .inl ⟨xs, .inl g1⟩, G1, S1, ρ, w1, kx, _, hr1, sr.mono x1, xl.mono x1, fun G2 S2 H2 w2 dy vy x2 hr2 ry h6 => ⟨G2, S2, ρ, w2, kx, _, hr2, sr.mono (x1.trans x2), xl.mono (x1.trans x2), fun G3 S3 H3 w3 dz vz x3 hr3 rz h7 => ?_, h6⟩, h5⟩
  obtain ⟨q, rfl, h8⟩ := keyK_rep (ry.mono x3) h7
  have ea3 := (x2.trans x3).alGet ea
  obtain ⟨es, ys, _, _, g3, g4, h9⟩ := dk_get hr3 ea3 h8
  have xt := x1.trans (x2.trans x3)
  refine ⟨_, DGet.k g3, ?_⟩
  cases e1 : valD es q with
  | none =>
    rw [e1] at h9
    rw [fs_none g4 e1]
    exact kl _ _ _ _ _ _ xt hr3 rz h9
  | some d =>
    rw [e1] at h9
    obtain ⟨v, e2, rv⟩ := fs_some g4 e1
    rw [e2]
    exact kl _ _ _ _ _ _ xt hr3 rv h9)
theorem de_dsetd (ho : DE X E o go) (hi : DE X E i gi) (hd : DE X E e gd) (m : M2 X o "setdefault" apos i e cpos := by exact ⟨rfl, rfl, rfl, rfl⟩) : DE X E (.Call (.Attribute o "setdefault" apos) [i, e] [] cpos) (gDSetd go gi gd) := pe_imp (pe_dsetd ho hi hd m) (by
  rintro σ H Q ⟨G, S, ρ, w, kx, k, hr, sr, xl, kl, h⟩
  refine ⟨G, S, ρ, w, kx, _, hr, sr, xl, fun G1 S1 H1 w1 dx vx x1 hr1 rx h1 => ?_, h⟩
  obtain ⟨a, j, rfl, rfl, ea, h3⟩ := rfK_rep rx h1
  obtain ⟨ds, xs, _, _, g1, g2, h5⟩ := dk_get hr1 ea h3
  refine ⟨a, rfl, .inl ⟨xs, .inl g1⟩, G1, S1, ρ, w1, kx, _, hr1, sr.mono x1, xl.mono x1, fun G2 S2 H2 w2 dy vy x2 hr2 ry h6 => ⟨G2, S2, ρ, w2, kx, _, hr2, sr.mono (x1.trans x2), xl.mono (x1.trans x2), fun G3 S3 H3 w3 dz vz x3 hr3 rz h7 => ?_, h6⟩, h5⟩
  obtain ⟨q, rfl, h8⟩ := keyK_rep (ry.mono x3) h7
  have ea3 := (x2.trans x3).alGet ea
  obtain ⟨es, ys, e2, hs, g3, g4, h9, h10⟩ := dk_get hr3 ea3 h8
  have xt := x1.trans (x2.trans x3)
  refine ⟨ys, q, g3, rfl, by rw [fs_lenD g4]; exact h9, fun v hv => ?_, fun hv => ?_⟩
  · cases e1 : valD es q with
    | none =>
      rw [fs_none g4 e1] at hv
      cases hv
    | some d =>
      rw [e1] at h10
      obtain ⟨u, e3, rv⟩ := fs_some g4 e1
      rw [e3] at hv
      cases hv
      exact kl _ _ _ _ _ _ xt hr3 rv h10
  · cases e1 : valD es q with
    | none =>
      rw [e1] at h10
      exact kl _ _ _ _ _ _ xt (dk_put hr3 ea3 e2 hs (fs_put rz g4)) rz h10
    | some d =>
      obtain ⟨u, e3, rv⟩ := fs_some g4 e1
      rw [e3] at hv
      cases hv)
theorem dg_dput (hu : X.A.units + 1 < cLine) (ho : DE X E o go) (hi : DE X E i gi)
    (ha : ∀ v, assign (.Subscript o i pos) X.env v = (do
      let ov ← holding [v] (eval o X.env)
      let iv ← holding [v, ov] (eval i X.env)
      standAt pos
      holding [v, ov, iv] (setItem ov iv v)
      release [v, ov, iv] []) := by intro _; rfl) : DG X [] (.Subscript o i pos) (ggDPut go gi) := pg_imp (pg_sub ho hi (set_dict hu) ha) (by
  rintro v σ H Q ⟨G, S, ρ, w, d, k, hr, sr, rp, nl, h⟩
  refine ⟨G, S, ρ, w, noX, _, hr, sr, xl_no, fun G1 S1 H1 w1 dx vx x1 hr1 rx h1 => ⟨G1, S1, ρ, w1, noX, _, hr1, sr.mono x1, xl_no, fun G2 S2 H2 w2 dy vy x2 hr2 ry h2 => ?_, h1⟩, h⟩
  have x12 := x1.trans x2
  obtain ⟨a, j, rfl, rfl, ea, h3⟩ := rfK_rep (rx.mono x2) h2
  obtain ⟨q, rfl, h4⟩ := keyK_rep ry h3
  obtain ⟨es, ys, e2, hs, g3, g4, h9, h10⟩ := dk_get hr2 ea h4
  exact ⟨a, _, rfl, DPut.k g3 (by rw [fs_lenD g4]; exact h9), nl _ _ _ _ _ _ x12 (dk_put hr2 ea e2 hs (fs_put (rp.mono x12) g4)) (sr.mono x12) ⟨rfl, fun _ _ => rfl⟩ h10⟩)
end
/-- sorted(d): its keys are texts -/
def fSortD : FB := fun ds w k => match ds with
  | [.rf i] => dkK i w fun kvs => ∃ ks : List Str, kvs.map (·.1) = ks.map Sum.inr ∧ ks.length < 64 ∧ ∀ ys : List Str, ys.Perm ks → sortedS ys = true → k (.lst (ys.map D.str)) w
  | _ => False
theorem de_sortD {X : Cx} {E : XK} {e : Expr} {es : List Expr} {ga : GA} {p pos : Pos} (B : Blt X.mg) (hc : X.calm = true) (hg : Gl X "sorted") (ha : DA X E (e :: es) ga) (he : starEach (e :: es) X.env = (false, eval e X.env) :: starEach es X.env := by rfl) (hpl : (backTo pos (starEach es X.env)).any (·.1) = false := by rfl) : DE X E (.Call (.Name "sorted" p) (e :: es) [] pos) (gCB fSortD ga) := de_cb (call_sortedD hc) (by
  intro G S H w xs ds k Q hr rx kl h
  unfold fSortD at h
  split at h
  · obtain ⟨v, rfl, r⟩ := one_rep rx
    cases r with
    | rf e =>
      obtain ⟨kvs, ys, _, _, g1, g2, ks, h1, h2, h3⟩ := dk_get hr e h
      exact ⟨_, ys, ks, rfl, .inl g1, (fs_keys g2).trans h1, h2, fun zs p h4 h5 hp => kl.newL hr (rep_strs zs) (h3 zs h4 h5) p hp⟩
  · exact h.elim) hg B.sorted_ (by decide +kernel) ha (he := he) (hpl := hpl)

/-! ### instances -/
def insK (C : Addr) (i : Nat) (w : Wd) (f : List (Str × D) → Prop) : Prop := match w.M[i]? with
  | some (.ins C' fs) => C' = C ∧ f fs
  | _ => False
theorem ins_at {K : PySem.W.Frag} {G : Gh} {S H : Hp} {w : Wd} {C a : Addr} {i : Nat} {f : List (Str × D) → Prop} (hr : HR K G S w H) (e : G.al[i]? = some a) (h : insK C i w f) :
    ∃ ds dx xs, w.M[i]? = some (.ins C ds) ∧ S a = none ∧ H a = some (.ins C dx xs) ∧ FsRep K G S xs ds ∧ f ds := by
  unfold insK at h
  split at h
  · rename_i C' ds e2
    obtain ⟨rfl, h⟩ := h
    obtain ⟨h1, dx, xs, h2, h3⟩ := hr.cell _ _ _ e e2
    exact ⟨ds, dx, xs, e2, h1, h2, h3, h⟩
  · exact h.elim
def putFD (f : Str) (d : D) : List (Str × D) → List (Str × D)
  | [] => [(f, d)]
  | (g, x) :: r => if g = f then (g, d) :: r else (g, x) :: putFD f d r
section
variable {K : PySem.W.Frag} {G : Gh} {S : Hp}
theorem fs_putF {f : Str} {v : V} {d : D} (hd : Rep K G S v d) : ∀ {xs : List (Str × V)} {ys : List (Str × D)}, FsRep K G S xs ys → FsRep K G S (putF f v xs) (putFD f d ys)
  | _, _, .nil => .cons ⟨rfl, hd⟩ .nil
  | (g, x) :: xs, (g', y) :: ys, .cons h r => by
    have e : g = g' := h.1
    subst e
    show FsRep K G S (if g = f then (g, v) :: xs else (g, x) :: putF f v xs) (if g = f then (g, d) :: ys else (g, y) :: putFD f d ys)
    split
    · exact .cons ⟨rfl, hd⟩ r
    · exact .cons h (fs_putF hd r)
theorem fs_look {f : Str} {d : D} : ∀ {xs : List (Str × V)} {ys : List (Str × D)}, FsRep K G S xs ys → ys.lookup f = some d → ∃ v, xs.lookup f = some v ∧ Rep K G S v d
  | _, _, .nil, e => nomatch e
  | (g, x) :: xs, (g', y) :: ys, .cons h r, e => by
    have eg : g = g' := h.1
    subst eg
    rw [List.lookup_cons] at e ⊢
    split at e
    · cases e
      exact ⟨x, rfl, h.2⟩
    · exact fs_look r e
theorem fs_lookN {f : Str} : ∀ {xs : List (Str × V)} {ys : List (Str × D)}, FsRep K G S xs ys → ys.lookup f = none → xs.lookup f = none
  | _, _, .nil, _ => rfl
  | (g, x) :: xs, (g', y) :: ys, .cons h r, e => by
    have eg : g = g' := h.1
    subst eg
    rw [List.lookup_cons] at e ⊢
    split at e
    · cases e
    · exact fs_lookN r e
end
def gFld (C : Addr) (go : GE) (f : Str) : GE := fun ρ w kx k => go ρ w kx fun x w1 => rfK x fun i => insK C i w1 fun fs => someK (fs.lookup f) fun d => k d w1
def gSetF (C : Addr) (go gv : GE) (f : Str) : GS := fun F ρ w => gv ρ w F.ex fun d w1 => go ρ w1 F.ex fun x w2 => rfK x fun i => insK C i w2 fun fs => fs.length < 1000 ∧ F.nx ρ ⟨w2.M.set i (.ins C (putFD f d fs)), w2.n⟩
/-- o.m(..): the method's meaning sp, of n arguments with self -/
def gMeth (C : Addr) (n : Nat) (sp : GF) (m : Str) (go : GE) (ga : GA) : GE := fun ρ w kx k => go ρ w kx fun x w1 => rfK x fun i => insK C i w1 fun fs => fs.lookup m = none ∧ ga ρ w1 kx fun xs w2 => (x :: xs).length = n ∧ sp (x :: xs) w2 noX k
def gMake (C : Addr) (n : Nat) (sp : GF) (ga : GA) : GE := fun ρ w kx k => ga ρ w kx fun xs w1 => (D.rf w1.M.length :: xs).length = n ∧ sp (.rf w1.M.length :: xs) ⟨w1.M ++ [.ins C []], w1.n⟩ noX fun d w2 => d = .non ∧ k (.rf w1.M.length) w2
structure ClsAt (K : PySem.W.Frag) (mg : Str → Option Value) (x : Str) (C : Addr) (fs : List Str) : Prop where
  cl : Cls K C
  mgC : mg x = some (.ref C)
  na : ∀ f ∈ fs, NoAttr K C f
structure MethAt (K : PySem.W.Frag) (C : Addr) (m qual : Str) (st : Stmt) (ps : List Str) : Prop where
  ex : ∃ f fd, Fun K m qual st f fd ∧ Meth K C m f ∧ Binds K fd ps []
structure InitAt (K : PySem.W.Frag) (C : Addr) (qual : Str) (st : Stmt) (ps : List Str) : Prop where
  ex : ∃ f fd, Fun K "__init__" qual st f fd ∧ Mk K C f ∧ Binds K fd ps []
structure MtAt (P : Program) (w : World) (K : PySem.W.Frag) (mg : Str → Option Value) (base : Heap) (CX : CXT) (k : Nat) (C : Addr) (m : Str) (n : Nat) (g : GF) : Prop where
  ex : ∃ f fd ps, FnOk P w K mg base CX k f fd ps (upF n K g) ∧ Meth K C m f ∧ Binds K fd ps []
structure InAt (P : Program) (w : World) (K : PySem.W.Frag) (mg : Str → Option Value) (base : Heap) (CX : CXT) (k : Nat) (C : Addr) (n : Nat) (g : GF) : Prop where
  ex : ∃ f fd ps, FnOk P w K mg base CX k f fd ps (upF n K g) ∧ Mk K C f ∧ Binds K fd ps []
section
variable {P : Program} {w : World} {K : PySem.W.Frag} {mg : Str → Option Value} {base : Heap}
theorem MtAt.imp {CX : CXT} {k : Nat} {C : Addr} {m : Str} {n : Nat} {g g' : GF} (h : MtAt P w K mg base CX k C m n g) (i : ∀ ds w kx k, g' ds w kx k → g ds w kx k) : MtAt P w K mg base CX k C m n g' := by
  obtain ⟨f, fd, ps, h1, h2⟩ := h.ex
  exact ⟨f, fd, ps, h1.imp (up_imp i), h2⟩
theorem InAt.imp {CX : CXT} {k : Nat} {C : Addr} {n : Nat} {g g' : GF} (h : InAt P w K mg base CX k C n g) (i : ∀ ds w kx k, g' ds w kx k → g ds w kx k) : InAt P w K mg base CX k C n g' := by
  obtain ⟨f, fd, ps, h1, h2⟩ := h.ex
  exact ⟨f, fd, ps, h1.imp (up_imp i), h2⟩
theorem MtAt.trunc {CX : CXT} {k : Nat} {C : Addr} {m : Str} {n : Nat} {g : GF} (h : MtAt P w K mg base CX k C m n g) : MtAt P w K mg base CX k C m n (gTr g) := by
  obtain ⟨f, fd, ps, h1, h2⟩ := h.ex
  exact ⟨f, fd, ps, h1.imp tr_up, h2⟩
theorem fun_fnq {x q : Str} {st : Stmt} {f : Addr} {fd : FuncData} {N ps : List Str} {k : Nat} {g : GS} (F : Fun K x q st f fd) (S : FnScope N ps (defScope st))
    (hbody : ∀ (f : Addr) (cdv : Value) (A : Around) (outer : List Env) (s : Shared) (H : Hp) (E : XK), Room k (A.deeper (envOfC q (defScope st) s.heap.objs.size f cdv)) →
      DSs (cxOf CX0 P w K mg base N q (defScope st) f cdv A outer s H E).nox E0 (defBody st) g) : FnOk P w K mg base CX0 (k + 1) f fd ps (upF ps.length K (sem0 N.length g)) := by
  refine F.ok S (fun vs H Q E h => ?_) (fun cdv A outer s H vs Q E hr h => ?_)
  · obtain ⟨G, S, ds, w, kx, k, h1, h2, h3, _⟩ := h
    rw [h3.length, h1]
  · obtain ⟨G, S1, ds, w1, kx, k1, h1, h2, h3, h4, h5, h6⟩ := h
    refine ⟨_, hbody f cdv A outer s H E hr, G, S1, rho N.length ds, w1, { nx := fun _ w' => k1 .non w', rt := k1, ex := noX }, h2, sr_start h3, ⟨fun G' S' H' w' ρ' σ' x1 hr1 _ hk => h5 _ _ _ _ _ _ x1 hr1 .non hk, h5, ?_, ?_, xl_no⟩, h6⟩
    · intro _ _ _ _ _ _ _ _ _ z
      exact z.elim
    · intro _ _ _ _ _ _ _ _ _ z
      exact z.elim
theorem MethAt.fn0 {C : Addr} {m q : Str} {st : Stmt} {N ps : List Str} {k : Nat} {g : GS} (T : MethAt K C m q st ps) (S : FnScope N ps (defScope st))
    (hbody : ∀ (f : Addr) (cdv : Value) (A : Around) (outer : List Env) (s : Shared) (H : Hp) (E : XK), Room k (A.deeper (envOfC q (defScope st) s.heap.objs.size f cdv)) →
      DSs (cxOf CX0 P w K mg base N q (defScope st) f cdv A outer s H E).nox E0 (defBody st) g) : MtAt P w K mg base CX0 (k + 1) C m ps.length (sem0 N.length g) := by
  obtain ⟨f, fd, F, hm, hb⟩ := T.ex
  exact ⟨f, fd, ps, fun_fnq F S hbody, hm, hb⟩
theorem InitAt.fn0 {C : Addr} {q : Str} {st : Stmt} {N ps : List Str} {k : Nat} {g : GS} (T : InitAt K C q st ps) (S : FnScope N ps (defScope st))
    (hbody : ∀ (f : Addr) (cdv : Value) (A : Around) (outer : List Env) (s : Shared) (H : Hp) (E : XK), Room k (A.deeper (envOfC q (defScope st) s.heap.objs.size f cdv)) →
      DSs (cxOf CX0 P w K mg base N q (defScope st) f cdv A outer s H E).nox E0 (defBody st) g) : InAt P w K mg base CX0 (k + 1) C ps.length (sem0 N.length g) := by
  obtain ⟨f, fd, F, hm, hb⟩ := T.ex
  exact ⟨f, fd, ps, fun_fnq F S hbody, hm, hb⟩
end
section
variable {X : Cx} {E : XK} {o e value : Expr} {es : List Expr} {go gv : GE} {ga : GA} {pos pos' apos p : Pos} {f x m : Str} {C : Addr} {fs : List Str} {k n : Nat} {g : GF}
theorem de_fld (c : ClsAt X.K X.mg x C fs) (hf : f ∈ fs) (ho : DE X E o go) (hb : attributeBase o f X.env (eval o X.env) = eval o X.env := by rfl) : DE X E (.Attribute o f pos) (gFld C go f) := pe_imp (pe_fld ho hb) (by
  rintro σ H Q ⟨G, S, ρ, w, kx, k, hr, sr, xl, kl, h⟩
  refine ⟨G, S, ρ, w, kx, _, hr, sr, xl, fun G1 S1 H1 w1 dx vx x1 hr1 rx h1 => ?_, h⟩
  obtain ⟨a, j, rfl, rfl, ea, h3⟩ := rfK_rep rx h1
  obtain ⟨ds, dx, xs, _, _, g1, g2, h5⟩ := ins_at hr1 ea h3
  obtain ⟨d, e1, h6⟩ := someK_get h5
  obtain ⟨v, e2, rv⟩ := fs_look g2 e1
  exact ⟨a, C, dx, xs, v, rfl, g1, c.cl, c.na f hf, e2, kl _ _ _ _ _ _ x1 hr1 rv h6⟩)
theorem ds_setF (c : ClsAt X.K X.mg x C fs) (hf : f ∈ fs) (ho : DE X E o go) (hv : DE X E value gv) (hs : swapsWith value (some (.Attribute o f pos')) pos.line X.env = pure false) : DS X E (.Assign [.Attribute o f pos'] value pos) (gSetF C go gv f) := ps_imp (ps_fld ho hv hs) (by
  rintro D σ H ⟨G, S, ρ, w, F, hr, sr, el, h⟩
  refine ⟨G, S, ρ, w, F.ex, _, hr, sr, el.ex, fun G1 S1 H1 w1 d v x1 hr1 rv h1 => ⟨G1, S1, ρ, w1, F.ex, _, hr1, sr.mono x1, (el.mono x1).ex, fun G2 S2 H2 w2 dx vx x2 hr2 rx h2 => ?_, h1⟩, h⟩
  obtain ⟨a, j, rfl, rfl, ea, h3⟩ := rfK_rep rx h2
  obtain ⟨ds, dx, xs, e2, hs, g1, g2, h5, h6⟩ := ins_at hr2 ea h3
  refine ⟨a, C, dx, xs, rfl, g1, c.cl, c.na f hf, by rw [Paired.length g2]; exact h5, ?_⟩
  exact el.nx _ _ _ _ _ _ (x1.trans x2) (hr2.setC (c := .ins C (putFD f d ds)) ea e2 hs ⟨hs, dx, _, upd_same, fs_putF (rv.mono x2) g2⟩) (sr.mono (x1.trans x2)) h6)
theorem de_meth {j : Nat} {pl : Sem Bool} (c : ClsAt X.K X.mg x C fs) (F : MtAt X.prog X.w X.K X.mg X.base CX0 j C m n g) (hr : Room k X.A) (ho : DE X E o go) (ha : DA X E (e :: es) ga) (hjk : j ≤ k)
    (hst : starEach (e :: es) X.env = (false, eval e X.env) :: starEach es X.env) (hpl : (backTo pos (starEach es X.env)).any (·.1) = false)
    (ht : eval (.Call (.Attribute o m apos) (e :: es) [] pos) X.env = (do
      let ov ← eval o X.env
      standAt apos.atName
      let (f, first) ← holding [ov] (getMethod ov m pl)
      callWith pos f first (backTo pos (starEach (e :: es) X.env)) (backToKw pos (keywordEach [] X.env)))) : DE X E (.Call (.Attribute o m apos) (e :: es) [] pos) (gMeth C n g m go ga) := by
  obtain ⟨f, fd, ps, h1, h2, h3⟩ := F.ex
  refine pe_imp (pe_meth (pl := pl) ho c.cl h2 h1 (hr.mono hjk) h3 .nil pass0 ha hst hpl ht) ?_
  rintro σ H Q ⟨G, S, ρ, w, kx, k, hr, sr, xl, kl, h⟩
  refine ⟨G, S, ρ, w, kx, _, hr, sr, xl, fun G1 S1 H1 w1 dx vx x1 hr1 rx h1 => ?_, h⟩
  obtain ⟨a, i, rfl, rfl, ea, h3⟩ := rfK_rep rx h1
  obtain ⟨ds, dx, xs, _, _, g1, g2, h5, h6⟩ := ins_at hr1 ea h3
  refine ⟨a, dx, xs, rfl, g1, fs_lookN g2 h5, G1, S1, ρ, w1, kx, _, hr1, sr.mono x1, xl.mono x1, fun G2 S2 H2 w2 as vs x2 hr2 ra h7 => ?_, h6⟩
  show upF n X.K g (.ref a :: (vs ++ [])) H2 Q E0
  rw [List.append_nil]
  exact ⟨G2, S2, _, w2, noX, k, h7.1, hr2, .cons (rx.mono x2) ra, xl_no, kl.mono (x1.trans x2), h7.2⟩
theorem de_meth0 {j : Nat} {pl : Sem Bool} (c : ClsAt X.K X.mg x C fs) (F : MtAt X.prog X.w X.K X.mg X.base CX0 j C m n g) (hr : Room k X.A) (ho : DE X E o go) (hjk : j ≤ k)
    (ht : eval (.Call (.Attribute o m apos) [] [] pos) X.env = (do
      let ov ← eval o X.env
      standAt apos.atName
      let (f, first) ← holding [ov] (getMethod ov m pl)
      callWith pos f first (backTo pos (starEach [] X.env)) (backToKw pos (keywordEach [] X.env)))) : DE X E (.Call (.Attribute o m apos) [] [] pos) (gMeth C n g m go gaNil) := by
  obtain ⟨f, fd, ps, h1, h2, h3⟩ := F.ex
  refine pe_imp (pe_meth0 (pl := pl) ho c.cl h2 h1 (hr.mono hjk) h3 .nil pass0 ht) ?_
  rintro σ H Q ⟨G, S, ρ, w, kx, k, hr, sr, xl, kl, h⟩
  refine ⟨G, S, ρ, w, kx, _, hr, sr, xl, fun G1 S1 H1 w1 dx vx x1 hr1 rx h1 => ?_, h⟩
  obtain ⟨a, i, rfl, rfl, ea, h3⟩ := rfK_rep rx h1
  obtain ⟨ds, dx, xs, _, _, g1, g2, h5, h6⟩ := ins_at hr1 ea h3
  exact ⟨a, dx, xs, rfl, g1, fs_lookN g2 h5, G1, S1, _, w1, noX, k, h6.1, hr1, .cons rx .nil, xl_no, kl.mono x1, h6.2⟩
theorem de_make {j : Nat} (c : ClsAt X.K X.mg x C fs) (F : InAt X.prog X.w X.K X.mg X.base CX0 j C n g) (hr : Room k X.A) (hg : Gl X x) (ha : DA X E (e :: es) ga) (hjk : j + 1 ≤ k := by decide) (hdb : (x == ("__debug__" : Str)) = false := by decide)
    (he : starEach (e :: es) X.env = (false, eval e X.env) :: starEach es X.env := by rfl) (hpl : (backTo pos (starEach es X.env)).any (·.1) = false := by rfl) : DE X E (.Call (.Name x p) (e :: es) [] pos) (gMake C n g ga) := by
  obtain ⟨f, fd, ps, h1, h2, h3⟩ := F.ex
  refine pe_imp (pe_make h2 h1 (hr.mono hjk) hg c.mgC h3 .nil pass0 ha hdb he hpl) ?_
  rintro σ H Q ⟨G, S, ρ, w, kx, k, hr, sr, xl, kl, h⟩
  refine ⟨G, S, ρ, w, kx, _, hr, sr, xl, fun G1 S1 H1 w1 as vs x1 hr1 ra h1 => fun a dx na nd ne => ?_, h⟩
  obtain ⟨r2, x2⟩ := hr1.newS nd (.own a)
  have na2 : (upd H1 dx (.own a)) a = none := by rw [upd_ne ne.symm]; exact na
  obtain ⟨r3, x3⟩ := r2.newC na2 (.ins C dx []) (.ins C []) ⟨r2.freshS na2, dx, [], upd_same, .nil⟩
  have x23 := x2.trans x3
  have ea : (G1.al ++ [a])[w1.M.length]? = some a := by
    rw [List.getElem?_append_right (by rw [hr1.len]; exact Nat.le_refl _), hr1.len, Nat.sub_self]
    rfl
  show upF n X.K g (.ref a :: (vs ++ [])) _ _ E0
  rw [List.append_nil]
  refine ⟨_, _, _, _, noX, _, h1.1, r3, .cons (.rf ea) (ra.mono x23), xl_no, fun G4 S4 H4 w4 d v x4 hr4 rv h4 => ?_, h1.2⟩
  obtain ⟨rfl, h4⟩ := h4
  cases rv
  exact ⟨rfl, kl _ _ _ _ _ _ (x1.trans (x23.trans x4)) hr4 (.rf (x4.alGet ea)) h4⟩
end
end DL

namespace LW
open PySem PySem.Spec PyProof.Rows L2 RZ DL
def topS (i : Nat) : Stmt := PySem.Challenge.pw_royaltree_k09_what_waits.main.body.getD i (.Pass ⟨0, 0, 0, 0⟩)

/-! ### fractions -/
theorem fmod_nat (x m : Nat) : (x : Int).fmod (m : Int) = ((x % m : Nat) : Int) := by
  rw [Int.fmod_eq_emod_of_nonneg _ (by omega)]
  rfl
/-- the divisor with below's sign -/
def sg (t b : Int) : Int := if b < 0 then -(Int.gcd t b : Int) else (Int.gcd t b : Int)
def frT (t b : Int) : Int := t / sg t b
def frB (t b : Int) : Int := b / sg t b
structure IsFr (t b p q : Int) : Prop where
  pos : 0 < q
  cop : Int.gcd p q = 1
  eq : p * b = t * q
theorem gcd_pos {t b : Int} (h : b ≠ 0) : 0 < Int.gcd t b := Int.gcd_pos_of_ne_zero_right t h
theorem sg_dvd (t b : Int) : sg t b ∣ t ∧ sg t b ∣ b := by
  unfold sg
  split
  · exact ⟨Int.neg_dvd.mpr (Int.gcd_dvd_left t b), Int.neg_dvd.mpr (Int.gcd_dvd_right t b)⟩
  · exact ⟨Int.gcd_dvd_left t b, Int.gcd_dvd_right t b⟩
theorem sg_ne {t b : Int} (h : b ≠ 0) : sg t b ≠ 0 := by
  have := gcd_pos (t := t) h
  unfold sg
  split <;> omega
theorem fr_mul (t b : Int) : frT t b * sg t b = t ∧ frB t b * sg t b = b := ⟨Int.ediv_mul_cancel (sg_dvd t b).1, Int.ediv_mul_cancel (sg_dvd t b).2⟩
theorem fr_is {t b : Int} (h : b ≠ 0) : IsFr t b (frT t b) (frB t b) := by
  obtain ⟨e1, e2⟩ := fr_mul t b
  have g0 := gcd_pos (t := t) h
  have ns := sg_ne (t := t) h
  refine ⟨?_, ?_, ?_⟩
  · by_cases hb : b < 0
    · have hs : sg t b < 0 := by
        unfold sg
        rw [if_pos hb]
        omega
      refine Int.pos_of_mul_neg_right ?_ hs |> fun z => z
      rw [Int.mul_comm, e2]
      exact hb
    · have hs : 0 < sg t b := by
        unfold sg
        rw [if_neg hb]
        omega
      refine Int.pos_of_mul_pos_right ?_ hs |> fun z => z
      rw [Int.mul_comm, e2]
      omega
  · have e : Int.gcd t b = Int.gcd (frT t b) (frB t b) * (sg t b).natAbs := by
      have q : Int.gcd (frT t b * sg t b) (frB t b * sg t b) = Int.gcd (frT t b) (frB t b) * (sg t b).natAbs := Int.gcd_mul_right _ _ _
      rw [e1, e2] at q
      exact q
    have e3 : (sg t b).natAbs = Int.gcd t b := by
      unfold sg
      split <;> omega
    rw [e3] at e
    have : Int.gcd (frT t b) (frB t b) * Int.gcd t b = 1 * Int.gcd t b := by omega
    exact Nat.eq_of_mul_eq_mul_right g0 this
  · have : frT t b * b * sg t b = t * frB t b * sg t b := by
      calc frT t b * b * sg t b = (frT t b * sg t b) * b := by ac_rfl
        _ = t * b := by rw [e1]
        _ = t * (frB t b * sg t b) := by rw [e2]
        _ = t * frB t b * sg t b := by ac_rfl
    exact Int.eq_of_mul_eq_mul_right ns this
theorem dvd_cop {q p r : Int} (h : q ∣ p * r) (c : Int.gcd q p = 1) : q ∣ r := by
  have h1 : q.natAbs ∣ p.natAbs * r.natAbs := by
    rw [← Int.natAbs_mul]
    exact Int.natAbs_dvd_natAbs.mpr h
  have c1 : Nat.Coprime q.natAbs p.natAbs := c
  exact Int.natAbs_dvd_natAbs.mp (c1.dvd_of_dvd_mul_left h1)
theorem fr_unique {t b p q p' q' : Int} (hb : b ≠ 0) (h : IsFr t b p q) (h' : IsFr t b p' q') : p = p' ∧ q = q' := by
  have c : p * q' = p' * q := by
    have : p * q' * b = p' * q * b := by
      calc p * q' * b = (p * b) * q' := by ac_rfl
        _ = t * q * q' := by rw [h.eq]
        _ = (t * q') * q := by ac_rfl
        _ = (p' * b) * q := by rw [h'.eq]
        _ = p' * q * b := by ac_rfl
    exact Int.eq_of_mul_eq_mul_right hb this
  have d1 : q ∣ q' := by
    have : q ∣ p * q' := ⟨p', by rw [c, Int.mul_comm]⟩
    exact dvd_cop this (by rw [Int.gcd_comm]; exact h.cop)
  have d2 : q' ∣ q := by
    have : q' ∣ p' * q := ⟨p, by rw [← c, Int.mul_comm]⟩
    exact dvd_cop this (by rw [Int.gcd_comm]; exact h'.cop)
  have e : q = q' := Int.dvd_antisymm (Int.le_of_lt h.pos) (Int.le_of_lt h'.pos) d1 d2
  refine ⟨?_, e⟩
  subst e
  have := h.pos
  exact Int.eq_of_mul_eq_mul_right (by omega) c
theorem fr_eq {t b p q : Int} (hb : b ≠ 0) (h : IsFr t b p q) : frT t b = p ∧ frB t b = q := fr_unique hb (fr_is hb) h
theorem IsFr.self {p q : Int} (h1 : 0 < q) (h2 : Int.gcd p q = 1) : IsFr p q p q := ⟨h1, h2, rfl⟩
theorem fr_le {t b : Int} (hb : b ≠ 0) : (frT t b).natAbs ≤ t.natAbs ∧ (frB t b).natAbs ≤ b.natAbs := by
  obtain ⟨e1, e2⟩ := fr_mul t b
  have ns := sg_ne (t := t) hb
  have h1 : 1 ≤ (sg t b).natAbs := by omega
  have f1 := congrArg Int.natAbs e1
  have f2 := congrArg Int.natAbs e2
  rw [Int.natAbs_mul] at f1 f2
  constructor
  · calc (frT t b).natAbs = (frT t b).natAbs * 1 := by omega
      _ ≤ (frT t b).natAbs * (sg t b).natAbs := Nat.mul_le_mul_left _ h1
      _ = t.natAbs := f1
  · calc (frB t b).natAbs = (frB t b).natAbs * 1 := by omega
      _ ≤ (frB t b).natAbs * (sg t b).natAbs := Nat.mul_le_mul_left _ h1
      _ = b.natAbs := f2
theorem sg_abs (t b : Int) : (sg t b).natAbs = Int.gcd t b := by
  unfold sg
  split <;> omega
theorem gcd_le {t b : Int} (hb : b ≠ 0) : Int.gcd t b ≤ b.natAbs := Nat.le_of_dvd (by omega) (Int.natAbs_dvd_natAbs.mpr (Int.gcd_dvd_right t b) |> fun z => by simpa using z)
theorem log_ok {n : Nat} (h : n < 2 ^ 4000) : n.log2 < 9000 := Nat.lt_trans (PySem.Flt.log2_lt_of (by decide) h) (by decide)
theorem fdiv_dvd {t s : Int} (h : s ∣ t) : t.fdiv s = t / s := Int.fdiv_eq_ediv_of_dvd h

def sp__law_take : GF := gTake
def sp__law_begin : GF := gBegin
abbrev s__law_begin : Stmt := topS 14
theorem sc__law_begin : FnScope ["_law_script", "_law_cells"] ["_law_script"] (defScope s__law_begin) := ⟨rfl, rfl, rfl, by decide +kernel, rfl, by decide +kernel, by decide +kernel⟩

theorem ok__law_begin {P : Program} {w : World} {K : PySem.W.Frag} {mg : Str → Option Value} {base : Heap} (T : DefAt K mg "_law_begin" s__law_begin ["_law_script"]) (B : Blt mg) : FnAt P w K mg base CX0 1 "_law_begin" 1 gBegin := by
  have nd := sc__law_begin.nd
  refine T.mk0 fun f fd F => F.ok sc__law_begin (fun vs H Q E h => ?_) (fun cdv A outer s H vs Q E hr h => ?_)
  · obtain ⟨G, S, ds, w, kx, k, h1, h2, h3, _⟩ := h
    rw [h3.length, h1]
    rfl
  · obtain ⟨G, S, ds, w, kx, k, h1, h2, h3, h4, h5, ns, rfl, hn, hk⟩ := h
    obtain ⟨v, rfl, r⟩ := one_rep h3
    cases r with
    | scr hS =>
      rename_i a
      have hS1 := h2.same.seq hS
      refine ⟨_, pss_cons (ps_set (i := 1) nd rfl (by first | exact Or.inl rfl | exact Or.inr rfl) (pe_callTy call_list_of (by rfl) B.list_ (by decide +kernel) (pa_cons (pe_slice sl_list (pv 0) po_none (po_some pe_int)) pa_nil)))
        (pss_cons (ps_if (pt_cmpR (op_eqD hr.units) (pv 1) (pe_lst pa_nil) (nomark _)) (pss_one (ps_set (i := 1) nd rfl (by first | exact Or.inl rfl | exact Or.inr rfl) (pe_lst (pa_cons pe_int pa_nil)))) pss_nil)
        (pss_one (ps_ret (pe_disp (pps_cons pe_str (pv 1) (pps_cons pe_str pe_int pps_nil)) (by rfl) (by rfl) (by intro z; cases z) (by decide))))), ?_⟩
      -- list(script[:63])
      refine ⟨.ref a, rfl, 63, rfl, a, ns.map V.int, rfl, hS1, fun c1 n1 => ?_⟩
      refine ⟨c1, _, rfl, .inl (.inl (.inl upd_same)), fun c n2 => ?_⟩
      have cv : cutV (ns.map V.int) none (some 63) = (ns.take 63).map V.int := by
        unfold cutV
        rw [HT.sIx_none, show (some (63 : Int)) = some ((63 : Nat) : Int) from rfl, HT.sIx_nat, List.drop_zero, List.map_take, List.length_map, Nat.sub_zero]
        rcases Nat.le_total 63 ns.length with hle | hle
        · rw [Nat.min_eq_left hle]
        · rw [Nat.min_eq_right hle, List.take_of_length_le (by rw [List.length_map]; exact Nat.le_refl _), List.take_of_length_le (by rw [List.length_map]; exact hle)]
      rw [cv] at n2 ⊢
      have hlen : (ns.take 63).length ≤ 63 := by
        rw [List.length_take]
        exact Nat.min_le_left _ _
      clear cv
      generalize ns.take 63 = l at n2 hlen ⊢
      have nc1 : H c1 = none := n1
      have nc : (upd H c1 (.lst (l.map V.int))) c = none := n2
      have nc0 : H c = none := by
        rw [upd_ne] at nc
        · exact nc
        · intro z
          rw [z, upd_same] at nc
          cases nc
      -- the same heap but the copies
      have fin : ∀ (H3 : Hp) (c : Addr) (cells : List Int), Same H H3 → H c = none → H3 c = some (.lst (cells.map V.int)) → cells ≠ [] → cells.length ≤ 63 → HR K G S w H3 →
          (tRet (tDisp [(tC (.str "cells"), tVar 1), (tC (.str "turn"), tC (.int 0))])) { nx := fun _ H' => Q .non H', rt := Q } [some (.ref a), some (.ref c)] H3 := by
        intro H3 c cells sm hc0 hc3 hne hl63 hr3 p hp
        refine ⟨.ref c, rfl, upd_same, [(.inr "cells", .ref c), (.inr "turn", .int 0)], rfl, (by show 2 ≤ 15; decide), ?_⟩
        have em : mergeK [] [((Sum.inr ("cells" : Str) : Key), V.ref c), ((Sum.inr ("turn" : Str) : Key), V.int 0)] = stKv c 0 := by
          show putK (putK [] (Sum.inr ("cells" : Str) : Key) (V.ref c)) (Sum.inr ("turn" : Str) : Key) (V.int 0) = stKv c 0
          rw [putK_new (V.ref c) (valV_nil), List.nil_append, putK_new (V.int 0) (by rw [valV_neg key_ne, valV_nil])]
          rfl
        have ncp : c ≠ p := ne_of_none hc3 hp
        have e1 : upd (upd H3 p (.dK [])) p (.dK (mergeK [] [((Sum.inr ("cells" : Str) : Key), V.ref c), ((Sum.inr ("turn" : Str) : Key), V.int 0)])) = upd H3 p (.dK (stKv c 0)) := by
          rw [upd_upd, em]
        show Q (.ref p) (upd (upd H3 p (.dK [])) p (.dK (mergeK [] [((Sum.inr ("cells" : Str) : Key), V.ref c), ((Sum.inr ("turn" : Str) : Key), V.int 0)])))
        rw [e1]
        have hr4 := (hr3.push (o := .dK (stKv c 0)) hp).1
        -- out of the frame again
        have hr5 : HR K G S w (upd H3 p (.dK (stKv c 0))) := ⟨hr4.same, hr4.len, hr4.nod, fun i b cc e1 e2 => by
            have q := hr3.cell i b cc e1 e2
            exact q.mono (Ext.refl _ _) (upd_ne (fun z => hr3.freshAl hp (z ▸ List.mem_of_getElem? e1))) q.sNone, ⟨hr4.st.1, fun b cc e => by
            obtain ⟨y1, y2, y3, y4, y5, y6, y7⟩ := hr4.st.2 b cc e
            exact ⟨y1, y2, y3, y4, y5, fun q hq => y6 q (List.mem_cons_of_mem _ hq), y7⟩⟩, fun q hq => by
            obtain ⟨y1, y2, y3⟩ := hr3.fr q hq
            exact ⟨y1, y2, by rw [upd_ne (hr3.freshFr hp q hq)]; exact y3⟩⟩
        obtain ⟨hr6, x6⟩ := hr5.made hn (c := c) (a := p) (cells := cells) (by rw [upd_ne ncp]; exact hc3) ⟨h2.freshS hc0, h2.freshAl hc0, h2.freshFr hc0⟩ upd_same ⟨hr3.freshS hp, hr3.freshAl hp, hr3.freshFr hp⟩ ncp.symm hne hl63
        exact h5 _ _ _ _ _ _ x6 hr6 (.st rfl) hk
      have hrN : ∀ {H3 : Hp} {p : Addr} {o : HO}, HR K G S w H3 → H3 p = none → HR K G S w (upd H3 p o) := fun {H3 p o} hr3 hp => by
        have hr4 := (hr3.push (o := o) hp).1
        exact ⟨hr4.same, hr4.len, hr4.nod, fun i b cc e1 e2 => by
            have q := hr3.cell i b cc e1 e2
            exact q.mono (Ext.refl _ _) (upd_ne (fun z => hr3.freshAl hp (z ▸ List.mem_of_getElem? e1))) q.sNone, ⟨hr4.st.1, fun b cc e => by
            obtain ⟨y1, y2, y3, y4, y5, y6, y7⟩ := hr4.st.2 b cc e
            exact ⟨y1, y2, y3, y4, y5, fun q hq => y6 q (List.mem_cons_of_mem _ hq), y7⟩⟩, fun q hq => by
            obtain ⟨y1, y2, y3⟩ := hr3.fr q hq
            exact ⟨y1, y2, by rw [upd_ne (hr3.freshFr hp q hq)]; exact y3⟩⟩
      have hr1 := hrN (o := .lst (l.map V.int)) h2 nc1
      have hr2 := hrN (o := .lst (l.map V.int)) hr1 nc
      have sm1 : Same H (upd (upd H c1 (.lst (l.map V.int))) c (.lst (l.map V.int))) := fun b o e => by
        rw [upd_ne (ne_of_none e nc0), upd_ne (ne_of_none e nc1)]
        exact e
      have dp : ∀ (l : List Int) (H3 : Hp) (b : Addr), H3 b = some (.lst (l.map V.int)) → Dp K H3 (.ref b) (.list (l.map PyData.int)) := fun l H3 b e => by
        refine .lst (.inl (.inl e)) ?_
        clear e
        induction l with
        | nil => exact .nil
        | cons x r ih => exact .cons (.int x) ih
      -- cells == []
      refine ⟨.ref c, rfl, Nat.zero_le _, fun e n3 => ?_⟩
      have nce : c ≠ e := fun z => by
        have q := n3
        rw [← z, upd_same] at q
        cases q
      have hc3 : (upd (upd (upd H c1 (.lst (l.map V.int))) c (.lst (l.map V.int))) e (.lst [])) c = some (.lst (l.map V.int)) := by
        rw [upd_ne nce, upd_same]
      have hr3 := hrN (o := .lst []) hr2 n3
      have sm2 : Same H (upd (upd (upd H c1 (.lst (l.map V.int))) c (.lst (l.map V.int))) e (.lst [])) := fun b o eb => by
        rw [upd_ne (ne_of_none (sm1 b o eb) n3)]
        exact sm1 b o eb
      refine ⟨_, _, dp l _ c hc3, dp [] _ e upd_same, ?_, rfl, _, rfl, ?_⟩
      · exact shaped_ints _
      · cases l with
        | nil =>
          refine iteT ⟨by decide, fun d n4 => ?_⟩
          refine fin _ d [7] (fun b o eb => ?_) ?_ upd_same (by intro z; cases z) (by decide) (hrN hr3 n4)
          · rw [upd_ne (ne_of_none (sm2 b o eb) n4)]
            exact sm2 b o eb
          · cases q : H d with
            | none => rfl
            | some o =>
              have := sm2 d o q
              rw [n4] at this
              cases this
        | cons x r =>
          exact iteF (fin _ c (x :: r) sm2 nc0 hc3 (by intro z; cases z) hlen hr3)

abbrev s__law_take : Stmt := topS 15
theorem sc__law_take : FnScope ["_law_state", "_law_many", "_law_turn", "_law_place", "_law_cell", "_law_digit", "_law_mixed"] ["_law_state", "_law_many"] (defScope s__law_take) := ⟨rfl, rfl, rfl, by decide +kernel, rfl, by decide +kernel, by decide +kernel⟩

theorem ok__law_take {P : Program} {w : World} {K : PySem.W.Frag} {mg : Str → Option Value} {base : Heap} (T : DefAt K mg "_law_take" s__law_take ["_law_state", "_law_many"]) (B : Blt mg) : FnAt P w K mg base CX0 1 "_law_take" 2 gTake := by
  have nd := sc__law_take.nd
  refine T.mk0 fun f fd F => F.ok sc__law_take (fun vs H Q E h => ?_) (fun cdv A outer s H vs Q E hr h => ?_)
  · obtain ⟨G, S, ds, w, kx, k, h1, h2, h3, _⟩ := h
    rw [h3.length, h1]
    rfl
  · obtain ⟨G, S, ds, w, kx, k, h1, h2, h3, h4, h5, m, n, rfl, ⟨hm0, hm9⟩, hn, hk⟩ := h
    obtain ⟨v, u, rfl, r1, r2⟩ := two_rep h3
    cases r2
    cases r1 with
    | st hst =>
      rename_i a c
      obtain ⟨z1, z2, z3, z4, z5, z6, cells, turn, ha, hc, hne, hl63, ht0, htn⟩ := h2.st.2 a c hst
      rw [hn] at htn
      have htn' : turn + ((n + 1 : Nat) : Int) ≤ 1000000000 := htn
      have hu := hu_of hr
      have ha' : H a = some (.dK (stKv c turn)) := ha
      refine ⟨_, pss_cons (ps_set (i := 2) nd rfl (by first | exact Or.inl rfl | exact Or.inr rfl) (pe_op op_add (pe_dget hu (pv 0) pe_str (fun _ _ => rfl)) pe_int))
        (pss_cons (ps_dput hu (pv 0) pe_str (pv 2) (by rfl))
        (pss_cons (ps_set (i := 3) nd rfl (by first | exact Or.inl rfl | exact Or.inr rfl) (pe_op op_mod (pv 2) (pe_callB call_len_seq (by rfl) B.len_ PySem.boot_len (pa_cons (pe_dget hu (pv 0) pe_str (fun _ _ => rfl)) pa_nil))))
        (pss_cons (ps_set (i := 4) nd rfl (by first | exact Or.inl rfl | exact Or.inr rfl) (pe_ix ix_list (pe_dget hu (pv 0) pe_str (fun _ _ => rfl)) (pv 3) (fun _ _ => rfl)))
        (pss_cons (ps_if (pt_cmpR op_ge (pv 4) (pe_op op_pow pe_int pe_int) (nomark _))
          (pss_cons (ps_asg (pe_callB call_divmodW (by rfl) B.divmod_ (by decide +kernel) (pa_cons (pv 4) (pa_cons (pv 1) pa_nil))) (pg_tup rfl (pgs_cons (pg_sub (pe_dget hu (pv 0) pe_str (fun _ _ => rfl)) (pv 3) set_list) (pgs_cons (pg_name (i := 5) nd rfl (by first | exact Or.inl rfl | exact Or.inr rfl)) pgs_nil))))
            (pss_one (ps_ret (pv 5)))) pss_nil)
        (pss_cons (ps_set (i := 6) nd rfl (by first | exact Or.inl rfl | exact Or.inr rfl) (pe_op op_mod (pe_op op_mulX (pe_op op_add (pe_op op_add (pe_op op_mod (pv 4) pe_int) (pe_op op_mulX (pe_op op_mulX (pv 2) (pv 2)) pe_int)) pe_int) pe_int) pe_int))
        (pss_cons (ps_set (i := 6) nd rfl (by first | exact Or.inl rfl | exact Or.inr rfl) (pe_op op_mod (pe_op op_mulX (pv 6) (pv 6)) pe_int))
        (pss_one (ps_ret (pe_op op_mod (pe_op op_fdiv (pe_op op_mod (pe_op op_mulX (pe_op op_add (pv 6) (pe_op op_mulX (pv 2) pe_int)) pe_int) pe_int) pe_int) (pv 1)))))))))), ?_⟩
      have gT : DGet H a (.str "turn") (some (.int turn)) := by
        have q := DGet.k (k := .inr "turn") ha'
        rw [st_turn] at q
        exact q
      -- turn = state['turn'] + 1; state['turn'] = turn
      refine ⟨.ref a, rfl, a, .int turn, rfl, gT, turn, 1, rfl, rfl, ?_⟩
      refine ⟨.int (turn + 1), rfl, .ref a, rfl, a, _, rfl, DPut.k (k := .inr "turn") ha' (by show 2 < sizeLine; decide), ?_⟩
      rw [st_put]
      have hr1 : HR K G S ⟨w.M, some n⟩ (upd H a (.dK (stKv c (turn + 1)))) := h2.drawn hst (fun b b1 _ => upd_ne b1) upd_same (by rw [upd_ne (Ne.symm z3)]; exact hc) hne hl63 (by omega) (by omega)
      have ea1 : (upd H a (.dK (stKv c (turn + 1)))) a = some (.dK (stKv c (turn + 1))) := upd_same
      have ec1 : (upd H a (.dK (stKv c (turn + 1)))) c = some (.lst (cells.map V.int)) := by
        rw [upd_ne (Ne.symm z3)]
        exact hc
      generalize upd H a (.dK (stKv c (turn + 1))) = H1 at hr1 ea1 ec1
      have gC : ∀ {H2 : Hp}, H2 a = some (.dK (stKv c (turn + 1))) → DGet H2 a (.str "cells") (some (.ref c)) := fun {H2} e => by
        have q := DGet.k (k := .inr "cells") e
        rw [st_cells] at q
        exact q
      have hlc : 0 < cells.length := List.length_pos_iff.mpr hne
      -- place = turn % len(state['cells'])
      refine ⟨.int (turn + 1), rfl, .ref a, rfl, a, _, rfl, gC ea1, c, _, rfl, .inl (.inl (.inl ec1)), turn + 1, _, rfl, rfl, by rw [List.length_map]; omega, ?_⟩
      rw [List.length_map]
      obtain ⟨j, hj, hjl⟩ : ∃ j : Nat, (turn + 1) % (cells.length : Int) = (j : Int) ∧ j < cells.length := by
        have p1 := Int.emod_nonneg (turn + 1) (b := (cells.length : Int)) (by omega)
        have p2 := Int.emod_lt_of_pos (turn + 1) (b := (cells.length : Int)) (by omega)
        exact ⟨((turn + 1) % (cells.length : Int)).toNat, by omega, by omega⟩
      dsimp only
      rw [hj]
      have hcj : (cells.map V.int)[j]? = some (.int cells[j]) := by
        rw [List.getElem?_map, List.getElem?_eq_getElem hjl]
        rfl
      generalize hcell : cells[j] = cell at hcj
      -- cell = state['cells'][place]
      refine ⟨.ref a, rfl, a, _, rfl, gC ea1, .int (j : Int), rfl, c, _, (j : Int), _, rfl, rfl, .inl (.inl ec1), atI_nat hcj, ?_⟩
      refine ⟨.int cell, rfl, 10, 18, rfl, rfl, ⟨by decide, by decide, by decide⟩, cell, _, rfl, rfl, _, rfl, ite2 (fun _ => ?_) (fun _ => ?_)⟩
      · -- a digit
        refine ⟨.int cell, rfl, .int m, rfl, cell, m, rfl, ⟨hm0, PyProof.noPylong_of_log2 hm9⟩, fun p hp => ?_⟩
        obtain ⟨hr2, x2⟩ := hr1.newS hp (.tup [.int (cell / m), .int (cell % m)])
        have nap : a ≠ p := ne_of_none ea1 hp
        have ncp : c ≠ p := ne_of_none ec1 hp
        have ea2 : (upd H1 p (.tup [.int (cell / m), .int (cell % m)])) a = some (.dK (stKv c (turn + 1))) := by
          rw [upd_ne nap]
          exact ea1
        have ec2 : (upd H1 p (.tup [.int (cell / m), .int (cell % m)])) c = some (.lst (cells.map V.int)) := by
          rw [upd_ne ncp]
          exact ec1
        have ep2 : (upd H1 p (.tup [.int (cell / m), .int (cell % m)])) p = some (.tup [.int (cell / m), .int (cell % m)]) := upd_same
        refine ⟨p, [.int (cell / m), .int (cell % m)], rfl, .inl (.inl upd_same), rfl, ?_⟩
        generalize upd H1 p (.tup [.int (cell / m), .int (cell % m)]) = H2 at hr2 ea2 ec2 ep2
        refine ⟨_, _, rfl, .ref a, rfl, a, _, rfl, gC ea2, .int (j : Int), rfl, c, _, (j : Int), j, rfl, rfl, ec2, ?_, ?_⟩
        · show L2.ixN _ (j : Int) = some j
          unfold L2.ixN
          rw [if_pos (by omega), if_pos (by rw [List.length_map]; omega)]
          rfl
        refine ⟨_, _, rfl, rfl, .int (cell % m), rfl, ?_⟩
        have es : (cells.map V.int).set j (.int (cell / m)) = (cells.set j (cell / m)).map V.int := by rw [List.map_set]
        have hst2 : (⟨G.al, G.st, G.fr⟩ : Gh).st = some (a, c) := hst
        have hr3 : HR K G (upd S p (.tup [.int (cell / m), .int (cell % m)])) ⟨w.M, some n⟩ (upd H2 c (.lst ((cells.set j (cell / m)).map V.int))) :=
          hr2.drawn hst (fun b _ b2 => upd_ne b2) (by rw [upd_ne z3]; exact ea2) upd_same (by intro z; have := congrArg List.length z; rw [List.length_set] at this; simp at this; exact hne this) (by rw [List.length_set]; exact hl63) (by omega) (by omega)
        rw [es]
        exact h5 _ _ _ _ _ _ x2 hr3 (.int _) (hk _ (Int.emod_nonneg _ (by omega)) (Int.emod_lt_of_pos _ hm0))
      · have a0 := Int.emod_nonneg cell (b := 2147483629) (by decide)
        have a1 := Int.emod_lt_of_pos cell (b := 2147483629) (by decide)
        have t1 : (turn + 1).natAbs < 2 ^ 30 := by omega
        have t2 : ((turn + 1) * (turn + 1)).natAbs < 2 ^ 60 := wide_lt (a := 30) (b := 30) t1 t1
        have t3 : ((turn + 1) * (turn + 1) * 7919).natAbs < 2 ^ 73 := wide_lt (a := 60) (b := 13) t2 (by decide)
        refine ⟨.int cell, rfl, cell, 2147483629, rfl, rfl, (by show (0 : Int) < 2147483629; decide), .int (turn + 1), rfl, .int (turn + 1), rfl, turn + 1, turn + 1, rfl, rfl, mulx_ok t1 t1 (by decide), _, 7919, rfl, rfl, mulx_ok (a := 60) (b := 13) t2 (by decide) (by decide), _, _, rfl, rfl, _, 11, rfl, rfl, _, 48271, rfl, rfl, mulx_ok (a := 75) (b := 16) ?_ (by decide) (by decide), _, 2147483647, rfl, rfl, (by show (0 : Int) < 2147483647; decide), ?_⟩
        · generalize cell % 2147483629 = A at a0 a1 ⊢
          generalize (turn + 1) * (turn + 1) * 7919 = B at t3 ⊢
          omega
        dsimp only
        have b0 := Int.emod_nonneg ((cell % 2147483629 + (turn + 1) * (turn + 1) * 7919 + 11) * 48271) (b := 2147483647) (by decide)
        have b1 := Int.emod_lt_of_pos ((cell % 2147483629 + (turn + 1) * (turn + 1) * 7919 + 11) * 48271) (b := 2147483647) (by decide)
        generalize (cell % 2147483629 + (turn + 1) * (turn + 1) * 7919 + 11) * 48271 % 2147483647 = M1 at b0 b1 ⊢
        refine ⟨.int M1, rfl, .int M1, rfl, M1, M1, rfl, rfl, mulx_ok (a := 32) (b := 32) (by omega) (by omega) (by decide), _, 2147483587, rfl, rfl, (by show (0 : Int) < 2147483587; decide), ?_⟩
        dsimp only
        have c0 := Int.emod_nonneg (M1 * M1) (b := 2147483587) (by decide)
        have c1 := Int.emod_lt_of_pos (M1 * M1) (b := 2147483587) (by decide)
        generalize M1 * M1 % 2147483587 = M2 at c0 c1 ⊢
        refine ⟨.int M2, rfl, .int (turn + 1), rfl, turn + 1, 104729, rfl, rfl, mulx_ok (b := 17) t1 (by decide) (by decide), M2, _, rfl, rfl, _, 39373, rfl, rfl, mulx_ok (a := 64) (b := 16) (by omega) (by decide) (by decide), _, 2147483629, rfl, rfl, (by show (0 : Int) < 2147483629; decide), _, 64, rfl, rfl, ⟨by decide, by decide⟩, .int m, rfl, _, m, rfl, rfl, hm0, ?_⟩
        exact h5 _ _ _ _ _ _ (Ext.refl _ _) hr1 (.int _) (hk _ (Int.emod_nonneg _ (by omega)) (Int.emod_lt_of_pos _ hm0))

/-- the found one may be a list that changes -/
def sp__law_same : GF := fun ds w kx k => gSame 6 ds w kx k ∨ ∃ (i : Nat) (xs ys : List D), ds = [.rf i, .lst ys] ∧ w.M[i]? = some (.lst xs) ∧ (okFs xs = true ∧ DL.plains ys = true ∧ dep (.lst ys) ≤ 5 ∧ wid (.lst xs) = true ∧ wid (.lst ys) = true) ∧ ∀ c : Bool, (c = true ↔ xs = ys) → k (.bl c) w
abbrev s__law_same : Stmt := topS 16
theorem sc__law_same : FnScope ["_law_found", "_law_due", "_law_one", "_law_other"] ["_law_found", "_law_due"] (defScope s__law_same) := ⟨rfl, rfl, rfl, by decide +kernel, rfl, by decide +kernel, by decide +kernel⟩
def g__law_same (sp_rec : GF) : GS := (gSeq (gIfS (gB (gBin isD (gVar 1) (gC .non))) (gRet (gBin isD (gVar 0) (gC .non))) gNext)
  (gSeq (gIfS (gOr (gTru (gCB fIsi (gaCons (gVar 1) (gaCons (gC (.ob (.ty "list"))) gaNil)))) (gTru (gCB fIsi (gaCons (gVar 1) (gaCons (gC (.ob (.ty "tuple"))) gaNil))))) (gSeq (gIfS (gB (gBin neD (gCB fIsi (gaCons (gVar 0) (gaCons (gC (.ob (.ty "list"))) gaNil))) (gCB fIsi (gaCons (gVar 1) (gaCons (gC (.ob (.ty "list"))) gaNil))))) (gRet (gC (.bl false))) gNext)
  (gSeq (gIfS (gOr (gB (gBin neD (gCB fIsi (gaCons (gVar 0) (gaCons (gC (.ob (.ty "tuple"))) gaNil))) (gCB fIsi (gaCons (gVar 1) (gaCons (gC (.ob (.ty "tuple"))) gaNil))))) (gB (gBin neD (gCB fLen (gaCons (gVar 0) gaNil)) (gCB fLen (gaCons (gVar 1) gaNil))))) (gRet (gC (.bl false))) gNext)
  (gRet (gCB fAll (gaCons (gLc (giZip (gaCons (gVar 0) (gaCons (gVar 1) gaNil))) (ggTup 2 (ggCons (ggName 2) (ggCons (ggName 3) ggNil))) gYes (gCall0 2 sp_rec (gaCons (gVar 2) (gaCons (gVar 3) gaNil))) [2, 3]) gaNil))))) gNext)
  (gSeq (gIfS (gTru (gCB fIsi (gaCons (gVar 1) (gaCons (gC (.ob (.ty "str"))) gaNil)))) (gRet (gAndV (gCB fIsi (gaCons (gVar 0) (gaCons (gC (.ob (.ty "str"))) gaNil))) (gBin eqD (gVar 0) (gVar 1)))) gNext)
  (gRet (gAndV (gCB fIsi (gaCons (gVar 0) (gaCons (gC (.ob (.ty "int"))) gaNil))) (gAndV (gNotV (gCB fIsi (gaCons (gVar 0) (gaCons (gC (.ob (.ty "bool"))) gaNil)))) (gBin eqD (gVar 0) (gVar 1))))))))
theorem w__law_same {P : Program} {w : World} {K : PySem.W.Frag} {mg : Str → Option Value} {base : Heap} (T : DefAt K mg "_law_same" s__law_same ["_law_found", "_law_due"]) (B : Blt mg) {j : Nat} {sp_rec : GF} (F_rec : FnAt P w K mg base CX0 j "_law_same" 2 sp_rec) : FnAt P w K mg base CX0 (j + 1) "_law_same" 2 (sem0 4 (g__law_same sp_rec)) := by
  have nd := sc__law_same.nd
  exact T.fn0 sc__law_same (fun f cdv A outer s H E hr => (dss_cons (ds_if (dt_is (de_var 1) de_non) (dss_one (ds_ret (de_is (de_var 0) de_non))) dss_nil)
  (dss_cons (ds_if (dt_w (dw_or (dt_truth (de_isi B (by rfl) (da_cons (de_var 1) (da_cons (de_type (by rfl) B.list_ (by decide +kernel)) da_nil)))) (dw_or1 (dt_truth (de_isi B (by rfl) (da_cons (de_var 1) (da_cons (de_type (by rfl) B.tuple_ (by decide +kernel)) da_nil))))))) (dss_cons (ds_if (dt_ne hr (de_isi B (by rfl) (da_cons (de_var 0) (da_cons (de_type (by rfl) B.list_ (by decide +kernel)) da_nil))) (de_isi B (by rfl) (da_cons (de_var 1) (da_cons (de_type (by rfl) B.list_ (by decide +kernel)) da_nil)))) (dss_one (ds_ret de_bl)) dss_nil)
  (dss_cons (ds_if (dt_w (dw_or (dt_ne hr (de_isi B (by rfl) (da_cons (de_var 0) (da_cons (de_type (by rfl) B.tuple_ (by decide +kernel)) da_nil))) (de_isi B (by rfl) (da_cons (de_var 1) (da_cons (de_type (by rfl) B.tuple_ (by decide +kernel)) da_nil)))) (dw_or1 (dt_ne hr (de_len B (by rfl) (da_cons (de_var 0) da_nil)) (de_len B (by rfl) (da_cons (de_var 1) da_nil)))))) (dss_one (ds_ret de_bl)) dss_nil)
  (dss_one (ds_ret (de_all B rfl (by rfl) (da_cons (de_lc (own := [("_law_one", 2), ("_law_other", 3)]) (us := [2, 3]) rfl nd (di_zip B (by rfl) (da_cons (de_var 0) (da_cons (de_var 1) da_nil))) (blkOk_by (N := ["_law_found", "_law_due", "_law_one", "_law_other"]) (sc := defScope s__law_same) (by decide +kernel)) (by decide) (fun _ _ _ _ _ => (dg_tup rfl (dgs_cons (dg_name (i := 2) nd rfl (by first | exact Or.inl rfl | exact Or.inr rfl)) (dgs_cons (dg_name (i := 3) nd rfl (by first | exact Or.inl rfl | exact Or.inr rfl)) dgs_nil)))) (fun _ _ _ _ _ => dts_nil) (fun _ _ _ _ _ => (de_call0 F_rec hr (by rfl) (da_cons (de_var 2) (da_cons (de_var 3) da_nil)) (hjk := Nat.le_refl _)))) da_nil)))))) dss_nil)
  (dss_cons (ds_if (dt_truth (de_isi B (by rfl) (da_cons (de_var 1) (da_cons (de_type (by rfl) B.str_ (by decide +kernel)) da_nil)))) (dss_one (ds_ret (de_and (de_isi B (by rfl) (da_cons (de_var 0) (da_cons (de_type (by rfl) B.str_ (by decide +kernel)) da_nil))) (de_one (de_eq hr (de_var 0) (de_var 1)))))) dss_nil)
  (dss_one (ds_ret (de_and (de_isi B (by rfl) (da_cons (de_var 0) (da_cons (de_type (by rfl) B.int_ (by decide +kernel)) da_nil))) (de_and (de_not (de_isi B (by rfl) (da_cons (de_var 0) (da_cons (de_type (by rfl) B.bool_ (by decide +kernel)) da_nil)))) (de_one (de_eq hr (de_var 0) (de_var 1)))))))))))

theorem v__law_same (j : Nat) : ∀ ds w kx k, gSame (j + 1) ds w kx k → sem0 4 (g__law_same (gSame j)) ds w kx k := by
  rintro ds w kx k ⟨a, b, rfl, ⟨ha, hb, hd, wa, wb⟩, hk⟩
  have e : rho 4 [a, b] = [some a, some b, none, none] := rfl
  simp only [g__law_same, e, sem0, List.map_cons, List.map_nil, List.length_cons, List.length_nil, gSeq, gNext, gRet, gRetN, gIfS, gSet, gPar, gAsg, gDrop, gVar, gC, gBin, gUn, gB, gTru, gAnd, gOr, gNot, gAndV, gOrV, gNotV, gIf, gChain, gaNil, gaCons, DL.gTup, gLst, gCB, gCall0, gAug, addD_i, addD_s, addD_l, addD_t, subD_i, mulD_i, mulD_l, fdivD_i, modD_i, powD_i, ltD_i, ltD_s, leD_i, gtD_i, geD_i, isD_n, isnotD_n, isNonD_non, isNonD_bl, isNonD_int, isNonD_str, isNonD_lst, isNonD_tup, negD_i, iaddD_i, truD_non, truD_bl, truD_int, truD_str, truD_lst, truD_tup, someK_some, ixD_l, ixD_t, fAbs_i, fInt_i, fInt_b, fMin2_i, fLen_l, fLen_t, fLen_s, fList_l, fList_t, fTuple_l, fTuple_t, optBK_some, fIsi_non, fIsi_bl, fIsi_int, fIsi_str, fIsi_lst, fIsi_tup, List.getElem?_cons_zero, List.getElem?_cons_succ, List.set_cons_zero, List.set_cons_succ, DL.ggName, ggNil0, ggCons1, ggTup2, ggTup3, gFor, giSeq, gLc, gYes, wipeR, true_and, and_true, at_0, at_1, at_2, kit_int_int, kit_bool_int, kit_str_int, kit_non_int, kit_list_int, kit_tuple_int, kit_int_bool, kit_bool_bool, kit_str_bool, kit_non_bool, kit_list_bool, kit_tuple_bool, kit_int_str, kit_bool_str, kit_str_str, kit_non_str, kit_list_str, kit_tuple_str, kit_int_list, kit_bool_list, kit_str_list, kit_non_list, kit_list_list, kit_tuple_list, kit_int_tuple, kit_bool_tuple, kit_str_tuple, kit_non_tuple, kit_list_tuple, kit_tuple_tuple, eqD_i, neD_i, eqD_s, neD_s, eqD_f, neD_f, Nat.zero_add, Nat.reduceAdd, nc0, nc1, nc2, nc3, nc4, nc5, nc6, nc7, nc8, nc9, eq_self, decide_true, decide_false, Int.reduceEq, Int.reduceLT, Int.reduceLE, Int.reduceNeg, Bool.not_true, Bool.not_false, Bool.false_eq_true, if_true, if_false, ↓reduceIte, false_and, and_false, List.all_cons, List.all_nil, List.any_cons, List.any_nil, id_eq, Bool.and_true, Bool.true_and, Bool.or_false, Bool.false_or, Bool.and_false, Bool.false_and, gCut, eqD_b, neD_b, giZip, reduceCtorEq, Bool.true_eq_false, Bool.false_eq_true, gRevL, gSl, goNone, goSome, slD_l, ne_eq, not_false_eq_true, not_true_eq_false, gBM, isTy_l, isTy_s, new_at, new_set, isTy_new, cellK_new, append_new, popAt_new, gFrz_eq, frzK_new, fLen_new, fTuple_new, ixD_new, slA_l, slA_t, slA_new, addTD_t, addCD_l, mulCD_l, isbD_b, isnotbD_b, mSplitC_s, gLstC, gTr, ggSub, lstK_l, lstK_r, addLD_eq]
  have hT : ∀ {w' : Wd}, w' = w → a = b → k (.bl true) w' := fun hw h => hw ▸ hk true (by simp [h])
  have hF : ∀ {w' : Wd}, w' = w → a ≠ b → k (.bl false) w' := fun hw h => hw ▸ hk false (by simp [h])
  cases b with
  | non =>
    simp only [sem0, List.map_cons, List.map_nil, List.length_cons, List.length_nil, gSeq, gNext, gRet, gRetN, gIfS, gSet, gPar, gAsg, gDrop, gVar, gC, gBin, gUn, gB, gTru, gAnd, gOr, gNot, gAndV, gOrV, gNotV, gIf, gChain, gaNil, gaCons, DL.gTup, gLst, gCB, gCall0, gAug, addD_i, addD_s, addD_l, addD_t, subD_i, mulD_i, mulD_l, fdivD_i, modD_i, powD_i, ltD_i, ltD_s, leD_i, gtD_i, geD_i, isD_n, isnotD_n, isNonD_non, isNonD_bl, isNonD_int, isNonD_str, isNonD_lst, isNonD_tup, negD_i, iaddD_i, truD_non, truD_bl, truD_int, truD_str, truD_lst, truD_tup, someK_some, ixD_l, ixD_t, fAbs_i, fInt_i, fInt_b, fMin2_i, fLen_l, fLen_t, fLen_s, fList_l, fList_t, fTuple_l, fTuple_t, optBK_some, fIsi_non, fIsi_bl, fIsi_int, fIsi_str, fIsi_lst, fIsi_tup, List.getElem?_cons_zero, List.getElem?_cons_succ, List.set_cons_zero, List.set_cons_succ, DL.ggName, ggNil0, ggCons1, ggTup2, ggTup3, gFor, giSeq, gLc, gYes, wipeR, true_and, and_true, at_0, at_1, at_2, kit_int_int, kit_bool_int, kit_str_int, kit_non_int, kit_list_int, kit_tuple_int, kit_int_bool, kit_bool_bool, kit_str_bool, kit_non_bool, kit_list_bool, kit_tuple_bool, kit_int_str, kit_bool_str, kit_str_str, kit_non_str, kit_list_str, kit_tuple_str, kit_int_list, kit_bool_list, kit_str_list, kit_non_list, kit_list_list, kit_tuple_list, kit_int_tuple, kit_bool_tuple, kit_str_tuple, kit_non_tuple, kit_list_tuple, kit_tuple_tuple, eqD_i, neD_i, eqD_s, neD_s, eqD_f, neD_f, Nat.zero_add, Nat.reduceAdd, nc0, nc1, nc2, nc3, nc4, nc5, nc6, nc7, nc8, nc9, eq_self, decide_true, decide_false, Int.reduceEq, Int.reduceLT, Int.reduceLE, Int.reduceNeg, Bool.not_true, Bool.not_false, Bool.false_eq_true, if_true, if_false, ↓reduceIte, false_and, and_false, List.all_cons, List.all_nil, List.any_cons, List.any_nil, id_eq, Bool.and_true, Bool.true_and, Bool.or_false, Bool.false_or, Bool.and_false, Bool.false_and, gCut, eqD_b, neD_b, giZip, reduceCtorEq, Bool.true_eq_false, Bool.false_eq_true, gRevL, gSl, goNone, goSome, slD_l, ne_eq, not_false_eq_true, not_true_eq_false, gBM, isTy_l, isTy_s, new_at, new_set, isTy_new, cellK_new, append_new, popAt_new, gFrz_eq, frzK_new, fLen_new, fTuple_new, ixD_new, slA_l, slA_t, slA_new, addTD_t, addCD_l, mulCD_l, isbD_b, isnotbD_b, mSplitC_s, gLstC, gTr, ggSub, lstK_l, lstK_r, addLD_eq]
    cases a <;> first | exact hT rfl rfl | exact hF rfl (by simp) | simp [okF] at ha
  | bl q => simp [DL.plain] at hb
  | rf q => simp [DL.plain] at hb
  | st => simp [DL.plain] at hb
  | ob q => simp [DL.plain] at hb
  | scr q => simp [DL.plain] at hb
  | int i =>
    simp only [sem0, List.map_cons, List.map_nil, List.length_cons, List.length_nil, gSeq, gNext, gRet, gRetN, gIfS, gSet, gPar, gAsg, gDrop, gVar, gC, gBin, gUn, gB, gTru, gAnd, gOr, gNot, gAndV, gOrV, gNotV, gIf, gChain, gaNil, gaCons, DL.gTup, gLst, gCB, gCall0, gAug, addD_i, addD_s, addD_l, addD_t, subD_i, mulD_i, mulD_l, fdivD_i, modD_i, powD_i, ltD_i, ltD_s, leD_i, gtD_i, geD_i, isD_n, isnotD_n, isNonD_non, isNonD_bl, isNonD_int, isNonD_str, isNonD_lst, isNonD_tup, negD_i, iaddD_i, truD_non, truD_bl, truD_int, truD_str, truD_lst, truD_tup, someK_some, ixD_l, ixD_t, fAbs_i, fInt_i, fInt_b, fMin2_i, fLen_l, fLen_t, fLen_s, fList_l, fList_t, fTuple_l, fTuple_t, optBK_some, fIsi_non, fIsi_bl, fIsi_int, fIsi_str, fIsi_lst, fIsi_tup, List.getElem?_cons_zero, List.getElem?_cons_succ, List.set_cons_zero, List.set_cons_succ, DL.ggName, ggNil0, ggCons1, ggTup2, ggTup3, gFor, giSeq, gLc, gYes, wipeR, true_and, and_true, at_0, at_1, at_2, kit_int_int, kit_bool_int, kit_str_int, kit_non_int, kit_list_int, kit_tuple_int, kit_int_bool, kit_bool_bool, kit_str_bool, kit_non_bool, kit_list_bool, kit_tuple_bool, kit_int_str, kit_bool_str, kit_str_str, kit_non_str, kit_list_str, kit_tuple_str, kit_int_list, kit_bool_list, kit_str_list, kit_non_list, kit_list_list, kit_tuple_list, kit_int_tuple, kit_bool_tuple, kit_str_tuple, kit_non_tuple, kit_list_tuple, kit_tuple_tuple, eqD_i, neD_i, eqD_s, neD_s, eqD_f, neD_f, Nat.zero_add, Nat.reduceAdd, nc0, nc1, nc2, nc3, nc4, nc5, nc6, nc7, nc8, nc9, eq_self, decide_true, decide_false, Int.reduceEq, Int.reduceLT, Int.reduceLE, Int.reduceNeg, Bool.not_true, Bool.not_false, Bool.false_eq_true, if_true, if_false, ↓reduceIte, false_and, and_false, List.all_cons, List.all_nil, List.any_cons, List.any_nil, id_eq, Bool.and_true, Bool.true_and, Bool.or_false, Bool.false_or, Bool.and_false, Bool.false_and, gCut, eqD_b, neD_b, giZip, reduceCtorEq, Bool.true_eq_false, Bool.false_eq_true, gRevL, gSl, goNone, goSome, slD_l, ne_eq, not_false_eq_true, not_true_eq_false, gBM, isTy_l, isTy_s, new_at, new_set, isTy_new, cellK_new, append_new, popAt_new, gFrz_eq, frzK_new, fLen_new, fTuple_new, ixD_new, slA_l, slA_t, slA_new, addTD_t, addCD_l, mulCD_l, isbD_b, isnotbD_b, mSplitC_s, gLstC, gTr, ggSub, lstK_l, lstK_r, addLD_eq]
    cases a <;> (first | (exfalso; simp [okF] at ha; done) | simp only [sem0, List.map_cons, List.map_nil, List.length_cons, List.length_nil, gSeq, gNext, gRet, gRetN, gIfS, gSet, gPar, gAsg, gDrop, gVar, gC, gBin, gUn, gB, gTru, gAnd, gOr, gNot, gAndV, gOrV, gNotV, gIf, gChain, gaNil, gaCons, DL.gTup, gLst, gCB, gCall0, gAug, addD_i, addD_s, addD_l, addD_t, subD_i, mulD_i, mulD_l, fdivD_i, modD_i, powD_i, ltD_i, ltD_s, leD_i, gtD_i, geD_i, isD_n, isnotD_n, isNonD_non, isNonD_bl, isNonD_int, isNonD_str, isNonD_lst, isNonD_tup, negD_i, iaddD_i, truD_non, truD_bl, truD_int, truD_str, truD_lst, truD_tup, someK_some, ixD_l, ixD_t, fAbs_i, fInt_i, fInt_b, fMin2_i, fLen_l, fLen_t, fLen_s, fList_l, fList_t, fTuple_l, fTuple_t, optBK_some, fIsi_non, fIsi_bl, fIsi_int, fIsi_str, fIsi_lst, fIsi_tup, List.getElem?_cons_zero, List.getElem?_cons_succ, List.set_cons_zero, List.set_cons_succ, DL.ggName, ggNil0, ggCons1, ggTup2, ggTup3, gFor, giSeq, gLc, gYes, wipeR, true_and, and_true, at_0, at_1, at_2, kit_int_int, kit_bool_int, kit_str_int, kit_non_int, kit_list_int, kit_tuple_int, kit_int_bool, kit_bool_bool, kit_str_bool, kit_non_bool, kit_list_bool, kit_tuple_bool, kit_int_str, kit_bool_str, kit_str_str, kit_non_str, kit_list_str, kit_tuple_str, kit_int_list, kit_bool_list, kit_str_list, kit_non_list, kit_list_list, kit_tuple_list, kit_int_tuple, kit_bool_tuple, kit_str_tuple, kit_non_tuple, kit_list_tuple, kit_tuple_tuple, eqD_i, neD_i, eqD_s, neD_s, eqD_f, neD_f, Nat.zero_add, Nat.reduceAdd, nc0, nc1, nc2, nc3, nc4, nc5, nc6, nc7, nc8, nc9, eq_self, decide_true, decide_false, Int.reduceEq, Int.reduceLT, Int.reduceLE, Int.reduceNeg, Bool.not_true, Bool.not_false, Bool.false_eq_true, if_true, if_false, ↓reduceIte, false_and, and_false, List.all_cons, List.all_nil, List.any_cons, List.any_nil, id_eq, Bool.and_true, Bool.true_and, Bool.or_false, Bool.false_or, Bool.and_false, Bool.false_and, gCut, eqD_b, neD_b, giZip, reduceCtorEq, Bool.true_eq_false, Bool.false_eq_true, gRevL, gSl, goNone, goSome, slD_l, ne_eq, not_false_eq_true, not_true_eq_false, gBM, isTy_l, isTy_s, new_at, new_set, isTy_new, cellK_new, append_new, popAt_new, gFrz_eq, frzK_new, fLen_new, fTuple_new, ixD_new, slA_l, slA_t, slA_new, addTD_t, addCD_l, mulCD_l, isbD_b, isnotbD_b, mSplitC_s, gLstC, gTr, ggSub, lstK_l, lstK_r, addLD_eq]) <;> first
      | exact hF rfl (by simp)
      | (rename_i i'
         by_cases h : i' = i
         · rw [decide_eq_true h]
           exact hT rfl (by rw [h])
         · rw [decide_eq_false h]
           exact hF rfl (by simpa using h))
      | simp [okF] at ha
  | str i =>
    simp only [sem0, List.map_cons, List.map_nil, List.length_cons, List.length_nil, gSeq, gNext, gRet, gRetN, gIfS, gSet, gPar, gAsg, gDrop, gVar, gC, gBin, gUn, gB, gTru, gAnd, gOr, gNot, gAndV, gOrV, gNotV, gIf, gChain, gaNil, gaCons, DL.gTup, gLst, gCB, gCall0, gAug, addD_i, addD_s, addD_l, addD_t, subD_i, mulD_i, mulD_l, fdivD_i, modD_i, powD_i, ltD_i, ltD_s, leD_i, gtD_i, geD_i, isD_n, isnotD_n, isNonD_non, isNonD_bl, isNonD_int, isNonD_str, isNonD_lst, isNonD_tup, negD_i, iaddD_i, truD_non, truD_bl, truD_int, truD_str, truD_lst, truD_tup, someK_some, ixD_l, ixD_t, fAbs_i, fInt_i, fInt_b, fMin2_i, fLen_l, fLen_t, fLen_s, fList_l, fList_t, fTuple_l, fTuple_t, optBK_some, fIsi_non, fIsi_bl, fIsi_int, fIsi_str, fIsi_lst, fIsi_tup, List.getElem?_cons_zero, List.getElem?_cons_succ, List.set_cons_zero, List.set_cons_succ, DL.ggName, ggNil0, ggCons1, ggTup2, ggTup3, gFor, giSeq, gLc, gYes, wipeR, true_and, and_true, at_0, at_1, at_2, kit_int_int, kit_bool_int, kit_str_int, kit_non_int, kit_list_int, kit_tuple_int, kit_int_bool, kit_bool_bool, kit_str_bool, kit_non_bool, kit_list_bool, kit_tuple_bool, kit_int_str, kit_bool_str, kit_str_str, kit_non_str, kit_list_str, kit_tuple_str, kit_int_list, kit_bool_list, kit_str_list, kit_non_list, kit_list_list, kit_tuple_list, kit_int_tuple, kit_bool_tuple, kit_str_tuple, kit_non_tuple, kit_list_tuple, kit_tuple_tuple, eqD_i, neD_i, eqD_s, neD_s, eqD_f, neD_f, Nat.zero_add, Nat.reduceAdd, nc0, nc1, nc2, nc3, nc4, nc5, nc6, nc7, nc8, nc9, eq_self, decide_true, decide_false, Int.reduceEq, Int.reduceLT, Int.reduceLE, Int.reduceNeg, Bool.not_true, Bool.not_false, Bool.false_eq_true, if_true, if_false, ↓reduceIte, false_and, and_false, List.all_cons, List.all_nil, List.any_cons, List.any_nil, id_eq, Bool.and_true, Bool.true_and, Bool.or_false, Bool.false_or, Bool.and_false, Bool.false_and, gCut, eqD_b, neD_b, giZip, reduceCtorEq, Bool.true_eq_false, Bool.false_eq_true, gRevL, gSl, goNone, goSome, slD_l, ne_eq, not_false_eq_true, not_true_eq_false, gBM, isTy_l, isTy_s, new_at, new_set, isTy_new, cellK_new, append_new, popAt_new, gFrz_eq, frzK_new, fLen_new, fTuple_new, ixD_new, slA_l, slA_t, slA_new, addTD_t, addCD_l, mulCD_l, isbD_b, isnotbD_b, mSplitC_s, gLstC, gTr, ggSub, lstK_l, lstK_r, addLD_eq]
    cases a <;> (first | (exfalso; simp [okF] at ha; done) | simp only [sem0, List.map_cons, List.map_nil, List.length_cons, List.length_nil, gSeq, gNext, gRet, gRetN, gIfS, gSet, gPar, gAsg, gDrop, gVar, gC, gBin, gUn, gB, gTru, gAnd, gOr, gNot, gAndV, gOrV, gNotV, gIf, gChain, gaNil, gaCons, DL.gTup, gLst, gCB, gCall0, gAug, addD_i, addD_s, addD_l, addD_t, subD_i, mulD_i, mulD_l, fdivD_i, modD_i, powD_i, ltD_i, ltD_s, leD_i, gtD_i, geD_i, isD_n, isnotD_n, isNonD_non, isNonD_bl, isNonD_int, isNonD_str, isNonD_lst, isNonD_tup, negD_i, iaddD_i, truD_non, truD_bl, truD_int, truD_str, truD_lst, truD_tup, someK_some, ixD_l, ixD_t, fAbs_i, fInt_i, fInt_b, fMin2_i, fLen_l, fLen_t, fLen_s, fList_l, fList_t, fTuple_l, fTuple_t, optBK_some, fIsi_non, fIsi_bl, fIsi_int, fIsi_str, fIsi_lst, fIsi_tup, List.getElem?_cons_zero, List.getElem?_cons_succ, List.set_cons_zero, List.set_cons_succ, DL.ggName, ggNil0, ggCons1, ggTup2, ggTup3, gFor, giSeq, gLc, gYes, wipeR, true_and, and_true, at_0, at_1, at_2, kit_int_int, kit_bool_int, kit_str_int, kit_non_int, kit_list_int, kit_tuple_int, kit_int_bool, kit_bool_bool, kit_str_bool, kit_non_bool, kit_list_bool, kit_tuple_bool, kit_int_str, kit_bool_str, kit_str_str, kit_non_str, kit_list_str, kit_tuple_str, kit_int_list, kit_bool_list, kit_str_list, kit_non_list, kit_list_list, kit_tuple_list, kit_int_tuple, kit_bool_tuple, kit_str_tuple, kit_non_tuple, kit_list_tuple, kit_tuple_tuple, eqD_i, neD_i, eqD_s, neD_s, eqD_f, neD_f, Nat.zero_add, Nat.reduceAdd, nc0, nc1, nc2, nc3, nc4, nc5, nc6, nc7, nc8, nc9, eq_self, decide_true, decide_false, Int.reduceEq, Int.reduceLT, Int.reduceLE, Int.reduceNeg, Bool.not_true, Bool.not_false, Bool.false_eq_true, if_true, if_false, ↓reduceIte, false_and, and_false, List.all_cons, List.all_nil, List.any_cons, List.any_nil, id_eq, Bool.and_true, Bool.true_and, Bool.or_false, Bool.false_or, Bool.and_false, Bool.false_and, gCut, eqD_b, neD_b, giZip, reduceCtorEq, Bool.true_eq_false, Bool.false_eq_true, gRevL, gSl, goNone, goSome, slD_l, ne_eq, not_false_eq_true, not_true_eq_false, gBM, isTy_l, isTy_s, new_at, new_set, isTy_new, cellK_new, append_new, popAt_new, gFrz_eq, frzK_new, fLen_new, fTuple_new, ixD_new, slA_l, slA_t, slA_new, addTD_t, addCD_l, mulCD_l, isbD_b, isnotbD_b, mSplitC_s, gLstC, gTr, ggSub, lstK_l, lstK_r, addLD_eq]) <;> first
      | exact hF rfl (by simp)
      | (rename_i i'
         by_cases h : i' = i
         · rw [decide_eq_true h]
           exact hT rfl (by rw [h])
         · rw [decide_eq_false h]
           exact hF rfl (by simpa using h))
      | simp [okF] at ha
  | lst ys =>
    simp only [sem0, List.map_cons, List.map_nil, List.length_cons, List.length_nil, gSeq, gNext, gRet, gRetN, gIfS, gSet, gPar, gAsg, gDrop, gVar, gC, gBin, gUn, gB, gTru, gAnd, gOr, gNot, gAndV, gOrV, gNotV, gIf, gChain, gaNil, gaCons, DL.gTup, gLst, gCB, gCall0, gAug, addD_i, addD_s, addD_l, addD_t, subD_i, mulD_i, mulD_l, fdivD_i, modD_i, powD_i, ltD_i, ltD_s, leD_i, gtD_i, geD_i, isD_n, isnotD_n, isNonD_non, isNonD_bl, isNonD_int, isNonD_str, isNonD_lst, isNonD_tup, negD_i, iaddD_i, truD_non, truD_bl, truD_int, truD_str, truD_lst, truD_tup, someK_some, ixD_l, ixD_t, fAbs_i, fInt_i, fInt_b, fMin2_i, fLen_l, fLen_t, fLen_s, fList_l, fList_t, fTuple_l, fTuple_t, optBK_some, fIsi_non, fIsi_bl, fIsi_int, fIsi_str, fIsi_lst, fIsi_tup, List.getElem?_cons_zero, List.getElem?_cons_succ, List.set_cons_zero, List.set_cons_succ, DL.ggName, ggNil0, ggCons1, ggTup2, ggTup3, gFor, giSeq, gLc, gYes, wipeR, true_and, and_true, at_0, at_1, at_2, kit_int_int, kit_bool_int, kit_str_int, kit_non_int, kit_list_int, kit_tuple_int, kit_int_bool, kit_bool_bool, kit_str_bool, kit_non_bool, kit_list_bool, kit_tuple_bool, kit_int_str, kit_bool_str, kit_str_str, kit_non_str, kit_list_str, kit_tuple_str, kit_int_list, kit_bool_list, kit_str_list, kit_non_list, kit_list_list, kit_tuple_list, kit_int_tuple, kit_bool_tuple, kit_str_tuple, kit_non_tuple, kit_list_tuple, kit_tuple_tuple, eqD_i, neD_i, eqD_s, neD_s, eqD_f, neD_f, Nat.zero_add, Nat.reduceAdd, nc0, nc1, nc2, nc3, nc4, nc5, nc6, nc7, nc8, nc9, eq_self, decide_true, decide_false, Int.reduceEq, Int.reduceLT, Int.reduceLE, Int.reduceNeg, Bool.not_true, Bool.not_false, Bool.false_eq_true, if_true, if_false, ↓reduceIte, false_and, and_false, List.all_cons, List.all_nil, List.any_cons, List.any_nil, id_eq, Bool.and_true, Bool.true_and, Bool.or_false, Bool.false_or, Bool.and_false, Bool.false_and, gCut, eqD_b, neD_b, giZip, reduceCtorEq, Bool.true_eq_false, Bool.false_eq_true, gRevL, gSl, goNone, goSome, slD_l, ne_eq, not_false_eq_true, not_true_eq_false, gBM, isTy_l, isTy_s, new_at, new_set, isTy_new, cellK_new, append_new, popAt_new, gFrz_eq, frzK_new, fLen_new, fTuple_new, ixD_new, slA_l, slA_t, slA_new, addTD_t, addCD_l, mulCD_l, isbD_b, isnotbD_b, mSplitC_s, gLstC, gTr, ggSub, lstK_l, lstK_r, addLD_eq]
    cases a <;> (first | (exfalso; simp [okF] at ha; done) | simp only [sem0, List.map_cons, List.map_nil, List.length_cons, List.length_nil, gSeq, gNext, gRet, gRetN, gIfS, gSet, gPar, gAsg, gDrop, gVar, gC, gBin, gUn, gB, gTru, gAnd, gOr, gNot, gAndV, gOrV, gNotV, gIf, gChain, gaNil, gaCons, DL.gTup, gLst, gCB, gCall0, gAug, addD_i, addD_s, addD_l, addD_t, subD_i, mulD_i, mulD_l, fdivD_i, modD_i, powD_i, ltD_i, ltD_s, leD_i, gtD_i, geD_i, isD_n, isnotD_n, isNonD_non, isNonD_bl, isNonD_int, isNonD_str, isNonD_lst, isNonD_tup, negD_i, iaddD_i, truD_non, truD_bl, truD_int, truD_str, truD_lst, truD_tup, someK_some, ixD_l, ixD_t, fAbs_i, fInt_i, fInt_b, fMin2_i, fLen_l, fLen_t, fLen_s, fList_l, fList_t, fTuple_l, fTuple_t, optBK_some, fIsi_non, fIsi_bl, fIsi_int, fIsi_str, fIsi_lst, fIsi_tup, List.getElem?_cons_zero, List.getElem?_cons_succ, List.set_cons_zero, List.set_cons_succ, DL.ggName, ggNil0, ggCons1, ggTup2, ggTup3, gFor, giSeq, gLc, gYes, wipeR, true_and, and_true, at_0, at_1, at_2, kit_int_int, kit_bool_int, kit_str_int, kit_non_int, kit_list_int, kit_tuple_int, kit_int_bool, kit_bool_bool, kit_str_bool, kit_non_bool, kit_list_bool, kit_tuple_bool, kit_int_str, kit_bool_str, kit_str_str, kit_non_str, kit_list_str, kit_tuple_str, kit_int_list, kit_bool_list, kit_str_list, kit_non_list, kit_list_list, kit_tuple_list, kit_int_tuple, kit_bool_tuple, kit_str_tuple, kit_non_tuple, kit_list_tuple, kit_tuple_tuple, eqD_i, neD_i, eqD_s, neD_s, eqD_f, neD_f, Nat.zero_add, Nat.reduceAdd, nc0, nc1, nc2, nc3, nc4, nc5, nc6, nc7, nc8, nc9, eq_self, decide_true, decide_false, Int.reduceEq, Int.reduceLT, Int.reduceLE, Int.reduceNeg, Bool.not_true, Bool.not_false, Bool.false_eq_true, if_true, if_false, ↓reduceIte, false_and, and_false, List.all_cons, List.all_nil, List.any_cons, List.any_nil, id_eq, Bool.and_true, Bool.true_and, Bool.or_false, Bool.false_or, Bool.and_false, Bool.false_and, gCut, eqD_b, neD_b, giZip, reduceCtorEq, Bool.true_eq_false, Bool.false_eq_true, gRevL, gSl, goNone, goSome, slD_l, ne_eq, not_false_eq_true, not_true_eq_false, gBM, isTy_l, isTy_s, new_at, new_set, isTy_new, cellK_new, append_new, popAt_new, gFrz_eq, frzK_new, fLen_new, fTuple_new, ixD_new, slA_l, slA_t, slA_new, addTD_t, addCD_l, mulCD_l, isbD_b, isnotbD_b, mSplitC_s, gLstC, gTr, ggSub, lstK_l, lstK_r, addLD_eq]) <;> first
      | exact hF rfl (by simp)
      | skip
    rename_i xs
    by_cases hl : xs.length = ys.length
    · rw [decide_eq_true (show ((xs.length : Nat) : Int) = ys.length by rw [hl])]
      simp only [sem0, List.map_cons, List.map_nil, List.length_cons, List.length_nil, gSeq, gNext, gRet, gRetN, gIfS, gSet, gPar, gAsg, gDrop, gVar, gC, gBin, gUn, gB, gTru, gAnd, gOr, gNot, gAndV, gOrV, gNotV, gIf, gChain, gaNil, gaCons, DL.gTup, gLst, gCB, gCall0, gAug, addD_i, addD_s, addD_l, addD_t, subD_i, mulD_i, mulD_l, fdivD_i, modD_i, powD_i, ltD_i, ltD_s, leD_i, gtD_i, geD_i, isD_n, isnotD_n, isNonD_non, isNonD_bl, isNonD_int, isNonD_str, isNonD_lst, isNonD_tup, negD_i, iaddD_i, truD_non, truD_bl, truD_int, truD_str, truD_lst, truD_tup, someK_some, ixD_l, ixD_t, fAbs_i, fInt_i, fInt_b, fMin2_i, fLen_l, fLen_t, fLen_s, fList_l, fList_t, fTuple_l, fTuple_t, optBK_some, fIsi_non, fIsi_bl, fIsi_int, fIsi_str, fIsi_lst, fIsi_tup, List.getElem?_cons_zero, List.getElem?_cons_succ, List.set_cons_zero, List.set_cons_succ, DL.ggName, ggNil0, ggCons1, ggTup2, ggTup3, gFor, giSeq, gLc, gYes, wipeR, true_and, and_true, at_0, at_1, at_2, kit_int_int, kit_bool_int, kit_str_int, kit_non_int, kit_list_int, kit_tuple_int, kit_int_bool, kit_bool_bool, kit_str_bool, kit_non_bool, kit_list_bool, kit_tuple_bool, kit_int_str, kit_bool_str, kit_str_str, kit_non_str, kit_list_str, kit_tuple_str, kit_int_list, kit_bool_list, kit_str_list, kit_non_list, kit_list_list, kit_tuple_list, kit_int_tuple, kit_bool_tuple, kit_str_tuple, kit_non_tuple, kit_list_tuple, kit_tuple_tuple, eqD_i, neD_i, eqD_s, neD_s, eqD_f, neD_f, Nat.zero_add, Nat.reduceAdd, nc0, nc1, nc2, nc3, nc4, nc5, nc6, nc7, nc8, nc9, eq_self, decide_true, decide_false, Int.reduceEq, Int.reduceLT, Int.reduceLE, Int.reduceNeg, Bool.not_true, Bool.not_false, Bool.false_eq_true, if_true, if_false, ↓reduceIte, false_and, and_false, List.all_cons, List.all_nil, List.any_cons, List.any_nil, id_eq, Bool.and_true, Bool.true_and, Bool.or_false, Bool.false_or, Bool.and_false, Bool.false_and, gCut, eqD_b, neD_b, giZip, reduceCtorEq, Bool.true_eq_false, Bool.false_eq_true, gRevL, gSl, goNone, goSome, slD_l, ne_eq, not_false_eq_true, not_true_eq_false, gBM, isTy_l, isTy_s, new_at, new_set, isTy_new, cellK_new, append_new, popAt_new, gFrz_eq, frzK_new, fLen_new, fTuple_new, ixD_new, slA_l, slA_t, slA_new, addTD_t, addCD_l, mulCD_l, isbD_b, isnotbD_b, mSplitC_s, gLstC, gTr, ggSub, lstK_l, lstK_r, addLD_eq]
      unfold okF at ha
      unfold DL.plain at hb
      unfold dep at hd
      unfold wid at wa wb
      rw [Bool.and_eq_true] at wa wb
      refine lc_rel (fun p y => ∃ c a b, p = D.tup [a, b] ∧ y = D.bl c ∧ (c = true ↔ a = b)) trivial ?_ (fun p hp k' hk' => ?_) (fun cs hcs => ?_)
      · unfold zipD
        rw [List.length_zipWith]
        have := of_decide_eq_true wa.1
        omega
      · obtain ⟨i, hi⟩ := List.getElem?_of_mem hp
        obtain ⟨x, y, h1, h2, rfl⟩ := DL.zip_get hi
        have mx := List.mem_of_getElem? h1
        have my := List.mem_of_getElem? h2
        simp only [sem0, List.map_cons, List.map_nil, List.length_cons, List.length_nil, gSeq, gNext, gRet, gRetN, gIfS, gSet, gPar, gAsg, gDrop, gVar, gC, gBin, gUn, gB, gTru, gAnd, gOr, gNot, gAndV, gOrV, gNotV, gIf, gChain, gaNil, gaCons, DL.gTup, gLst, gCB, gCall0, gAug, addD_i, addD_s, addD_l, addD_t, subD_i, mulD_i, mulD_l, fdivD_i, modD_i, powD_i, ltD_i, ltD_s, leD_i, gtD_i, geD_i, isD_n, isnotD_n, isNonD_non, isNonD_bl, isNonD_int, isNonD_str, isNonD_lst, isNonD_tup, negD_i, iaddD_i, truD_non, truD_bl, truD_int, truD_str, truD_lst, truD_tup, someK_some, ixD_l, ixD_t, fAbs_i, fInt_i, fInt_b, fMin2_i, fLen_l, fLen_t, fLen_s, fList_l, fList_t, fTuple_l, fTuple_t, optBK_some, fIsi_non, fIsi_bl, fIsi_int, fIsi_str, fIsi_lst, fIsi_tup, List.getElem?_cons_zero, List.getElem?_cons_succ, List.set_cons_zero, List.set_cons_succ, DL.ggName, ggNil0, ggCons1, ggTup2, ggTup3, gFor, giSeq, gLc, gYes, wipeR, true_and, and_true, at_0, at_1, at_2, kit_int_int, kit_bool_int, kit_str_int, kit_non_int, kit_list_int, kit_tuple_int, kit_int_bool, kit_bool_bool, kit_str_bool, kit_non_bool, kit_list_bool, kit_tuple_bool, kit_int_str, kit_bool_str, kit_str_str, kit_non_str, kit_list_str, kit_tuple_str, kit_int_list, kit_bool_list, kit_str_list, kit_non_list, kit_list_list, kit_tuple_list, kit_int_tuple, kit_bool_tuple, kit_str_tuple, kit_non_tuple, kit_list_tuple, kit_tuple_tuple, eqD_i, neD_i, eqD_s, neD_s, eqD_f, neD_f, Nat.zero_add, Nat.reduceAdd, nc0, nc1, nc2, nc3, nc4, nc5, nc6, nc7, nc8, nc9, eq_self, decide_true, decide_false, Int.reduceEq, Int.reduceLT, Int.reduceLE, Int.reduceNeg, Bool.not_true, Bool.not_false, Bool.false_eq_true, if_true, if_false, ↓reduceIte, false_and, and_false, List.all_cons, List.all_nil, List.any_cons, List.any_nil, id_eq, Bool.and_true, Bool.true_and, Bool.or_false, Bool.false_or, Bool.and_false, Bool.false_and, gCut, eqD_b, neD_b, giZip, reduceCtorEq, Bool.true_eq_false, Bool.false_eq_true, gRevL, gSl, goNone, goSome, slD_l, ne_eq, not_false_eq_true, not_true_eq_false, gBM, isTy_l, isTy_s, new_at, new_set, isTy_new, cellK_new, append_new, popAt_new, gFrz_eq, frzK_new, fLen_new, fTuple_new, ixD_new, slA_l, slA_t, slA_new, addTD_t, addCD_l, mulCD_l, isbD_b, isnotbD_b, mSplitC_s, gLstC, gTr, ggSub, lstK_l, lstK_r, addLD_eq]
        cases j with
        | zero => omega
        | succ j =>
          refine ⟨x, y, rfl, ⟨okFs_mem ha mx, plains_mem hb my, ?_, wids_mem wa.2 mx, wids_mem wb.2 my⟩, fun c hc => hk' _ ⟨c, x, y, rfl, rfl, hc⟩⟩
          have := deps_mem my
          omega
      · obtain ⟨bs, rfl, hbs⟩ := zip_pairs hl hcs
        rw [fAll_m]
        exact hk _ (by rw [hbs]; simp)
    · rw [decide_eq_false (show ¬ ((xs.length : Nat) : Int) = ys.length by omega)]
      simp only [sem0, List.map_cons, List.map_nil, List.length_cons, List.length_nil, gSeq, gNext, gRet, gRetN, gIfS, gSet, gPar, gAsg, gDrop, gVar, gC, gBin, gUn, gB, gTru, gAnd, gOr, gNot, gAndV, gOrV, gNotV, gIf, gChain, gaNil, gaCons, DL.gTup, gLst, gCB, gCall0, gAug, addD_i, addD_s, addD_l, addD_t, subD_i, mulD_i, mulD_l, fdivD_i, modD_i, powD_i, ltD_i, ltD_s, leD_i, gtD_i, geD_i, isD_n, isnotD_n, isNonD_non, isNonD_bl, isNonD_int, isNonD_str, isNonD_lst, isNonD_tup, negD_i, iaddD_i, truD_non, truD_bl, truD_int, truD_str, truD_lst, truD_tup, someK_some, ixD_l, ixD_t, fAbs_i, fInt_i, fInt_b, fMin2_i, fLen_l, fLen_t, fLen_s, fList_l, fList_t, fTuple_l, fTuple_t, optBK_some, fIsi_non, fIsi_bl, fIsi_int, fIsi_str, fIsi_lst, fIsi_tup, List.getElem?_cons_zero, List.getElem?_cons_succ, List.set_cons_zero, List.set_cons_succ, DL.ggName, ggNil0, ggCons1, ggTup2, ggTup3, gFor, giSeq, gLc, gYes, wipeR, true_and, and_true, at_0, at_1, at_2, kit_int_int, kit_bool_int, kit_str_int, kit_non_int, kit_list_int, kit_tuple_int, kit_int_bool, kit_bool_bool, kit_str_bool, kit_non_bool, kit_list_bool, kit_tuple_bool, kit_int_str, kit_bool_str, kit_str_str, kit_non_str, kit_list_str, kit_tuple_str, kit_int_list, kit_bool_list, kit_str_list, kit_non_list, kit_list_list, kit_tuple_list, kit_int_tuple, kit_bool_tuple, kit_str_tuple, kit_non_tuple, kit_list_tuple, kit_tuple_tuple, eqD_i, neD_i, eqD_s, neD_s, eqD_f, neD_f, Nat.zero_add, Nat.reduceAdd, nc0, nc1, nc2, nc3, nc4, nc5, nc6, nc7, nc8, nc9, eq_self, decide_true, decide_false, Int.reduceEq, Int.reduceLT, Int.reduceLE, Int.reduceNeg, Bool.not_true, Bool.not_false, Bool.false_eq_true, if_true, if_false, ↓reduceIte, false_and, and_false, List.all_cons, List.all_nil, List.any_cons, List.any_nil, id_eq, Bool.and_true, Bool.true_and, Bool.or_false, Bool.false_or, Bool.and_false, Bool.false_and, gCut, eqD_b, neD_b, giZip, reduceCtorEq, Bool.true_eq_false, Bool.false_eq_true, gRevL, gSl, goNone, goSome, slD_l, ne_eq, not_false_eq_true, not_true_eq_false, gBM, isTy_l, isTy_s, new_at, new_set, isTy_new, cellK_new, append_new, popAt_new, gFrz_eq, frzK_new, fLen_new, fTuple_new, ixD_new, slA_l, slA_t, slA_new, addTD_t, addCD_l, mulCD_l, isbD_b, isnotbD_b, mSplitC_s, gLstC, gTr, ggSub, lstK_l, lstK_r, addLD_eq]
      exact hF rfl (by intro h; cases h; exact hl rfl)
  | tup ys =>
    simp only [sem0, List.map_cons, List.map_nil, List.length_cons, List.length_nil, gSeq, gNext, gRet, gRetN, gIfS, gSet, gPar, gAsg, gDrop, gVar, gC, gBin, gUn, gB, gTru, gAnd, gOr, gNot, gAndV, gOrV, gNotV, gIf, gChain, gaNil, gaCons, DL.gTup, gLst, gCB, gCall0, gAug, addD_i, addD_s, addD_l, addD_t, subD_i, mulD_i, mulD_l, fdivD_i, modD_i, powD_i, ltD_i, ltD_s, leD_i, gtD_i, geD_i, isD_n, isnotD_n, isNonD_non, isNonD_bl, isNonD_int, isNonD_str, isNonD_lst, isNonD_tup, negD_i, iaddD_i, truD_non, truD_bl, truD_int, truD_str, truD_lst, truD_tup, someK_some, ixD_l, ixD_t, fAbs_i, fInt_i, fInt_b, fMin2_i, fLen_l, fLen_t, fLen_s, fList_l, fList_t, fTuple_l, fTuple_t, optBK_some, fIsi_non, fIsi_bl, fIsi_int, fIsi_str, fIsi_lst, fIsi_tup, List.getElem?_cons_zero, List.getElem?_cons_succ, List.set_cons_zero, List.set_cons_succ, DL.ggName, ggNil0, ggCons1, ggTup2, ggTup3, gFor, giSeq, gLc, gYes, wipeR, true_and, and_true, at_0, at_1, at_2, kit_int_int, kit_bool_int, kit_str_int, kit_non_int, kit_list_int, kit_tuple_int, kit_int_bool, kit_bool_bool, kit_str_bool, kit_non_bool, kit_list_bool, kit_tuple_bool, kit_int_str, kit_bool_str, kit_str_str, kit_non_str, kit_list_str, kit_tuple_str, kit_int_list, kit_bool_list, kit_str_list, kit_non_list, kit_list_list, kit_tuple_list, kit_int_tuple, kit_bool_tuple, kit_str_tuple, kit_non_tuple, kit_list_tuple, kit_tuple_tuple, eqD_i, neD_i, eqD_s, neD_s, eqD_f, neD_f, Nat.zero_add, Nat.reduceAdd, nc0, nc1, nc2, nc3, nc4, nc5, nc6, nc7, nc8, nc9, eq_self, decide_true, decide_false, Int.reduceEq, Int.reduceLT, Int.reduceLE, Int.reduceNeg, Bool.not_true, Bool.not_false, Bool.false_eq_true, if_true, if_false, ↓reduceIte, false_and, and_false, List.all_cons, List.all_nil, List.any_cons, List.any_nil, id_eq, Bool.and_true, Bool.true_and, Bool.or_false, Bool.false_or, Bool.and_false, Bool.false_and, gCut, eqD_b, neD_b, giZip, reduceCtorEq, Bool.true_eq_false, Bool.false_eq_true, gRevL, gSl, goNone, goSome, slD_l, ne_eq, not_false_eq_true, not_true_eq_false, gBM, isTy_l, isTy_s, new_at, new_set, isTy_new, cellK_new, append_new, popAt_new, gFrz_eq, frzK_new, fLen_new, fTuple_new, ixD_new, slA_l, slA_t, slA_new, addTD_t, addCD_l, mulCD_l, isbD_b, isnotbD_b, mSplitC_s, gLstC, gTr, ggSub, lstK_l, lstK_r, addLD_eq]
    cases a <;> (first | (exfalso; simp [okF] at ha; done) | simp only [sem0, List.map_cons, List.map_nil, List.length_cons, List.length_nil, gSeq, gNext, gRet, gRetN, gIfS, gSet, gPar, gAsg, gDrop, gVar, gC, gBin, gUn, gB, gTru, gAnd, gOr, gNot, gAndV, gOrV, gNotV, gIf, gChain, gaNil, gaCons, DL.gTup, gLst, gCB, gCall0, gAug, addD_i, addD_s, addD_l, addD_t, subD_i, mulD_i, mulD_l, fdivD_i, modD_i, powD_i, ltD_i, ltD_s, leD_i, gtD_i, geD_i, isD_n, isnotD_n, isNonD_non, isNonD_bl, isNonD_int, isNonD_str, isNonD_lst, isNonD_tup, negD_i, iaddD_i, truD_non, truD_bl, truD_int, truD_str, truD_lst, truD_tup, someK_some, ixD_l, ixD_t, fAbs_i, fInt_i, fInt_b, fMin2_i, fLen_l, fLen_t, fLen_s, fList_l, fList_t, fTuple_l, fTuple_t, optBK_some, fIsi_non, fIsi_bl, fIsi_int, fIsi_str, fIsi_lst, fIsi_tup, List.getElem?_cons_zero, List.getElem?_cons_succ, List.set_cons_zero, List.set_cons_succ, DL.ggName, ggNil0, ggCons1, ggTup2, ggTup3, gFor, giSeq, gLc, gYes, wipeR, true_and, and_true, at_0, at_1, at_2, kit_int_int, kit_bool_int, kit_str_int, kit_non_int, kit_list_int, kit_tuple_int, kit_int_bool, kit_bool_bool, kit_str_bool, kit_non_bool, kit_list_bool, kit_tuple_bool, kit_int_str, kit_bool_str, kit_str_str, kit_non_str, kit_list_str, kit_tuple_str, kit_int_list, kit_bool_list, kit_str_list, kit_non_list, kit_list_list, kit_tuple_list, kit_int_tuple, kit_bool_tuple, kit_str_tuple, kit_non_tuple, kit_list_tuple, kit_tuple_tuple, eqD_i, neD_i, eqD_s, neD_s, eqD_f, neD_f, Nat.zero_add, Nat.reduceAdd, nc0, nc1, nc2, nc3, nc4, nc5, nc6, nc7, nc8, nc9, eq_self, decide_true, decide_false, Int.reduceEq, Int.reduceLT, Int.reduceLE, Int.reduceNeg, Bool.not_true, Bool.not_false, Bool.false_eq_true, if_true, if_false, ↓reduceIte, false_and, and_false, List.all_cons, List.all_nil, List.any_cons, List.any_nil, id_eq, Bool.and_true, Bool.true_and, Bool.or_false, Bool.false_or, Bool.and_false, Bool.false_and, gCut, eqD_b, neD_b, giZip, reduceCtorEq, Bool.true_eq_false, Bool.false_eq_true, gRevL, gSl, goNone, goSome, slD_l, ne_eq, not_false_eq_true, not_true_eq_false, gBM, isTy_l, isTy_s, new_at, new_set, isTy_new, cellK_new, append_new, popAt_new, gFrz_eq, frzK_new, fLen_new, fTuple_new, ixD_new, slA_l, slA_t, slA_new, addTD_t, addCD_l, mulCD_l, isbD_b, isnotbD_b, mSplitC_s, gLstC, gTr, ggSub, lstK_l, lstK_r, addLD_eq]) <;> first
      | exact hF rfl (by simp)
      | skip
    rename_i xs
    by_cases hl : xs.length = ys.length
    · rw [decide_eq_true (show ((xs.length : Nat) : Int) = ys.length by rw [hl])]
      simp only [sem0, List.map_cons, List.map_nil, List.length_cons, List.length_nil, gSeq, gNext, gRet, gRetN, gIfS, gSet, gPar, gAsg, gDrop, gVar, gC, gBin, gUn, gB, gTru, gAnd, gOr, gNot, gAndV, gOrV, gNotV, gIf, gChain, gaNil, gaCons, DL.gTup, gLst, gCB, gCall0, gAug, addD_i, addD_s, addD_l, addD_t, subD_i, mulD_i, mulD_l, fdivD_i, modD_i, powD_i, ltD_i, ltD_s, leD_i, gtD_i, geD_i, isD_n, isnotD_n, isNonD_non, isNonD_bl, isNonD_int, isNonD_str, isNonD_lst, isNonD_tup, negD_i, iaddD_i, truD_non, truD_bl, truD_int, truD_str, truD_lst, truD_tup, someK_some, ixD_l, ixD_t, fAbs_i, fInt_i, fInt_b, fMin2_i, fLen_l, fLen_t, fLen_s, fList_l, fList_t, fTuple_l, fTuple_t, optBK_some, fIsi_non, fIsi_bl, fIsi_int, fIsi_str, fIsi_lst, fIsi_tup, List.getElem?_cons_zero, List.getElem?_cons_succ, List.set_cons_zero, List.set_cons_succ, DL.ggName, ggNil0, ggCons1, ggTup2, ggTup3, gFor, giSeq, gLc, gYes, wipeR, true_and, and_true, at_0, at_1, at_2, kit_int_int, kit_bool_int, kit_str_int, kit_non_int, kit_list_int, kit_tuple_int, kit_int_bool, kit_bool_bool, kit_str_bool, kit_non_bool, kit_list_bool, kit_tuple_bool, kit_int_str, kit_bool_str, kit_str_str, kit_non_str, kit_list_str, kit_tuple_str, kit_int_list, kit_bool_list, kit_str_list, kit_non_list, kit_list_list, kit_tuple_list, kit_int_tuple, kit_bool_tuple, kit_str_tuple, kit_non_tuple, kit_list_tuple, kit_tuple_tuple, eqD_i, neD_i, eqD_s, neD_s, eqD_f, neD_f, Nat.zero_add, Nat.reduceAdd, nc0, nc1, nc2, nc3, nc4, nc5, nc6, nc7, nc8, nc9, eq_self, decide_true, decide_false, Int.reduceEq, Int.reduceLT, Int.reduceLE, Int.reduceNeg, Bool.not_true, Bool.not_false, Bool.false_eq_true, if_true, if_false, ↓reduceIte, false_and, and_false, List.all_cons, List.all_nil, List.any_cons, List.any_nil, id_eq, Bool.and_true, Bool.true_and, Bool.or_false, Bool.false_or, Bool.and_false, Bool.false_and, gCut, eqD_b, neD_b, giZip, reduceCtorEq, Bool.true_eq_false, Bool.false_eq_true, gRevL, gSl, goNone, goSome, slD_l, ne_eq, not_false_eq_true, not_true_eq_false, gBM, isTy_l, isTy_s, new_at, new_set, isTy_new, cellK_new, append_new, popAt_new, gFrz_eq, frzK_new, fLen_new, fTuple_new, ixD_new, slA_l, slA_t, slA_new, addTD_t, addCD_l, mulCD_l, isbD_b, isnotbD_b, mSplitC_s, gLstC, gTr, ggSub, lstK_l, lstK_r, addLD_eq]
      unfold okF at ha
      unfold DL.plain at hb
      unfold dep at hd
      unfold wid at wa wb
      rw [Bool.and_eq_true] at wa wb
      refine lc_rel (fun p y => ∃ c a b, p = D.tup [a, b] ∧ y = D.bl c ∧ (c = true ↔ a = b)) trivial ?_ (fun p hp k' hk' => ?_) (fun cs hcs => ?_)
      · unfold zipD
        rw [List.length_zipWith]
        have := of_decide_eq_true wa.1
        omega
      · obtain ⟨i, hi⟩ := List.getElem?_of_mem hp
        obtain ⟨x, y, h1, h2, rfl⟩ := DL.zip_get hi
        have mx := List.mem_of_getElem? h1
        have my := List.mem_of_getElem? h2
        simp only [sem0, List.map_cons, List.map_nil, List.length_cons, List.length_nil, gSeq, gNext, gRet, gRetN, gIfS, gSet, gPar, gAsg, gDrop, gVar, gC, gBin, gUn, gB, gTru, gAnd, gOr, gNot, gAndV, gOrV, gNotV, gIf, gChain, gaNil, gaCons, DL.gTup, gLst, gCB, gCall0, gAug, addD_i, addD_s, addD_l, addD_t, subD_i, mulD_i, mulD_l, fdivD_i, modD_i, powD_i, ltD_i, ltD_s, leD_i, gtD_i, geD_i, isD_n, isnotD_n, isNonD_non, isNonD_bl, isNonD_int, isNonD_str, isNonD_lst, isNonD_tup, negD_i, iaddD_i, truD_non, truD_bl, truD_int, truD_str, truD_lst, truD_tup, someK_some, ixD_l, ixD_t, fAbs_i, fInt_i, fInt_b, fMin2_i, fLen_l, fLen_t, fLen_s, fList_l, fList_t, fTuple_l, fTuple_t, optBK_some, fIsi_non, fIsi_bl, fIsi_int, fIsi_str, fIsi_lst, fIsi_tup, List.getElem?_cons_zero, List.getElem?_cons_succ, List.set_cons_zero, List.set_cons_succ, DL.ggName, ggNil0, ggCons1, ggTup2, ggTup3, gFor, giSeq, gLc, gYes, wipeR, true_and, and_true, at_0, at_1, at_2, kit_int_int, kit_bool_int, kit_str_int, kit_non_int, kit_list_int, kit_tuple_int, kit_int_bool, kit_bool_bool, kit_str_bool, kit_non_bool, kit_list_bool, kit_tuple_bool, kit_int_str, kit_bool_str, kit_str_str, kit_non_str, kit_list_str, kit_tuple_str, kit_int_list, kit_bool_list, kit_str_list, kit_non_list, kit_list_list, kit_tuple_list, kit_int_tuple, kit_bool_tuple, kit_str_tuple, kit_non_tuple, kit_list_tuple, kit_tuple_tuple, eqD_i, neD_i, eqD_s, neD_s, eqD_f, neD_f, Nat.zero_add, Nat.reduceAdd, nc0, nc1, nc2, nc3, nc4, nc5, nc6, nc7, nc8, nc9, eq_self, decide_true, decide_false, Int.reduceEq, Int.reduceLT, Int.reduceLE, Int.reduceNeg, Bool.not_true, Bool.not_false, Bool.false_eq_true, if_true, if_false, ↓reduceIte, false_and, and_false, List.all_cons, List.all_nil, List.any_cons, List.any_nil, id_eq, Bool.and_true, Bool.true_and, Bool.or_false, Bool.false_or, Bool.and_false, Bool.false_and, gCut, eqD_b, neD_b, giZip, reduceCtorEq, Bool.true_eq_false, Bool.false_eq_true, gRevL, gSl, goNone, goSome, slD_l, ne_eq, not_false_eq_true, not_true_eq_false, gBM, isTy_l, isTy_s, new_at, new_set, isTy_new, cellK_new, append_new, popAt_new, gFrz_eq, frzK_new, fLen_new, fTuple_new, ixD_new, slA_l, slA_t, slA_new, addTD_t, addCD_l, mulCD_l, isbD_b, isnotbD_b, mSplitC_s, gLstC, gTr, ggSub, lstK_l, lstK_r, addLD_eq]
        cases j with
        | zero => omega
        | succ j =>
          refine ⟨x, y, rfl, ⟨okFs_mem ha mx, plains_mem hb my, ?_, wids_mem wa.2 mx, wids_mem wb.2 my⟩, fun c hc => hk' _ ⟨c, x, y, rfl, rfl, hc⟩⟩
          have := deps_mem my
          omega
      · obtain ⟨bs, rfl, hbs⟩ := zip_pairs hl hcs
        rw [fAll_m]
        exact hk _ (by rw [hbs]; simp)
    · rw [decide_eq_false (show ¬ ((xs.length : Nat) : Int) = ys.length by omega)]
      simp only [sem0, List.map_cons, List.map_nil, List.length_cons, List.length_nil, gSeq, gNext, gRet, gRetN, gIfS, gSet, gPar, gAsg, gDrop, gVar, gC, gBin, gUn, gB, gTru, gAnd, gOr, gNot, gAndV, gOrV, gNotV, gIf, gChain, gaNil, gaCons, DL.gTup, gLst, gCB, gCall0, gAug, addD_i, addD_s, addD_l, addD_t, subD_i, mulD_i, mulD_l, fdivD_i, modD_i, powD_i, ltD_i, ltD_s, leD_i, gtD_i, geD_i, isD_n, isnotD_n, isNonD_non, isNonD_bl, isNonD_int, isNonD_str, isNonD_lst, isNonD_tup, negD_i, iaddD_i, truD_non, truD_bl, truD_int, truD_str, truD_lst, truD_tup, someK_some, ixD_l, ixD_t, fAbs_i, fInt_i, fInt_b, fMin2_i, fLen_l, fLen_t, fLen_s, fList_l, fList_t, fTuple_l, fTuple_t, optBK_some, fIsi_non, fIsi_bl, fIsi_int, fIsi_str, fIsi_lst, fIsi_tup, List.getElem?_cons_zero, List.getElem?_cons_succ, List.set_cons_zero, List.set_cons_succ, DL.ggName, ggNil0, ggCons1, ggTup2, ggTup3, gFor, giSeq, gLc, gYes, wipeR, true_and, and_true, at_0, at_1, at_2, kit_int_int, kit_bool_int, kit_str_int, kit_non_int, kit_list_int, kit_tuple_int, kit_int_bool, kit_bool_bool, kit_str_bool, kit_non_bool, kit_list_bool, kit_tuple_bool, kit_int_str, kit_bool_str, kit_str_str, kit_non_str, kit_list_str, kit_tuple_str, kit_int_list, kit_bool_list, kit_str_list, kit_non_list, kit_list_list, kit_tuple_list, kit_int_tuple, kit_bool_tuple, kit_str_tuple, kit_non_tuple, kit_list_tuple, kit_tuple_tuple, eqD_i, neD_i, eqD_s, neD_s, eqD_f, neD_f, Nat.zero_add, Nat.reduceAdd, nc0, nc1, nc2, nc3, nc4, nc5, nc6, nc7, nc8, nc9, eq_self, decide_true, decide_false, Int.reduceEq, Int.reduceLT, Int.reduceLE, Int.reduceNeg, Bool.not_true, Bool.not_false, Bool.false_eq_true, if_true, if_false, ↓reduceIte, false_and, and_false, List.all_cons, List.all_nil, List.any_cons, List.any_nil, id_eq, Bool.and_true, Bool.true_and, Bool.or_false, Bool.false_or, Bool.and_false, Bool.false_and, gCut, eqD_b, neD_b, giZip, reduceCtorEq, Bool.true_eq_false, Bool.false_eq_true, gRevL, gSl, goNone, goSome, slD_l, ne_eq, not_false_eq_true, not_true_eq_false, gBM, isTy_l, isTy_s, new_at, new_set, isTy_new, cellK_new, append_new, popAt_new, gFrz_eq, frzK_new, fLen_new, fTuple_new, ixD_new, slA_l, slA_t, slA_new, addTD_t, addCD_l, mulCD_l, isbD_b, isnotbD_b, mSplitC_s, gLstC, gTr, ggSub, lstK_l, lstK_r, addLD_eq]
      exact hF rfl (by intro h; cases h; exact hl rfl)
theorem okr__law_same {P : Program} {w : World} {K : PySem.W.Frag} {mg : Str → Option Value} {base : Heap} (T : DefAt K mg "_law_same" s__law_same ["_law_found", "_law_due"]) (B : Blt mg) : ∀ j, FnAt P w K mg base CX0 j "_law_same" 2 (gSame j)
  | 0 => T.mk0 fun f fd F => ⟨fun vs H Q E h => by
      obtain ⟨_, _, _, _, _, _, _, _, _, _, _, h⟩ := h
      exact h.elim, fun A outer s H args us vs Q E _ _ _ _ h => by
      obtain ⟨_, _, _, _, _, _, _, _, _, _, _, h⟩ := h
      exact h.elim⟩
  | j + 1 => (w__law_same T B (okr__law_same T B j)).imp (v__law_same j)
theorem v__law_sameC : ∀ ds w kx k, sp__law_same ds w kx k → sem0 4 (g__law_same (gSame 5)) ds w kx k := by
  rintro ds w kx k (h | ⟨i, xs, ys, rfl, em, ⟨ha, hb, hd, wa, wb⟩, hk⟩)
  · exact v__law_same 5 ds w kx k h
  have e : rho 4 [D.rf i, .lst ys] = [some (.rf i), some (.lst ys), none, none] := rfl
  have fI : ∀ n (k : KD), fIsi [.rf i, .ob (.ty n)] w k = optBK (kitB "list" n) (fun b => k (.bl b) w) := fun n k => by
    unfold fIsi tyD
    simp only [em]
    rfl
  have fL : ∀ (k : KD), fLen [.rf i] w k = k (.int xs.length) w := fun k => by
    simp [fLen, seqD, em]
  simp only [g__law_same, e, fI, fL, em, sem0, List.map_cons, List.map_nil, List.length_cons, List.length_nil, gSeq, gNext, gRet, gRetN, gIfS, gSet, gPar, gAsg, gDrop, gVar, gC, gBin, gUn, gB, gTru, gAnd, gOr, gNot, gAndV, gOrV, gNotV, gIf, gChain, gaNil, gaCons, DL.gTup, gLst, gCB, gCall0, gAug, addD_i, addD_s, addD_l, addD_t, subD_i, mulD_i, mulD_l, fdivD_i, modD_i, powD_i, ltD_i, ltD_s, leD_i, gtD_i, geD_i, isD_n, isnotD_n, isNonD_non, isNonD_bl, isNonD_int, isNonD_str, isNonD_lst, isNonD_tup, negD_i, iaddD_i, truD_non, truD_bl, truD_int, truD_str, truD_lst, truD_tup, someK_some, ixD_l, ixD_t, fAbs_i, fInt_i, fInt_b, fMin2_i, fLen_l, fLen_t, fLen_s, fList_l, fList_t, fTuple_l, fTuple_t, optBK_some, fIsi_non, fIsi_bl, fIsi_int, fIsi_str, fIsi_lst, fIsi_tup, List.getElem?_cons_zero, List.getElem?_cons_succ, List.set_cons_zero, List.set_cons_succ, DL.ggName, ggNil0, ggCons1, ggTup2, ggTup3, gFor, giSeq, gLc, gYes, wipeR, true_and, and_true, at_0, at_1, at_2, kit_int_int, kit_bool_int, kit_str_int, kit_non_int, kit_list_int, kit_tuple_int, kit_int_bool, kit_bool_bool, kit_str_bool, kit_non_bool, kit_list_bool, kit_tuple_bool, kit_int_str, kit_bool_str, kit_str_str, kit_non_str, kit_list_str, kit_tuple_str, kit_int_list, kit_bool_list, kit_str_list, kit_non_list, kit_list_list, kit_tuple_list, kit_int_tuple, kit_bool_tuple, kit_str_tuple, kit_non_tuple, kit_list_tuple, kit_tuple_tuple, eqD_i, neD_i, eqD_s, neD_s, eqD_f, neD_f, Nat.zero_add, Nat.reduceAdd, nc0, nc1, nc2, nc3, nc4, nc5, nc6, nc7, nc8, nc9, eq_self, decide_true, decide_false, Int.reduceEq, Int.reduceLT, Int.reduceLE, Int.reduceNeg, Bool.not_true, Bool.not_false, Bool.false_eq_true, if_true, if_false, ↓reduceIte, false_and, and_false, List.all_cons, List.all_nil, List.any_cons, List.any_nil, id_eq, Bool.and_true, Bool.true_and, Bool.or_false, Bool.false_or, Bool.and_false, Bool.false_and, gCut, eqD_b, neD_b, giZip, reduceCtorEq, Bool.true_eq_false, Bool.false_eq_true, gRevL, gSl, goNone, goSome, slD_l, ne_eq, not_false_eq_true, not_true_eq_false, gBM, isTy_l, isTy_s, new_at, new_set, isTy_new, cellK_new, append_new, popAt_new, gFrz_eq, frzK_new, fLen_new, fTuple_new, ixD_new, slA_l, slA_t, slA_new, addTD_t, addCD_l, mulCD_l, isbD_b, isnotbD_b, mSplitC_s, gLstC, gTr, ggSub, lstK_l, lstK_r, addLD_eq]
  by_cases hl : xs.length = ys.length
  · rw [decide_eq_true (show ((xs.length : Nat) : Int) = ys.length by rw [hl])]
    simp only [fI, fL, em, sem0, List.map_cons, List.map_nil, List.length_cons, List.length_nil, gSeq, gNext, gRet, gRetN, gIfS, gSet, gPar, gAsg, gDrop, gVar, gC, gBin, gUn, gB, gTru, gAnd, gOr, gNot, gAndV, gOrV, gNotV, gIf, gChain, gaNil, gaCons, DL.gTup, gLst, gCB, gCall0, gAug, addD_i, addD_s, addD_l, addD_t, subD_i, mulD_i, mulD_l, fdivD_i, modD_i, powD_i, ltD_i, ltD_s, leD_i, gtD_i, geD_i, isD_n, isnotD_n, isNonD_non, isNonD_bl, isNonD_int, isNonD_str, isNonD_lst, isNonD_tup, negD_i, iaddD_i, truD_non, truD_bl, truD_int, truD_str, truD_lst, truD_tup, someK_some, ixD_l, ixD_t, fAbs_i, fInt_i, fInt_b, fMin2_i, fLen_l, fLen_t, fLen_s, fList_l, fList_t, fTuple_l, fTuple_t, optBK_some, fIsi_non, fIsi_bl, fIsi_int, fIsi_str, fIsi_lst, fIsi_tup, List.getElem?_cons_zero, List.getElem?_cons_succ, List.set_cons_zero, List.set_cons_succ, DL.ggName, ggNil0, ggCons1, ggTup2, ggTup3, gFor, giSeq, gLc, gYes, wipeR, true_and, and_true, at_0, at_1, at_2, kit_int_int, kit_bool_int, kit_str_int, kit_non_int, kit_list_int, kit_tuple_int, kit_int_bool, kit_bool_bool, kit_str_bool, kit_non_bool, kit_list_bool, kit_tuple_bool, kit_int_str, kit_bool_str, kit_str_str, kit_non_str, kit_list_str, kit_tuple_str, kit_int_list, kit_bool_list, kit_str_list, kit_non_list, kit_list_list, kit_tuple_list, kit_int_tuple, kit_bool_tuple, kit_str_tuple, kit_non_tuple, kit_list_tuple, kit_tuple_tuple, eqD_i, neD_i, eqD_s, neD_s, eqD_f, neD_f, Nat.zero_add, Nat.reduceAdd, nc0, nc1, nc2, nc3, nc4, nc5, nc6, nc7, nc8, nc9, eq_self, decide_true, decide_false, Int.reduceEq, Int.reduceLT, Int.reduceLE, Int.reduceNeg, Bool.not_true, Bool.not_false, Bool.false_eq_true, if_true, if_false, ↓reduceIte, false_and, and_false, List.all_cons, List.all_nil, List.any_cons, List.any_nil, id_eq, Bool.and_true, Bool.true_and, Bool.or_false, Bool.false_or, Bool.and_false, Bool.false_and, gCut, eqD_b, neD_b, giZip, reduceCtorEq, Bool.true_eq_false, Bool.false_eq_true, gRevL, gSl, goNone, goSome, slD_l, ne_eq, not_false_eq_true, not_true_eq_false, gBM, isTy_l, isTy_s, new_at, new_set, isTy_new, cellK_new, append_new, popAt_new, gFrz_eq, frzK_new, fLen_new, fTuple_new, ixD_new, slA_l, slA_t, slA_new, addTD_t, addCD_l, mulCD_l, isbD_b, isnotbD_b, mSplitC_s, gLstC, gTr, ggSub, lstK_l, lstK_r, addLD_eq]
    unfold dep at hd
    unfold wid at wa wb
    rw [Bool.and_eq_true] at wa wb
    refine lc_rel (fun p y => ∃ c a b, p = D.tup [a, b] ∧ y = D.bl c ∧ (c = true ↔ a = b)) em ?_ (fun p hp k' hk' => ?_) (fun cs hcs => ?_)
    · unfold zipD
      rw [List.length_zipWith]
      have := of_decide_eq_true wa.1
      omega
    · obtain ⟨n, hi⟩ := List.getElem?_of_mem hp
      obtain ⟨x, y, h1, h2, rfl⟩ := DL.zip_get hi
      have mx := List.mem_of_getElem? h1
      have my := List.mem_of_getElem? h2
      simp only [sem0, List.map_cons, List.map_nil, List.length_cons, List.length_nil, gSeq, gNext, gRet, gRetN, gIfS, gSet, gPar, gAsg, gDrop, gVar, gC, gBin, gUn, gB, gTru, gAnd, gOr, gNot, gAndV, gOrV, gNotV, gIf, gChain, gaNil, gaCons, DL.gTup, gLst, gCB, gCall0, gAug, addD_i, addD_s, addD_l, addD_t, subD_i, mulD_i, mulD_l, fdivD_i, modD_i, powD_i, ltD_i, ltD_s, leD_i, gtD_i, geD_i, isD_n, isnotD_n, isNonD_non, isNonD_bl, isNonD_int, isNonD_str, isNonD_lst, isNonD_tup, negD_i, iaddD_i, truD_non, truD_bl, truD_int, truD_str, truD_lst, truD_tup, someK_some, ixD_l, ixD_t, fAbs_i, fInt_i, fInt_b, fMin2_i, fLen_l, fLen_t, fLen_s, fList_l, fList_t, fTuple_l, fTuple_t, optBK_some, fIsi_non, fIsi_bl, fIsi_int, fIsi_str, fIsi_lst, fIsi_tup, List.getElem?_cons_zero, List.getElem?_cons_succ, List.set_cons_zero, List.set_cons_succ, DL.ggName, ggNil0, ggCons1, ggTup2, ggTup3, gFor, giSeq, gLc, gYes, wipeR, true_and, and_true, at_0, at_1, at_2, kit_int_int, kit_bool_int, kit_str_int, kit_non_int, kit_list_int, kit_tuple_int, kit_int_bool, kit_bool_bool, kit_str_bool, kit_non_bool, kit_list_bool, kit_tuple_bool, kit_int_str, kit_bool_str, kit_str_str, kit_non_str, kit_list_str, kit_tuple_str, kit_int_list, kit_bool_list, kit_str_list, kit_non_list, kit_list_list, kit_tuple_list, kit_int_tuple, kit_bool_tuple, kit_str_tuple, kit_non_tuple, kit_list_tuple, kit_tuple_tuple, eqD_i, neD_i, eqD_s, neD_s, eqD_f, neD_f, Nat.zero_add, Nat.reduceAdd, nc0, nc1, nc2, nc3, nc4, nc5, nc6, nc7, nc8, nc9, eq_self, decide_true, decide_false, Int.reduceEq, Int.reduceLT, Int.reduceLE, Int.reduceNeg, Bool.not_true, Bool.not_false, Bool.false_eq_true, if_true, if_false, ↓reduceIte, false_and, and_false, List.all_cons, List.all_nil, List.any_cons, List.any_nil, id_eq, Bool.and_true, Bool.true_and, Bool.or_false, Bool.false_or, Bool.and_false, Bool.false_and, gCut, eqD_b, neD_b, giZip, reduceCtorEq, Bool.true_eq_false, Bool.false_eq_true, gRevL, gSl, goNone, goSome, slD_l, ne_eq, not_false_eq_true, not_true_eq_false, gBM, isTy_l, isTy_s, new_at, new_set, isTy_new, cellK_new, append_new, popAt_new, gFrz_eq, frzK_new, fLen_new, fTuple_new, ixD_new, slA_l, slA_t, slA_new, addTD_t, addCD_l, mulCD_l, isbD_b, isnotbD_b, mSplitC_s, gLstC, gTr, ggSub, lstK_l, lstK_r, addLD_eq]
      refine ⟨x, y, rfl, ⟨okFs_mem ha mx, plains_mem hb my, ?_, wids_mem wa.2 mx, wids_mem wb.2 my⟩, fun c hc => hk' _ ⟨c, x, y, rfl, rfl, hc⟩⟩
      have := deps_mem my
      exact Nat.le_trans this (Nat.le_of_succ_le_succ hd)
    · obtain ⟨bs, rfl, hbs⟩ := zip_pairs hl hcs
      rw [fAll_m]
      exact hk _ hbs
  · rw [decide_eq_false (show ¬ ((xs.length : Nat) : Int) = ys.length by omega)]
    simp only [sem0, List.map_cons, List.map_nil, List.length_cons, List.length_nil, gSeq, gNext, gRet, gRetN, gIfS, gSet, gPar, gAsg, gDrop, gVar, gC, gBin, gUn, gB, gTru, gAnd, gOr, gNot, gAndV, gOrV, gNotV, gIf, gChain, gaNil, gaCons, DL.gTup, gLst, gCB, gCall0, gAug, addD_i, addD_s, addD_l, addD_t, subD_i, mulD_i, mulD_l, fdivD_i, modD_i, powD_i, ltD_i, ltD_s, leD_i, gtD_i, geD_i, isD_n, isnotD_n, isNonD_non, isNonD_bl, isNonD_int, isNonD_str, isNonD_lst, isNonD_tup, negD_i, iaddD_i, truD_non, truD_bl, truD_int, truD_str, truD_lst, truD_tup, someK_some, ixD_l, ixD_t, fAbs_i, fInt_i, fInt_b, fMin2_i, fLen_l, fLen_t, fLen_s, fList_l, fList_t, fTuple_l, fTuple_t, optBK_some, fIsi_non, fIsi_bl, fIsi_int, fIsi_str, fIsi_lst, fIsi_tup, List.getElem?_cons_zero, List.getElem?_cons_succ, List.set_cons_zero, List.set_cons_succ, DL.ggName, ggNil0, ggCons1, ggTup2, ggTup3, gFor, giSeq, gLc, gYes, wipeR, true_and, and_true, at_0, at_1, at_2, kit_int_int, kit_bool_int, kit_str_int, kit_non_int, kit_list_int, kit_tuple_int, kit_int_bool, kit_bool_bool, kit_str_bool, kit_non_bool, kit_list_bool, kit_tuple_bool, kit_int_str, kit_bool_str, kit_str_str, kit_non_str, kit_list_str, kit_tuple_str, kit_int_list, kit_bool_list, kit_str_list, kit_non_list, kit_list_list, kit_tuple_list, kit_int_tuple, kit_bool_tuple, kit_str_tuple, kit_non_tuple, kit_list_tuple, kit_tuple_tuple, eqD_i, neD_i, eqD_s, neD_s, eqD_f, neD_f, Nat.zero_add, Nat.reduceAdd, nc0, nc1, nc2, nc3, nc4, nc5, nc6, nc7, nc8, nc9, eq_self, decide_true, decide_false, Int.reduceEq, Int.reduceLT, Int.reduceLE, Int.reduceNeg, Bool.not_true, Bool.not_false, Bool.false_eq_true, if_true, if_false, ↓reduceIte, false_and, and_false, List.all_cons, List.all_nil, List.any_cons, List.any_nil, id_eq, Bool.and_true, Bool.true_and, Bool.or_false, Bool.false_or, Bool.and_false, Bool.false_and, gCut, eqD_b, neD_b, giZip, reduceCtorEq, Bool.true_eq_false, Bool.false_eq_true, gRevL, gSl, goNone, goSome, slD_l, ne_eq, not_false_eq_true, not_true_eq_false, gBM, isTy_l, isTy_s, new_at, new_set, isTy_new, cellK_new, append_new, popAt_new, gFrz_eq, frzK_new, fLen_new, fTuple_new, ixD_new, slA_l, slA_t, slA_new, addTD_t, addCD_l, mulCD_l, isbD_b, isnotbD_b, mSplitC_s, gLstC, gTr, ggSub, lstK_l, lstK_r, addLD_eq]
    exact hk false (by simp; intro h; exact hl (by rw [h]))
theorem ok__law_same {P : Program} {w : World} {K : PySem.W.Frag} {mg : Str → Option Value} {base : Heap} (T : DefAt K mg "_law_same" s__law_same ["_law_found", "_law_due"]) (B : Blt mg) : FnAt P w K mg base CX0 6 "_law_same" 2 sp__law_same := (w__law_same T B (okr__law_same T B 5)).imp v__law_sameC
theorem sameC_use {i : Nat} {xs ys : List D} {w : Wd} {kx : KX} {k : KD} (em : w.M[i]? = some (.lst xs)) (ha : okFs xs = true) (hb : DL.plains ys = true) (hd : dep (.lst ys) ≤ 5) (wa : wid (.lst xs) = true) (wb : wid (.lst ys) = true) (h : ∀ c : Bool, (c = true ↔ xs = ys) → k (.bl c) w) : sp__law_same [.rf i, .lst ys] w kx k := .inr ⟨i, xs, ys, rfl, em, ⟨ha, hb, hd, wa, wb⟩, h⟩
theorem same_use {a b : D} {w : Wd} {kx : KX} {k : KD} (ha : okF a = true) (hb : DL.plain b = true) (hd : dep b ≤ 5) (wa : wid a = true) (wb : wid b = true) (h : ∀ c : Bool, (c = true ↔ a = b) → k (.bl c) w) : sp__law_same [a, b] w kx k := .inl ⟨a, b, rfl, ⟨ha, hb, hd, wa, wb⟩, h⟩
theorem same_yes {a : D} {w : Wd} {kx : KX} {k : KD} (hb : DL.plain a = true) (hd : dep a ≤ 5) (wa : wid a = true) (h : k (.bl true) w) : sp__law_same [a, a] w kx k := same_use (plain_ok hb) hb hd wa wa fun c hc => by
  have : c = true := hc.mpr rfl
  rw [this]
  exact h

/-! ### fractions as pairs -/
abbrev Qp := Int × Int
def fD (x : Qp) : D := .tup [.int x.1, .int x.2]
structure Fr (x : Qp) : Prop where
  pos : 0 < x.2
  cop : Int.gcd x.1 x.2 = 1
def norm (t b : Int) : Qp := (frT t b, frB t b)
/-- both parts below 2 ^ a in size -/
def Lt2 (a : Nat) (x : Qp) : Prop := x.1.natAbs < 2 ^ a ∧ x.2.natAbs < 2 ^ a
theorem fr_norm {t b : Int} (h : b ≠ 0) : Fr (norm t b) := ⟨(fr_is h).pos, (fr_is h).cop⟩
theorem norm_eq {t b : Int} (h : b ≠ 0) : (norm t b).1 * b = t * (norm t b).2 := (fr_is h).eq
theorem norm_of {t b : Int} {x : Qp} (h : b ≠ 0) (hx : Fr x) (e : x.1 * b = t * x.2) : norm t b = x := by
  obtain ⟨h1, h2⟩ := fr_eq h ⟨hx.pos, hx.cop, e⟩
  exact Prod.ext h1 h2
theorem norm_self {x : Qp} (hx : Fr x) : norm x.1 x.2 = x := norm_of (by have := hx.pos; omega) hx rfl
theorem norm_cross {t b t' b' : Int} (h : b ≠ 0) (h' : b' ≠ 0) (e : t * b' = t' * b) : norm t b = norm t' b' := by
  refine norm_of h (fr_norm h') ?_
  have e2 := norm_eq (t := t') h'
  refine Int.eq_of_mul_eq_mul_right h' ?_
  calc (norm t' b').1 * b * b' = (norm t' b').1 * b' * b := by ac_rfl
    _ = t' * (norm t' b').2 * b := by rw [e2]
    _ = t' * b * (norm t' b').2 := by ac_rfl
    _ = t * b' * (norm t' b').2 := by rw [e]
    _ = t * (norm t' b').2 * b' := by ac_rfl
theorem fr_inj {x y : Qp} (hx : Fr x) (hy : Fr y) (e : x.1 * y.2 = y.1 * x.2) : x = y := by
  rw [← norm_self hx, ← norm_self hy]
  exact norm_cross (by have := hx.pos; omega) (by have := hy.pos; omega) e
theorem norm_lt {t b : Int} {a : Nat} (h : b ≠ 0) (ht : t.natAbs < 2 ^ a) (hb : b.natAbs < 2 ^ a) : Lt2 a (norm t b) := ⟨Nat.lt_of_le_of_lt (fr_le h).1 ht, Nat.lt_of_le_of_lt (fr_le h).2 hb⟩
theorem Lt2.mono {a c : Nat} {x : Qp} (h : Lt2 a x) (l : a ≤ c) : Lt2 c x := ⟨Nat.lt_of_lt_of_le h.1 (Nat.pow_le_pow_right (by decide) l), Nat.lt_of_lt_of_le h.2 (Nat.pow_le_pow_right (by decide) l)⟩
theorem nat_mono {n a c : Nat} (h : n < 2 ^ a) (l : a ≤ c) : n < 2 ^ c := Nat.lt_of_lt_of_le h (Nat.pow_le_pow_right (by decide) l)
theorem add_lt {x y : Int} {a : Nat} (hx : x.natAbs < 2 ^ a) (hy : y.natAbs < 2 ^ a) : (x + y).natAbs < 2 ^ (a + 1) := by
  rw [Nat.pow_succ]
  omega
theorem sub_lt {x y : Int} {a : Nat} (hx : x.natAbs < 2 ^ a) (hy : y.natAbs < 2 ^ a) : (x - y).natAbs < 2 ^ (a + 1) := by
  rw [Nat.pow_succ]
  omega
section
variable {x y : Qp} {w : Wd} {k : KD} {t : GGs} {r : Rho} {kr : Rho → Wd → Prop} {n : String}
theorem ixD_f0 : ixD (fD x) (.int 0) w k = k (.int x.1) w := rfl
theorem ixD_f1 : ixD (fD x) (.int 1) w k = k (.int x.2) w := rfl
theorem ggTup_f : DL.ggTup 2 t (fD x) r w kr = t [.int x.1, .int x.2] r w kr := by
  show (2 = 2 ∧ t [.int x.1, .int x.2] r w kr) = _
  simp
theorem fIsi_f : fIsi [fD x, .ob (.ty n)] w k = optBK (kitB "tuple" n) (fun b => k (.bl b) w) := rfl
theorem fLen_f : fLen [fD x] w k = k (.int 2) w := rfl
theorem eqD_ff : eqD (fD x) (fD y) w k = k (.bl (decide (x = y))) w := by
  unfold fD
  rw [eqD_f]
  congr 2
  rw [Bool.eq_iff_iff]
  simp [Prod.ext_iff]
theorem neD_ff : neD (fD x) (fD y) w k = k (.bl (!decide (x = y))) w := by
  unfold fD
  rw [neD_f]
  congr 3
  rw [Bool.eq_iff_iff]
  simp [Prod.ext_iff]
end
theorem plain_f (x : Qp) : DL.plain (fD x) = true := rfl
theorem okF_f (x : Qp) : okF (fD x) = true := rfl
theorem lay_f (x : Qp) : lay (fD x) = true := rfl
theorem dep_f (x : Qp) : dep (fD x) = 1 := rfl
theorem wid_f (x : Qp) : wid (fD x) = true := by
  simp [fD, wid, wids]
theorem fD_inj {x y : Qp} (h : fD x = fD y) : x = y := by
  unfold fD at h
  injection h with h
  injection h with h1 h2
  injection h1 with h1
  injection h2 with h2 _
  injection h2 with h2
  exact Prod.ext h1 h2
/-- the common below, the top over it -/
def Pb : List Qp → Int
  | [] => 1
  | x :: xs => x.2 * Pb xs
def Nt : List Qp → Int
  | [] => 0
  | x :: xs => x.1 * Pb xs + x.2 * Nt xs
theorem Pb_pos : ∀ {xs : List Qp}, (∀ x ∈ xs, Fr x) → 0 < Pb xs
  | [], _ => by decide
  | x :: xs, h => Int.mul_pos (h x List.mem_cons_self).pos (Pb_pos fun y hy => h y (List.mem_cons_of_mem _ hy))
theorem Pb_ne {xs : List Qp} (h : ∀ x ∈ xs, Fr x) : Pb xs ≠ 0 := by
  have := Pb_pos h
  omega
theorem Pb_app : ∀ (xs ys : List Qp), Pb (xs ++ ys) = Pb xs * Pb ys
  | [], ys => by simp [Pb]
  | x :: xs, ys => by
    show x.2 * Pb (xs ++ ys) = x.2 * Pb xs * Pb ys
    rw [Pb_app xs ys, Int.mul_assoc]
theorem Nt_app : ∀ (xs ys : List Qp), Nt (xs ++ ys) = Nt xs * Pb ys + Pb xs * Nt ys
  | [], ys => by simp [Nt, Pb]
  | x :: xs, ys => by
    show x.1 * Pb (xs ++ ys) + x.2 * Nt (xs ++ ys) = (x.1 * Pb xs + x.2 * Nt xs) * Pb ys + x.2 * Pb xs * Nt ys
    rw [Pb_app, Nt_app, Int.add_mul, Int.mul_add]
    have e1 : x.1 * (Pb xs * Pb ys) = x.1 * Pb xs * Pb ys := by ac_rfl
    have e2 : x.2 * (Nt xs * Pb ys) = x.2 * Nt xs * Pb ys := by ac_rfl
    have e3 : x.2 * (Pb xs * Nt ys) = x.2 * Pb xs * Nt ys := by ac_rfl
    rw [e1, e2, e3, Int.add_assoc]
theorem Pb_rev : ∀ xs : List Qp, Pb xs.reverse = Pb xs
  | [] => rfl
  | x :: xs => by
    rw [List.reverse_cons, Pb_app, Pb_rev xs]
    show Pb xs * (x.2 * 1) = x.2 * Pb xs
    rw [Int.mul_one, Int.mul_comm]
theorem Nt_rev : ∀ xs : List Qp, Nt xs.reverse = Nt xs
  | [] => rfl
  | x :: xs => by
    rw [List.reverse_cons, Nt_app, Nt_rev xs, Pb_rev xs]
    show Nt xs * (x.2 * 1) + Pb xs * (x.1 * 1 + x.2 * 0) = x.1 * Pb xs + x.2 * Nt xs
    rw [Int.mul_one, Int.mul_one, Int.mul_zero, Int.add_zero, Int.add_comm, Int.mul_comm (Pb xs), Int.mul_comm (Nt xs)]
/-- all fractions of a list together -/
def sumQ (xs : List Qp) : Qp := norm (Nt xs) (Pb xs)
theorem fr_sum {xs : List Qp} (h : ∀ x ∈ xs, Fr x) : Fr (sumQ xs) := fr_norm (Pb_ne h)
theorem sumQ_rev (xs : List Qp) : sumQ xs.reverse = sumQ xs := by
  unfold sumQ
  rw [Nt_rev, Pb_rev]
theorem sumQ_nil : sumQ [] = (0, 1) := norm_of (by decide) ⟨by decide, by decide⟩ rfl
theorem sumQ_one {x : Qp} (h : Fr x) : sumQ [x] = x := by
  refine norm_of ?_ h ?_
  · show x.2 * 1 ≠ 0
    have := h.pos
    omega
  · show x.1 * (x.2 * 1) = (x.1 * 1 + x.2 * 0) * x.2
    rw [Int.mul_one, Int.mul_one, Int.mul_zero, Int.add_zero]
/-- one more behind: as the program adds -/
theorem sumQ_snoc {xs : List Qp} {x : Qp} (h : ∀ y ∈ xs, Fr y) (hx : Fr x) : norm ((sumQ xs).1 * x.2 + x.1 * (sumQ xs).2) ((sumQ xs).2 * x.2) = sumQ (xs ++ [x]) := by
  have hp := (fr_sum h).pos
  have hxp := hx.pos
  have e := norm_eq (t := Nt xs) (Pb_ne h)
  have n1 : (sumQ xs).2 * x.2 ≠ 0 := Int.mul_ne_zero (by omega) (by omega)
  have n2 : Pb (xs ++ [x]) ≠ 0 := by
    rw [Pb_app]
    show Pb xs * (x.2 * 1) ≠ 0
    rw [Int.mul_one]
    exact Int.mul_ne_zero (Pb_ne h) (by omega)
  refine norm_cross n1 n2 ?_
  rw [Pb_app, Nt_app]
  show ((sumQ xs).1 * x.2 + x.1 * (sumQ xs).2) * (Pb xs * (x.2 * 1)) = (Nt xs * (x.2 * 1) + Pb xs * (x.1 * 1 + x.2 * 0)) * ((sumQ xs).2 * x.2)
  have e' : (sumQ xs).1 * Pb xs = Nt xs * (sumQ xs).2 := e
  rw [Int.mul_one, Int.mul_one, Int.mul_zero, Int.add_zero, Int.add_mul, Int.add_mul]
  have a1 : (sumQ xs).1 * x.2 * (Pb xs * x.2) = Nt xs * x.2 * ((sumQ xs).2 * x.2) := by
    calc (sumQ xs).1 * x.2 * (Pb xs * x.2) = (sumQ xs).1 * Pb xs * (x.2 * x.2) := by ac_rfl
      _ = Nt xs * (sumQ xs).2 * (x.2 * x.2) := by rw [e']
      _ = Nt xs * x.2 * ((sumQ xs).2 * x.2) := by ac_rfl
  have a2 : x.1 * (sumQ xs).2 * (Pb xs * x.2) = Pb xs * x.1 * ((sumQ xs).2 * x.2) := by ac_rfl
  rw [a1, a2]
def subQ (y x : Qp) : Qp := norm (y.1 * x.2 - x.1 * y.2) (x.2 * y.2)
def mulQ (x y : Qp) : Qp := norm (x.1 * y.1) (x.2 * y.2)
def divQ (x y : Qp) : Qp := norm (x.1 * y.2) (x.2 * y.1)
/-! ### sum_of, taken_from -/
def FrB (a : Nat) (xs : List Qp) : Prop := ∀ x ∈ xs, Fr x ∧ Lt2 a x

def Big (x : Int) : Prop := x.natAbs < 2 ^ 4000
def sp_divisor_of : GF := fun ds w _ k => ∃ a b : Int, ds = [.int a, .int b] ∧ k (.int (Int.gcd a b)) w
abbrev s_divisor_of : Stmt := topS 1
theorem sc_divisor_of : FnScope ["one", "other"] ["one", "other"] (defScope s_divisor_of) := ⟨rfl, rfl, rfl, by decide +kernel, rfl, by decide +kernel, by decide +kernel⟩
def g_divisor_of : GS := (gSeq (gPar 0 1 (gaCons (gCB fAbs (gaCons (gVar 0) gaNil)) (gaCons (gCB fAbs (gaCons (gVar 1) gaNil)) gaNil)))
  (gSeq (gWhile (gB (gBin gtD (gVar 1) (gC (.int 0)))) (gPar 0 1 (gaCons (gVar 1) (gaCons (gBin modD (gVar 0) (gVar 1)) gaNil))))
  (gRet (gVar 0))))
theorem w_divisor_of {P : Program} {w : World} {K : PySem.W.Frag} {mg : Str → Option Value} {base : Heap} (T : DefAt K mg "divisor_of" s_divisor_of ["one", "other"]) (B : Blt mg) : FnAt P w K mg base CX0 1 "divisor_of" 2 (sem0 2 g_divisor_of) := by
  have nd := sc_divisor_of.nd
  exact T.fn0 sc_divisor_of (fun f cdv A outer s H E hr => (dss_cons (ds_par (i := 0) (j := 1) rfl nd rfl rfl (by decide) rfl rfl (da_cons (de_abs B (by rfl) (da_cons (de_var 0) da_nil)) (da_cons (de_abs B (by rfl) (da_cons (de_var 1) da_nil)) da_nil)) (by rfl))
  (dss_cons (ds_while PassesOwn.never (dt_gt (de_var 1) de_int) (dss_one (ds_par (i := 0) (j := 1) rfl nd rfl rfl (by decide) rfl rfl (da_cons (de_var 1) (da_cons (de_mod (de_var 0) (de_var 1)) da_nil)) (by rfl))))
  (dss_one (ds_ret (de_var 0))))))

theorem v_divisor_of : ∀ ds w kx k, sp_divisor_of ds w kx k → sem0 2 g_divisor_of ds w kx k := by
  rintro ds w kx k ⟨a, b, rfl, hk⟩
  have e : rho 2 [D.int a, D.int b] = [some (.int a), some (.int b)] := rfl
  simp only [g_divisor_of, e, sem0, List.map_cons, List.map_nil, List.length_cons, List.length_nil, gSeq, gNext, gRet, gRetN, gIfS, gSet, gPar, gAsg, gDrop, gVar, gC, gBin, gUn, gB, gTru, gAnd, gOr, gNot, gAndV, gOrV, gNotV, gIf, gChain, gaNil, gaCons, DL.gTup, gLst, gCB, gCall0, gAug, addD_i, addD_s, addD_l, addD_t, subD_i, mulD_i, mulD_l, fdivD_i, modD_i, powD_i, ltD_i, ltD_s, leD_i, gtD_i, geD_i, isD_n, isnotD_n, isNonD_non, isNonD_bl, isNonD_int, isNonD_str, isNonD_lst, isNonD_tup, negD_i, iaddD_i, truD_non, truD_bl, truD_int, truD_str, truD_lst, truD_tup, someK_some, ixD_l, ixD_t, fAbs_i, fInt_i, fInt_b, fMin2_i, fLen_l, fLen_t, fLen_s, fList_l, fList_t, fTuple_l, fTuple_t, optBK_some, fIsi_non, fIsi_bl, fIsi_int, fIsi_str, fIsi_lst, fIsi_tup, List.getElem?_cons_zero, List.getElem?_cons_succ, List.set_cons_zero, List.set_cons_succ, DL.ggName, ggNil0, ggCons1, ggTup2, ggTup3, gFor, giSeq, gLc, gYes, wipeR, true_and, and_true, at_0, at_1, at_2, kit_int_int, kit_bool_int, kit_str_int, kit_non_int, kit_list_int, kit_tuple_int, kit_int_bool, kit_bool_bool, kit_str_bool, kit_non_bool, kit_list_bool, kit_tuple_bool, kit_int_str, kit_bool_str, kit_str_str, kit_non_str, kit_list_str, kit_tuple_str, kit_int_list, kit_bool_list, kit_str_list, kit_non_list, kit_list_list, kit_tuple_list, kit_int_tuple, kit_bool_tuple, kit_str_tuple, kit_non_tuple, kit_list_tuple, kit_tuple_tuple, eqD_i, neD_i, eqD_s, neD_s, eqD_f, neD_f, Nat.zero_add, Nat.reduceAdd, nc0, nc1, nc2, nc3, nc4, nc5, nc6, nc7, nc8, nc9, eq_self, decide_true, decide_false, Int.reduceEq, Int.reduceLT, Int.reduceLE, Int.reduceNeg, Bool.not_true, Bool.not_false, Bool.false_eq_true, if_true, if_false, ↓reduceIte, false_and, and_false, List.all_cons, List.all_nil, List.any_cons, List.any_nil, id_eq, Bool.and_true, Bool.true_and, Bool.or_false, Bool.false_or, Bool.and_false, Bool.false_and, gCut, eqD_b, neD_b, giZip, reduceCtorEq, Bool.true_eq_false, Bool.false_eq_true, gRevL, gSl, goNone, goSome, slD_l, ne_eq, not_false_eq_true, not_true_eq_false, gBM, isTy_l, isTy_s, new_at, new_set, isTy_new, cellK_new, append_new, popAt_new, gFrz_eq, frzK_new, fLen_new, fTuple_new, ixD_new, slA_l, slA_t, slA_new, addTD_t, addCD_l, mulCD_l, isbD_b, isnotbD_b, mSplitC_s, gLstC, gTr, ggSub, lstK_l, lstK_r, addLD_eq]
  refine ⟨fun m ρ w' => ∃ x y : Nat, ρ = [some (.int x), some (.int y)] ∧ Nat.gcd x y = Int.gcd a b ∧ m = y ∧ w' = w, ⟨_, a.natAbs, b.natAbs, rfl, rfl, rfl, rfl⟩, ?_⟩
  rintro m ρ w' ⟨x, y, rfl, hg, rfl, rfl⟩
  simp only [sem0, List.map_cons, List.map_nil, List.length_cons, List.length_nil, gSeq, gNext, gRet, gRetN, gIfS, gSet, gPar, gAsg, gDrop, gVar, gC, gBin, gUn, gB, gTru, gAnd, gOr, gNot, gAndV, gOrV, gNotV, gIf, gChain, gaNil, gaCons, DL.gTup, gLst, gCB, gCall0, gAug, addD_i, addD_s, addD_l, addD_t, subD_i, mulD_i, mulD_l, fdivD_i, modD_i, powD_i, ltD_i, ltD_s, leD_i, gtD_i, geD_i, isD_n, isnotD_n, isNonD_non, isNonD_bl, isNonD_int, isNonD_str, isNonD_lst, isNonD_tup, negD_i, iaddD_i, truD_non, truD_bl, truD_int, truD_str, truD_lst, truD_tup, someK_some, ixD_l, ixD_t, fAbs_i, fInt_i, fInt_b, fMin2_i, fLen_l, fLen_t, fLen_s, fList_l, fList_t, fTuple_l, fTuple_t, optBK_some, fIsi_non, fIsi_bl, fIsi_int, fIsi_str, fIsi_lst, fIsi_tup, List.getElem?_cons_zero, List.getElem?_cons_succ, List.set_cons_zero, List.set_cons_succ, DL.ggName, ggNil0, ggCons1, ggTup2, ggTup3, gFor, giSeq, gLc, gYes, wipeR, true_and, and_true, at_0, at_1, at_2, kit_int_int, kit_bool_int, kit_str_int, kit_non_int, kit_list_int, kit_tuple_int, kit_int_bool, kit_bool_bool, kit_str_bool, kit_non_bool, kit_list_bool, kit_tuple_bool, kit_int_str, kit_bool_str, kit_str_str, kit_non_str, kit_list_str, kit_tuple_str, kit_int_list, kit_bool_list, kit_str_list, kit_non_list, kit_list_list, kit_tuple_list, kit_int_tuple, kit_bool_tuple, kit_str_tuple, kit_non_tuple, kit_list_tuple, kit_tuple_tuple, eqD_i, neD_i, eqD_s, neD_s, eqD_f, neD_f, Nat.zero_add, Nat.reduceAdd, nc0, nc1, nc2, nc3, nc4, nc5, nc6, nc7, nc8, nc9, eq_self, decide_true, decide_false, Int.reduceEq, Int.reduceLT, Int.reduceLE, Int.reduceNeg, Bool.not_true, Bool.not_false, Bool.false_eq_true, if_true, if_false, ↓reduceIte, false_and, and_false, List.all_cons, List.all_nil, List.any_cons, List.any_nil, id_eq, Bool.and_true, Bool.true_and, Bool.or_false, Bool.false_or, Bool.and_false, Bool.false_and, gCut, eqD_b, neD_b, giZip, reduceCtorEq, Bool.true_eq_false, Bool.false_eq_true, gRevL, gSl, goNone, goSome, slD_l, ne_eq, not_false_eq_true, not_true_eq_false, gBM, isTy_l, isTy_s, new_at, new_set, isTy_new, cellK_new, append_new, popAt_new, gFrz_eq, frzK_new, fLen_new, fTuple_new, ixD_new, slA_l, slA_t, slA_new, addTD_t, addCD_l, mulCD_l, isbD_b, isnotbD_b, mSplitC_s, gLstC, gTr, ggSub, lstK_l, lstK_r, addLD_eq]
  refine ite2 (fun h => ?_) (fun h => ?_)
  · have h0 : 0 < m := by simpa using h
    refine ⟨by omega, x % m, Nat.mod_lt _ h0, m, x % m, by rw [fmod_nat], ?_, rfl⟩
    rw [← hg, Nat.gcd_comm x m, Nat.gcd_rec m x, Nat.gcd_comm]
  · have h0 : m = 0 := by
      have : ¬ 0 < m := by simpa using h
      omega
    subst h0
    rw [Nat.gcd_zero_right] at hg
    rw [hg]
    exact hk
theorem ok_divisor_of {P : Program} {w : World} {K : PySem.W.Frag} {mg : Str → Option Value} {base : Heap} (T : DefAt K mg "divisor_of" s_divisor_of ["one", "other"]) (B : Blt mg) : FnAt P w K mg base CX0 1 "divisor_of" 2 sp_divisor_of := (w_divisor_of T B ).imp v_divisor_of

def sp_fraction_of : GF := fun ds w _ k => ∃ t b : Int, ds = [.int t, .int b] ∧ (b ≠ 0 ∧ Big b) ∧ k (fD (norm t b)) w
abbrev s_fraction_of : Stmt := topS 2
theorem sc_fraction_of : FnScope ["top", "below", "divisor"] ["top", "below"] (defScope s_fraction_of) := ⟨rfl, rfl, rfl, by decide +kernel, rfl, by decide +kernel, by decide +kernel⟩
def g_fraction_of : GS := (gSeq (gSet 2 (gCall0 2 sp_divisor_of (gaCons (gVar 0) (gaCons (gVar 1) gaNil))))
  (gCut (gIfS (gB (gBin ltD (gVar 1) (gC (.int 0)))) (gSet 2 (gUn negD (gVar 2))) gNext)
  (gRet (gTup (gaCons (gBin fdivD (gVar 0) (gVar 2)) (gaCons (gBin fdivD (gVar 1) (gVar 2)) gaNil))))))
theorem w_fraction_of {P : Program} {w : World} {K : PySem.W.Frag} {mg : Str → Option Value} {base : Heap} (T : DefAt K mg "fraction_of" s_fraction_of ["top", "below"]) (B : Blt mg) (F_divisor_of : FnAt P w K mg base CX0 1 "divisor_of" 2 sp_divisor_of) : FnAt P w K mg base CX0 2 "fraction_of" 2 (sem0 3 g_fraction_of) := by
  have nd := sc_fraction_of.nd
  exact T.fn0 sc_fraction_of (fun f cdv A outer s H E hr => (dss_cons (ds_set (i := 2) nd rfl (by first | exact Or.inl rfl | exact Or.inr rfl) (de_call0 F_divisor_of hr (by rfl) (da_cons (de_var 0) (da_cons (de_var 1) da_nil))))
  (dss_cut (ds_if (dt_lt (de_var 1) de_int) (dss_one (ds_set (i := 2) nd rfl (by first | exact Or.inl rfl | exact Or.inr rfl) (de_neg (de_var 2)))) dss_nil)
  (dss_one (ds_ret (de_tup (da_cons (de_fdiv (de_var 0) (de_var 2)) (da_cons (de_fdiv (de_var 1) (de_var 2)) da_nil))))))))

theorem v_fraction_of : ∀ ds w kx k, sp_fraction_of ds w kx k → sem0 3 g_fraction_of ds w kx k := by
  rintro ds w kx k ⟨t, b, rfl, ⟨hb, hB⟩, hk⟩
  have e : rho 3 [D.int t, D.int b] = [some (.int t), some (.int b), none] := rfl
  have g0 := gcd_pos (t := t) hb
  have gl : (Int.gcd t b).log2 < 9000 := log_ok (Nat.lt_of_le_of_lt (gcd_le hb) hB)
  obtain ⟨d1, d2⟩ := sg_dvd t b
  obtain ⟨ns, nl⟩ : sg t b ≠ 0 ∧ (sg t b).natAbs.log2 < 9000 := ⟨sg_ne hb, by rw [sg_abs]; exact gl⟩
  simp only [g_fraction_of, e, sp_divisor_of, sem0, List.map_cons, List.map_nil, List.length_cons, List.length_nil, gSeq, gNext, gRet, gRetN, gIfS, gSet, gPar, gAsg, gDrop, gVar, gC, gBin, gUn, gB, gTru, gAnd, gOr, gNot, gAndV, gOrV, gNotV, gIf, gChain, gaNil, gaCons, DL.gTup, gLst, gCB, gCall0, gAug, addD_i, addD_s, addD_l, addD_t, subD_i, mulD_i, mulD_l, fdivD_i, modD_i, powD_i, ltD_i, ltD_s, leD_i, gtD_i, geD_i, isD_n, isnotD_n, isNonD_non, isNonD_bl, isNonD_int, isNonD_str, isNonD_lst, isNonD_tup, negD_i, iaddD_i, truD_non, truD_bl, truD_int, truD_str, truD_lst, truD_tup, someK_some, ixD_l, ixD_t, fAbs_i, fInt_i, fInt_b, fMin2_i, fLen_l, fLen_t, fLen_s, fList_l, fList_t, fTuple_l, fTuple_t, optBK_some, fIsi_non, fIsi_bl, fIsi_int, fIsi_str, fIsi_lst, fIsi_tup, List.getElem?_cons_zero, List.getElem?_cons_succ, List.set_cons_zero, List.set_cons_succ, DL.ggName, ggNil0, ggCons1, ggTup2, ggTup3, gFor, giSeq, gLc, gYes, wipeR, true_and, and_true, at_0, at_1, at_2, kit_int_int, kit_bool_int, kit_str_int, kit_non_int, kit_list_int, kit_tuple_int, kit_int_bool, kit_bool_bool, kit_str_bool, kit_non_bool, kit_list_bool, kit_tuple_bool, kit_int_str, kit_bool_str, kit_str_str, kit_non_str, kit_list_str, kit_tuple_str, kit_int_list, kit_bool_list, kit_str_list, kit_non_list, kit_list_list, kit_tuple_list, kit_int_tuple, kit_bool_tuple, kit_str_tuple, kit_non_tuple, kit_list_tuple, kit_tuple_tuple, eqD_i, neD_i, eqD_s, neD_s, eqD_f, neD_f, Nat.zero_add, Nat.reduceAdd, nc0, nc1, nc2, nc3, nc4, nc5, nc6, nc7, nc8, nc9, eq_self, decide_true, decide_false, Int.reduceEq, Int.reduceLT, Int.reduceLE, Int.reduceNeg, Bool.not_true, Bool.not_false, Bool.false_eq_true, if_true, if_false, ↓reduceIte, false_and, and_false, List.all_cons, List.all_nil, List.any_cons, List.any_nil, id_eq, Bool.and_true, Bool.true_and, Bool.or_false, Bool.false_or, Bool.and_false, Bool.false_and, gCut, eqD_b, neD_b, giZip, reduceCtorEq, Bool.true_eq_false, Bool.false_eq_true, gRevL, gSl, goNone, goSome, slD_l, ne_eq, not_false_eq_true, not_true_eq_false, gBM, isTy_l, isTy_s, new_at, new_set, isTy_new, cellK_new, append_new, popAt_new, gFrz_eq, frzK_new, fLen_new, fTuple_new, ixD_new, slA_l, slA_t, slA_new, addTD_t, addCD_l, mulCD_l, isbD_b, isnotbD_b, mSplitC_s, gLstC, gTr, ggSub, lstK_l, lstK_r, addLD_eq]
  refine ⟨t, b, rfl, fun ρ w' => ρ = [some (.int t), some (.int b), some (.int (sg t b))] ∧ w' = w, ?_, ?_⟩
  · refine ite2 (fun h => ⟨?_, rfl⟩) (fun h => ⟨?_, rfl⟩)
    · unfold sg
      rw [if_pos (by simpa using h)]
    · unfold sg
      rw [if_neg (by simpa using h)]
  · rintro ρ w' ⟨rfl, rfl⟩
    simp only [sem0, List.map_cons, List.map_nil, List.length_cons, List.length_nil, gSeq, gNext, gRet, gRetN, gIfS, gSet, gPar, gAsg, gDrop, gVar, gC, gBin, gUn, gB, gTru, gAnd, gOr, gNot, gAndV, gOrV, gNotV, gIf, gChain, gaNil, gaCons, DL.gTup, gLst, gCB, gCall0, gAug, addD_i, addD_s, addD_l, addD_t, subD_i, mulD_i, mulD_l, fdivD_i, modD_i, powD_i, ltD_i, ltD_s, leD_i, gtD_i, geD_i, isD_n, isnotD_n, isNonD_non, isNonD_bl, isNonD_int, isNonD_str, isNonD_lst, isNonD_tup, negD_i, iaddD_i, truD_non, truD_bl, truD_int, truD_str, truD_lst, truD_tup, someK_some, ixD_l, ixD_t, fAbs_i, fInt_i, fInt_b, fMin2_i, fLen_l, fLen_t, fLen_s, fList_l, fList_t, fTuple_l, fTuple_t, optBK_some, fIsi_non, fIsi_bl, fIsi_int, fIsi_str, fIsi_lst, fIsi_tup, List.getElem?_cons_zero, List.getElem?_cons_succ, List.set_cons_zero, List.set_cons_succ, DL.ggName, ggNil0, ggCons1, ggTup2, ggTup3, gFor, giSeq, gLc, gYes, wipeR, true_and, and_true, at_0, at_1, at_2, kit_int_int, kit_bool_int, kit_str_int, kit_non_int, kit_list_int, kit_tuple_int, kit_int_bool, kit_bool_bool, kit_str_bool, kit_non_bool, kit_list_bool, kit_tuple_bool, kit_int_str, kit_bool_str, kit_str_str, kit_non_str, kit_list_str, kit_tuple_str, kit_int_list, kit_bool_list, kit_str_list, kit_non_list, kit_list_list, kit_tuple_list, kit_int_tuple, kit_bool_tuple, kit_str_tuple, kit_non_tuple, kit_list_tuple, kit_tuple_tuple, eqD_i, neD_i, eqD_s, neD_s, eqD_f, neD_f, Nat.zero_add, Nat.reduceAdd, nc0, nc1, nc2, nc3, nc4, nc5, nc6, nc7, nc8, nc9, eq_self, decide_true, decide_false, Int.reduceEq, Int.reduceLT, Int.reduceLE, Int.reduceNeg, Bool.not_true, Bool.not_false, Bool.false_eq_true, if_true, if_false, ↓reduceIte, false_and, and_false, List.all_cons, List.all_nil, List.any_cons, List.any_nil, id_eq, Bool.and_true, Bool.true_and, Bool.or_false, Bool.false_or, Bool.and_false, Bool.false_and, gCut, eqD_b, neD_b, giZip, reduceCtorEq, Bool.true_eq_false, Bool.false_eq_true, gRevL, gSl, goNone, goSome, slD_l, ne_eq, not_false_eq_true, not_true_eq_false, gBM, isTy_l, isTy_s, new_at, new_set, isTy_new, cellK_new, append_new, popAt_new, gFrz_eq, frzK_new, fLen_new, fTuple_new, ixD_new, slA_l, slA_t, slA_new, addTD_t, addCD_l, mulCD_l, isbD_b, isnotbD_b, mSplitC_s, gLstC, gTr, ggSub, lstK_l, lstK_r, addLD_eq]
    exact ⟨⟨ns, nl⟩, ⟨ns, nl⟩, by decide, by rw [fdiv_dvd d1, fdiv_dvd d2]; exact hk⟩
theorem ok_fraction_of {P : Program} {w : World} {K : PySem.W.Frag} {mg : Str → Option Value} {base : Heap} (T : DefAt K mg "fraction_of" s_fraction_of ["top", "below"]) (B : Blt mg) (F_divisor_of : FnAt P w K mg base CX0 1 "divisor_of" 2 sp_divisor_of) : FnAt P w K mg base CX0 2 "fraction_of" 2 sp_fraction_of := (w_fraction_of T B F_divisor_of).imp v_fraction_of


def sp__law_lowest : GF := fun ds w _ k => ∃ t b : Int, ds = [.int t, .int b] ∧ (b ≠ 0 ∧ Big b ∧ Big t) ∧ k (fD (norm t b)) w
abbrev s__law_lowest : Stmt := topS 17
theorem sc__law_lowest : FnScope ["_law_top", "_law_below", "_law_one", "_law_other", "_law_sign"] ["_law_top", "_law_below"] (defScope s__law_lowest) := ⟨rfl, rfl, rfl, by decide +kernel, rfl, by decide +kernel, by decide +kernel⟩
def g__law_lowest : GS := (gSeq (gPar 2 3 (gaCons (gCB fAbs (gaCons (gVar 0) gaNil)) (gaCons (gCB fAbs (gaCons (gVar 1) gaNil)) gaNil)))
  (gSeq (gWhile (gB (gBin gtD (gVar 3) (gC (.int 0)))) (gPar 2 3 (gaCons (gVar 3) (gaCons (gBin modD (gVar 2) (gVar 3)) gaNil))))
  (gCut (gSet 4 (gIf (gB (gBin ltD (gVar 1) (gC (.int 0)))) (gUn negD (gC (.int 1))) (gC (.int 1))))
  (gRet (gTup (gaCons (gBin fdivD (gBin mulD (gVar 4) (gVar 0)) (gVar 2)) (gaCons (gBin fdivD (gBin mulD (gVar 4) (gVar 1)) (gVar 2)) gaNil)))))))
theorem w__law_lowest {P : Program} {w : World} {K : PySem.W.Frag} {mg : Str → Option Value} {base : Heap} (T : DefAt K mg "_law_lowest" s__law_lowest ["_law_top", "_law_below"]) (B : Blt mg) : FnAt P w K mg base CX0 1 "_law_lowest" 2 (sem0 5 g__law_lowest) := by
  have nd := sc__law_lowest.nd
  exact T.fn0 sc__law_lowest (fun f cdv A outer s H E hr => (dss_cons (ds_par (i := 2) (j := 3) rfl nd rfl rfl (by decide) rfl rfl (da_cons (de_abs B (by rfl) (da_cons (de_var 0) da_nil)) (da_cons (de_abs B (by rfl) (da_cons (de_var 1) da_nil)) da_nil)) (by rfl))
  (dss_cons (ds_while PassesOwn.never (dt_gt (de_var 3) de_int) (dss_one (ds_par (i := 2) (j := 3) rfl nd rfl rfl (by decide) rfl rfl (da_cons (de_var 3) (da_cons (de_mod (de_var 2) (de_var 3)) da_nil)) (by rfl))))
  (dss_cut (ds_set (i := 4) nd rfl (by first | exact Or.inl rfl | exact Or.inr rfl) (de_ifExp (dt_lt (de_var 1) de_int) (de_neg de_int) de_int))
  (dss_one (ds_ret (de_tup (da_cons (de_fdiv (de_mul (de_var 4) (de_var 0)) (de_var 2)) (da_cons (de_fdiv (de_mul (de_var 4) (de_var 1)) (de_var 2)) da_nil)))))))))

theorem v__law_lowest : ∀ ds w kx k, sp__law_lowest ds w kx k → sem0 5 g__law_lowest ds w kx k := by
  rintro ds w kx k ⟨t, b, rfl, ⟨hb, hB, hT⟩, hk⟩
  have e : rho 5 [D.int t, D.int b] = [some (.int t), some (.int b), none, none, none] := rfl
  have g0 := gcd_pos (t := t) hb
  have gl : (Int.gcd t b).log2 < 9000 := log_ok (Nat.lt_of_le_of_lt (gcd_le hb) hB)
  simp only [g__law_lowest, e, sem0, List.map_cons, List.map_nil, List.length_cons, List.length_nil, gSeq, gNext, gRet, gRetN, gIfS, gSet, gPar, gAsg, gDrop, gVar, gC, gBin, gUn, gB, gTru, gAnd, gOr, gNot, gAndV, gOrV, gNotV, gIf, gChain, gaNil, gaCons, DL.gTup, gLst, gCB, gCall0, gAug, addD_i, addD_s, addD_l, addD_t, subD_i, mulD_i, mulD_l, fdivD_i, modD_i, powD_i, ltD_i, ltD_s, leD_i, gtD_i, geD_i, isD_n, isnotD_n, isNonD_non, isNonD_bl, isNonD_int, isNonD_str, isNonD_lst, isNonD_tup, negD_i, iaddD_i, truD_non, truD_bl, truD_int, truD_str, truD_lst, truD_tup, someK_some, ixD_l, ixD_t, fAbs_i, fInt_i, fInt_b, fMin2_i, fLen_l, fLen_t, fLen_s, fList_l, fList_t, fTuple_l, fTuple_t, optBK_some, fIsi_non, fIsi_bl, fIsi_int, fIsi_str, fIsi_lst, fIsi_tup, List.getElem?_cons_zero, List.getElem?_cons_succ, List.set_cons_zero, List.set_cons_succ, DL.ggName, ggNil0, ggCons1, ggTup2, ggTup3, gFor, giSeq, gLc, gYes, wipeR, true_and, and_true, at_0, at_1, at_2, kit_int_int, kit_bool_int, kit_str_int, kit_non_int, kit_list_int, kit_tuple_int, kit_int_bool, kit_bool_bool, kit_str_bool, kit_non_bool, kit_list_bool, kit_tuple_bool, kit_int_str, kit_bool_str, kit_str_str, kit_non_str, kit_list_str, kit_tuple_str, kit_int_list, kit_bool_list, kit_str_list, kit_non_list, kit_list_list, kit_tuple_list, kit_int_tuple, kit_bool_tuple, kit_str_tuple, kit_non_tuple, kit_list_tuple, kit_tuple_tuple, eqD_i, neD_i, eqD_s, neD_s, eqD_f, neD_f, Nat.zero_add, Nat.reduceAdd, nc0, nc1, nc2, nc3, nc4, nc5, nc6, nc7, nc8, nc9, eq_self, decide_true, decide_false, Int.reduceEq, Int.reduceLT, Int.reduceLE, Int.reduceNeg, Bool.not_true, Bool.not_false, Bool.false_eq_true, if_true, if_false, ↓reduceIte, false_and, and_false, List.all_cons, List.all_nil, List.any_cons, List.any_nil, id_eq, Bool.and_true, Bool.true_and, Bool.or_false, Bool.false_or, Bool.and_false, Bool.false_and, gCut, eqD_b, neD_b, giZip, reduceCtorEq, Bool.true_eq_false, Bool.false_eq_true, gRevL, gSl, goNone, goSome, slD_l, ne_eq, not_false_eq_true, not_true_eq_false, gBM, isTy_l, isTy_s, new_at, new_set, isTy_new, cellK_new, append_new, popAt_new, gFrz_eq, frzK_new, fLen_new, fTuple_new, ixD_new, slA_l, slA_t, slA_new, addTD_t, addCD_l, mulCD_l, isbD_b, isnotbD_b, mSplitC_s, gLstC, gTr, ggSub, lstK_l, lstK_r, addLD_eq]
  refine ⟨fun m ρ w' => ∃ x y : Nat, ρ = [some (.int t), some (.int b), some (.int x), some (.int y), none] ∧ Nat.gcd x y = Int.gcd t b ∧ m = y ∧ w' = w, ⟨_, t.natAbs, b.natAbs, rfl, rfl, rfl, rfl⟩, ?_⟩
  rintro m ρ w' ⟨x, y, rfl, hg, rfl, rfl⟩
  simp only [sem0, List.map_cons, List.map_nil, List.length_cons, List.length_nil, gSeq, gNext, gRet, gRetN, gIfS, gSet, gPar, gAsg, gDrop, gVar, gC, gBin, gUn, gB, gTru, gAnd, gOr, gNot, gAndV, gOrV, gNotV, gIf, gChain, gaNil, gaCons, DL.gTup, gLst, gCB, gCall0, gAug, addD_i, addD_s, addD_l, addD_t, subD_i, mulD_i, mulD_l, fdivD_i, modD_i, powD_i, ltD_i, ltD_s, leD_i, gtD_i, geD_i, isD_n, isnotD_n, isNonD_non, isNonD_bl, isNonD_int, isNonD_str, isNonD_lst, isNonD_tup, negD_i, iaddD_i, truD_non, truD_bl, truD_int, truD_str, truD_lst, truD_tup, someK_some, ixD_l, ixD_t, fAbs_i, fInt_i, fInt_b, fMin2_i, fLen_l, fLen_t, fLen_s, fList_l, fList_t, fTuple_l, fTuple_t, optBK_some, fIsi_non, fIsi_bl, fIsi_int, fIsi_str, fIsi_lst, fIsi_tup, List.getElem?_cons_zero, List.getElem?_cons_succ, List.set_cons_zero, List.set_cons_succ, DL.ggName, ggNil0, ggCons1, ggTup2, ggTup3, gFor, giSeq, gLc, gYes, wipeR, true_and, and_true, at_0, at_1, at_2, kit_int_int, kit_bool_int, kit_str_int, kit_non_int, kit_list_int, kit_tuple_int, kit_int_bool, kit_bool_bool, kit_str_bool, kit_non_bool, kit_list_bool, kit_tuple_bool, kit_int_str, kit_bool_str, kit_str_str, kit_non_str, kit_list_str, kit_tuple_str, kit_int_list, kit_bool_list, kit_str_list, kit_non_list, kit_list_list, kit_tuple_list, kit_int_tuple, kit_bool_tuple, kit_str_tuple, kit_non_tuple, kit_list_tuple, kit_tuple_tuple, eqD_i, neD_i, eqD_s, neD_s, eqD_f, neD_f, Nat.zero_add, Nat.reduceAdd, nc0, nc1, nc2, nc3, nc4, nc5, nc6, nc7, nc8, nc9, eq_self, decide_true, decide_false, Int.reduceEq, Int.reduceLT, Int.reduceLE, Int.reduceNeg, Bool.not_true, Bool.not_false, Bool.false_eq_true, if_true, if_false, ↓reduceIte, false_and, and_false, List.all_cons, List.all_nil, List.any_cons, List.any_nil, id_eq, Bool.and_true, Bool.true_and, Bool.or_false, Bool.false_or, Bool.and_false, Bool.false_and, gCut, eqD_b, neD_b, giZip, reduceCtorEq, Bool.true_eq_false, Bool.false_eq_true, gRevL, gSl, goNone, goSome, slD_l, ne_eq, not_false_eq_true, not_true_eq_false, gBM, isTy_l, isTy_s, new_at, new_set, isTy_new, cellK_new, append_new, popAt_new, gFrz_eq, frzK_new, fLen_new, fTuple_new, ixD_new, slA_l, slA_t, slA_new, addTD_t, addCD_l, mulCD_l, isbD_b, isnotbD_b, mSplitC_s, gLstC, gTr, ggSub, lstK_l, lstK_r, addLD_eq]
  refine ite2 (fun h => ?_) (fun h => ?_)
  · have h0 : 0 < m := by simpa using h
    refine ⟨by omega, x % m, Nat.mod_lt _ h0, m, x % m, by rw [fmod_nat], ?_, rfl⟩
    rw [← hg, Nat.gcd_comm x m, Nat.gcd_rec m x, Nat.gcd_comm]
  · have h0 : m = 0 := by
      have : ¬ 0 < m := by simpa using h
      omega
    subst h0
    rw [Nat.gcd_zero_right] at hg
    rw [hg]
    obtain ⟨d1, d2⟩ := sg_dvd t b
    have gd1 : (Int.gcd t b : Int) ∣ t := Int.gcd_dvd_left t b
    have gd2 : (Int.gcd t b : Int) ∣ b := Int.gcd_dvd_right t b
    have gn : (Int.gcd t b : Int) ≠ 0 := by omega
    have gl2 : (Int.gcd t b : Int).natAbs.log2 < 9000 := by simpa using gl
    have key : ∀ s : Int, (s = -1 ∧ b < 0) ∨ (s = 1 ∧ ¬ b < 0) → (s * t).fdiv (Int.gcd t b : Int) = frT t b ∧ (s * b).fdiv (Int.gcd t b : Int) = frB t b ∧ s.natAbs < 2 ^ 1 := by
      rintro s (⟨rfl, h0⟩ | ⟨rfl, h0⟩)
      · refine ⟨?_, ?_, by decide⟩
        · rw [fdiv_dvd (by rw [Int.neg_one_mul]; exact Int.dvd_neg.mpr gd1)]
          unfold frT sg
          rw [if_pos h0, Int.neg_one_mul, Int.ediv_neg, Int.neg_ediv_of_dvd gd1]
        · rw [fdiv_dvd (by rw [Int.neg_one_mul]; exact Int.dvd_neg.mpr gd2)]
          unfold frB sg
          rw [if_pos h0, Int.neg_one_mul, Int.ediv_neg, Int.neg_ediv_of_dvd gd2]
      · refine ⟨?_, ?_, by decide⟩
        · rw [Int.one_mul, fdiv_dvd gd1]
          unfold frT sg
          rw [if_neg h0]
        · rw [Int.one_mul, fdiv_dvd gd2]
          unfold frB sg
          rw [if_neg h0]
    refine ⟨fun ρ w'' => w'' = w' ∧ ∃ s : Int, ((s = -1 ∧ b < 0) ∨ (s = 1 ∧ ¬ b < 0)) ∧ ρ = [some (.int t), some (.int b), some (.int (Int.gcd t b : Int)), some (.int ((0 : Nat) : Int)), some (.int s)], ite2 (fun h => ⟨rfl, -1, .inl ⟨rfl, by simpa using h⟩, rfl⟩) (fun h => ⟨rfl, 1, .inr ⟨rfl, by simpa using h⟩, rfl⟩), ?_⟩
    rintro ρ w'' ⟨rfl, s, hs, rfl⟩
    obtain ⟨s1, s2, s3⟩ := key s hs
    simp only [sem0, List.map_cons, List.map_nil, List.length_cons, List.length_nil, gSeq, gNext, gRet, gRetN, gIfS, gSet, gPar, gAsg, gDrop, gVar, gC, gBin, gUn, gB, gTru, gAnd, gOr, gNot, gAndV, gOrV, gNotV, gIf, gChain, gaNil, gaCons, DL.gTup, gLst, gCB, gCall0, gAug, addD_i, addD_s, addD_l, addD_t, subD_i, mulD_i, mulD_l, fdivD_i, modD_i, powD_i, ltD_i, ltD_s, leD_i, gtD_i, geD_i, isD_n, isnotD_n, isNonD_non, isNonD_bl, isNonD_int, isNonD_str, isNonD_lst, isNonD_tup, negD_i, iaddD_i, truD_non, truD_bl, truD_int, truD_str, truD_lst, truD_tup, someK_some, ixD_l, ixD_t, fAbs_i, fInt_i, fInt_b, fMin2_i, fLen_l, fLen_t, fLen_s, fList_l, fList_t, fTuple_l, fTuple_t, optBK_some, fIsi_non, fIsi_bl, fIsi_int, fIsi_str, fIsi_lst, fIsi_tup, List.getElem?_cons_zero, List.getElem?_cons_succ, List.set_cons_zero, List.set_cons_succ, DL.ggName, ggNil0, ggCons1, ggTup2, ggTup3, gFor, giSeq, gLc, gYes, wipeR, true_and, and_true, at_0, at_1, at_2, kit_int_int, kit_bool_int, kit_str_int, kit_non_int, kit_list_int, kit_tuple_int, kit_int_bool, kit_bool_bool, kit_str_bool, kit_non_bool, kit_list_bool, kit_tuple_bool, kit_int_str, kit_bool_str, kit_str_str, kit_non_str, kit_list_str, kit_tuple_str, kit_int_list, kit_bool_list, kit_str_list, kit_non_list, kit_list_list, kit_tuple_list, kit_int_tuple, kit_bool_tuple, kit_str_tuple, kit_non_tuple, kit_list_tuple, kit_tuple_tuple, eqD_i, neD_i, eqD_s, neD_s, eqD_f, neD_f, Nat.zero_add, Nat.reduceAdd, nc0, nc1, nc2, nc3, nc4, nc5, nc6, nc7, nc8, nc9, eq_self, decide_true, decide_false, Int.reduceEq, Int.reduceLT, Int.reduceLE, Int.reduceNeg, Bool.not_true, Bool.not_false, Bool.false_eq_true, if_true, if_false, ↓reduceIte, false_and, and_false, List.all_cons, List.all_nil, List.any_cons, List.any_nil, id_eq, Bool.and_true, Bool.true_and, Bool.or_false, Bool.false_or, Bool.and_false, Bool.false_and, gCut, eqD_b, neD_b, giZip, reduceCtorEq, Bool.true_eq_false, Bool.false_eq_true, gRevL, gSl, goNone, goSome, slD_l, ne_eq, not_false_eq_true, not_true_eq_false, gBM, isTy_l, isTy_s, new_at, new_set, isTy_new, cellK_new, append_new, popAt_new, gFrz_eq, frzK_new, fLen_new, fTuple_new, ixD_new, slA_l, slA_t, slA_new, addTD_t, addCD_l, mulCD_l, isbD_b, isnotbD_b, mSplitC_s, gLstC, gTr, ggSub, lstK_l, lstK_r, addLD_eq]
    rw [s1, s2]
    exact ⟨mulx_ok (a := 1) (b := 4000) s3 hT (by decide), ⟨gn, gl2⟩, mulx_ok (a := 1) (b := 4000) s3 hB (by decide), ⟨gn, gl2⟩, by decide, hk⟩
theorem ok__law_lowest {P : Program} {w : World} {K : PySem.W.Frag} {mg : Str → Option Value} {base : Heap} (T : DefAt K mg "_law_lowest" s__law_lowest ["_law_top", "_law_below"]) (B : Blt mg) : FnAt P w K mg base CX0 1 "_law_lowest" 2 sp__law_lowest := (w__law_lowest T B ).imp v__law_lowest


/-! ### rows -/
abbrev Rate := Option Int × Qp
def optD : Option Int → D
  | none => .non
  | some i => .int i
def rateD (r : Rate) : D := .tup [optD r.1, fD r.2]
inductive Row where
  | of (n : Str) (p : Qp)
  | steps (n : Str) (rs : List Rate)
  | left (n : Str) (p : Qp)
  | length (n : Str) (m : Int)
def rowD : Row → D
  | .of n p => .tup [.str "of", .str n, fD p]
  | .steps n rs => .tup [.str "steps", .str n, .tup (rs.map rateD)]
  | .left n p => .tup [.str "left", .str n, fD p]
  | .length n m => .tup [.str "length", .str n, .int m]
def kindS : Row → Str
  | .of _ _ => "of"
  | .steps _ _ => "steps"
  | .left _ _ => "left"
  | .length _ _ => "length"
/-- a part: below 2 ^ 12 either way, above 0 -/
structure Part (p : Qp) : Prop where
  fr : Fr p
  lt : Lt2 12 p
  pos : 0 < p.1
def Rates (rs : List Rate) : Prop := rs.length ≤ 8 ∧ (∀ r ∈ rs, Part r.2) ∧ ∃ q, (none, q) ∈ rs
def RowOk : Row → Prop
  | .of _ p => Part p
  | .steps _ rs => Rates rs
  | .left _ p => Part p
  | .length _ m => 0 < m ∧ m ≤ 1000
theorem low_f {n : Nat} (p : Qp) : low n (fD p) = true := rfl
theorem low_rate {n : Nat} (r : Rate) : low n (rateD r) = true := by
  obtain ⟨u, p⟩ := r
  cases u <;> rfl
theorem low_row {n : Nat} (r : Row) : low n (rowD r) = true := by
  cases r with
  | steps s rs =>
    show (true && (true && (lows n (rs.map rateD) && true))) = true
    rw [lows_of fun x hx => ?_]
    · rfl
    · obtain ⟨r, _, rfl⟩ := List.mem_map.mp hx
      exact low_rate r
  | _ => rfl
theorem low_rows {n : Nat} (rs : List Row) : lows n (rs.map rowD) = true := lows_of fun x hx => by
  obtain ⟨r, _, rfl⟩ := List.mem_map.mp hx
  exact low_row r
theorem low_parts {n : Nat} (rs : List Qp) : lows n (rs.map fD) = true := lows_of fun x hx => by
  obtain ⟨r, _, rfl⟩ := List.mem_map.mp hx
  exact low_f r
section
variable {w : Wd} {k : KD} {r : Row} {n : Str} {p : Qp} {rs : List Rate} {m : Int} {t : Rate}
theorem row0 : ixD (rowD r) (.int 0) w k = k (.str (kindS r)) w := by cases r <;> rfl
theorem row2_of : ixD (rowD (.of n p)) (.int 2) w k = k (fD p) w := rfl
theorem row2_st : ixD (rowD (.steps n rs)) (.int 2) w k = k (.tup (rs.map rateD)) w := rfl
theorem row_of : D.tup [.str "of", .str n, fD p] = rowD (.of n p) := rfl
theorem rate_tup {q : GGs} {ρ : Rho} {kr : Rho → Wd → Prop} : DL.ggTup 2 q (rateD t) ρ w kr = q [optD t.1, fD t.2] ρ w kr := by
  show (2 = 2 ∧ q [optD t.1, fD t.2] ρ w kr) = _
  simp
end
/-! parts of a coin, as the rows have them -/
def ofP : Row → Option Qp
  | .of _ p => some p
  | _ => none
def stP : Row → Option (List Rate)
  | .steps _ rs => some rs
  | _ => none
def great : List Rate → Qp → Qp
  | [], g => g
  | r :: rs, g => great rs (if g.1 * r.2.2 < r.2.1 * g.2 then r.2 else g)
def ofs (rs : List Row) : List Qp := rs.filterMap ofP
def sts (rs : List Row) : List Qp := (rs.filterMap stP).map fun r => great r (0, 1)
def partsOf (rs : List Row) : List Qp := ofs rs ++ sts rs
structure Pt0 (p : Qp) : Prop where
  fr : Fr p
  lt : Lt2 12 p
  pos : 0 ≤ p.1
theorem Part.pt0 {p : Qp} (h : Part p) : Pt0 p := ⟨h.fr, h.lt, Int.le_of_lt h.pos⟩
theorem pt00 : Pt0 (0, 1) := ⟨⟨by decide, by decide⟩, ⟨by decide, by decide⟩, by decide⟩
theorem great_ok : ∀ {rs : List Rate} {g : Qp}, (∀ r ∈ rs, Part r.2) → Pt0 g → Pt0 (great rs g)
  | [], _, _, h => h
  | r :: rs, g, hr, h => by
    unfold great
    refine great_ok (fun x hx => hr x (List.mem_cons_of_mem _ hx)) ?_
    split
    · exact (hr r List.mem_cons_self).pt0
    · exact h
theorem ofs_ok {rs : List Row} (h : ∀ r ∈ rs, RowOk r) : ∀ p ∈ ofs rs, Pt0 p := fun p hp => by
  obtain ⟨r, hr, e⟩ := List.mem_filterMap.mp hp
  have := h r hr
  cases r with
  | of n q =>
    cases e
    exact Part.pt0 this
  | _ => cases e
theorem sts_ok {rs : List Row} (h : ∀ r ∈ rs, RowOk r) : ∀ p ∈ sts rs, Pt0 p := fun p hp => by
  obtain ⟨q, hq, rfl⟩ := List.mem_map.mp hp
  obtain ⟨r, hr, e⟩ := List.mem_filterMap.mp hq
  have := h r hr
  cases r with
  | steps n q =>
    cases e
    exact great_ok this.2.1 pt00
  | _ => cases e
theorem partsOf_ok {rs : List Row} (h : ∀ r ∈ rs, RowOk r) : FrB 12 (partsOf rs) := fun p hp => by
  rcases List.mem_append.mp hp with hp | hp
  · exact ⟨(ofs_ok h p hp).fr, (ofs_ok h p hp).lt⟩
  · exact ⟨(sts_ok h p hp).fr, (sts_ok h p hp).lt⟩
theorem partsOf_len (rs : List Row) : (partsOf rs).length ≤ 2 * rs.length := by
  unfold partsOf ofs sts
  rw [List.length_append, List.length_map]
  have h1 := List.length_filterMap_le ofP rs
  have h2 := List.length_filterMap_le stP rs
  omega
/-- a list's parts come to m sixtieths at most -/
def Wt (ps : List Qp) (m : Int) : Prop := 60 * Nt ps ≤ m * Pb ps
theorem wt_nil {m : Int} (h : 0 ≤ m) : Wt [] m := by
  show 60 * 0 ≤ m * 1
  omega
theorem wt_app {xs ys : List Qp} {m n : Int} (fx : ∀ x ∈ xs, Fr x) (fy : ∀ x ∈ ys, Fr x) (h1 : Wt xs m) (h2 : Wt ys n) : Wt (xs ++ ys) (m + n) := by
  unfold Wt at *
  rw [Nt_app, Pb_app]
  have p1 := Pb_pos fx
  have p2 := Pb_pos fy
  have a := Int.mul_le_mul_of_nonneg_right h1 (Int.le_of_lt p2)
  have b := Int.mul_le_mul_of_nonneg_right h2 (Int.le_of_lt p1)
  have e1 : 60 * (Nt xs * Pb ys) = 60 * Nt xs * Pb ys := by ac_rfl
  have e2 : 60 * (Pb xs * Nt ys) = 60 * Nt ys * Pb xs := by ac_rfl
  have e3 : m * (Pb xs * Pb ys) = m * Pb xs * Pb ys := by ac_rfl
  have e4 : n * (Pb xs * Pb ys) = n * Pb ys * Pb xs := by ac_rfl
  rw [Int.mul_add, Int.add_mul, e1, e2, e3, e4]
  exact Int.add_le_add a b
theorem wt_one {p : Qp} {m : Int} (h : 60 * p.1 ≤ m * p.2) : Wt [p] m := by
  show 60 * (p.1 * 1 + p.2 * 0) ≤ m * (p.2 * 1)
  rw [Int.mul_one, Int.mul_one, Int.mul_zero, Int.add_zero]
  exact h
theorem wt_mono {xs : List Qp} {m n : Int} (f : ∀ x ∈ xs, Fr x) (h : Wt xs m) (l : m ≤ n) : Wt xs n := Int.le_trans h (Int.mul_le_mul_of_nonneg_right l (Int.le_of_lt (Pb_pos f)))
theorem wt_sum {xs : List Qp} (f : ∀ x ∈ xs, Fr x) (h : Wt xs 60) : (sumQ xs).1 ≤ (sumQ xs).2 := by
  unfold Wt at h
  have hl : Nt xs ≤ Pb xs := by omega
  have e := norm_eq (t := Nt xs) (Pb_ne f)
  have p := Pb_pos f
  have q := (fr_sum f).pos
  have e' : (sumQ xs).1 * Pb xs = Nt xs * (sumQ xs).2 := e
  have h2 : Nt xs * (sumQ xs).2 ≤ Pb xs * (sumQ xs).2 := Int.mul_le_mul_of_nonneg_right hl (Int.le_of_lt q)
  rw [← e', Int.mul_comm (Pb xs)] at h2
  exact Int.le_of_mul_le_mul_right h2 p
theorem great_le {m : Int} : ∀ {rs : List Rate} {g : Qp}, (∀ r ∈ rs, 60 * r.2.1 ≤ m * r.2.2) → 60 * g.1 ≤ m * g.2 → 60 * (great rs g).1 ≤ m * (great rs g).2
  | [], _, _, h => h
  | r :: rs, g, hr, h => by
    unfold great
    refine great_le (fun x hx => hr x (List.mem_cons_of_mem _ hx)) ?_
    split
    · exact hr r List.mem_cons_self
    · exact h
/-- the rows' parts, of ones and steps ones, come to m sixtieths at most -/
def RowsW (rs : List Row) (m : Int) : Prop := ∃ a b : Int, Wt (ofs rs) a ∧ Wt (sts rs) b ∧ a + b ≤ m
/-- what a row takes -/
def RowW : Row → Int → Prop
  | .of _ p, m => 60 * p.1 ≤ m * p.2
  | .steps _ rs, m => ∀ r ∈ rs, 60 * r.2.1 ≤ m * r.2.2
  | _, _ => True
theorem ofs_app (xs ys : List Row) : ofs (xs ++ ys) = ofs xs ++ ofs ys := by
  unfold ofs
  rw [List.filterMap_append]
theorem sts_app (xs ys : List Row) : sts (xs ++ ys) = sts xs ++ sts ys := by
  unfold sts
  rw [List.filterMap_append, List.map_append]
theorem rowsW_add {rs : List Row} {r : Row} {m t : Int} (hs : ∀ x ∈ rs, RowOk x) (hr : RowOk r) (h : RowsW rs m) (ht : 0 ≤ t) (hw : RowW r t) : RowsW (rs ++ [r]) (m + t) := by
  obtain ⟨a, b, h1, h2, h3⟩ := h
  unfold RowsW
  rw [ofs_app, sts_app]
  have f1 : ∀ x ∈ ofs rs, Fr x := fun x hx => (ofs_ok hs x hx).fr
  have f2 : ∀ x ∈ sts rs, Fr x := fun x hx => (sts_ok hs x hx).fr
  have g1 : ∀ x ∈ ofs [r], Fr x := fun x hx => (ofs_ok (rs := [r]) (fun y hy => by rw [List.mem_singleton] at hy; subst hy; exact hr) x hx).fr
  have g2 : ∀ x ∈ sts [r], Fr x := fun x hx => (sts_ok (rs := [r]) (fun y hy => by rw [List.mem_singleton] at hy; subst hy; exact hr) x hx).fr
  cases r with
  | of n p => exact ⟨a + t, b + 0, wt_app f1 g1 h1 (wt_one hw), wt_app f2 g2 h2 (wt_nil (by decide)), by omega⟩
  | steps n qs =>
    refine ⟨a + 0, b + t, wt_app f1 g1 h1 (wt_nil (by decide)), wt_app f2 g2 h2 (wt_one (great_le hw ?_)), by omega⟩
    show 60 * 0 ≤ t * 1
    omega
  | left n p => exact ⟨a + 0, b + 0, wt_app f1 g1 h1 (wt_nil (by decide)), wt_app f2 g2 h2 (wt_nil (by decide)), by omega⟩
  | length n p => exact ⟨a + 0, b + 0, wt_app f1 g1 h1 (wt_nil (by decide)), wt_app f2 g2 h2 (wt_nil (by decide)), by omega⟩
theorem rowsW_le {rs : List Row} (hs : ∀ x ∈ rs, RowOk x) (h : RowsW rs 60) : (sumQ (partsOf rs)).1 ≤ (sumQ (partsOf rs)).2 := by
  obtain ⟨a, b, h1, h2, h3⟩ := h
  have f : ∀ x ∈ partsOf rs, Fr x := fun x hx => (partsOf_ok hs x hx).1
  exact wt_sum f (wt_mono f (wt_app (fun x hx => (ofs_ok hs x hx).fr) (fun x hx => (sts_ok hs x hx).fr) h1 h2) h3)

theorem erase_map {α β : Type} (f : α → β) : ∀ (xs : List α) (i : Nat), (xs.map f).eraseIdx i = (xs.eraseIdx i).map f
  | [], i => by simp
  | x :: xs, 0 => rfl
  | x :: xs, i + 1 => by
    simp [erase_map f xs i]
theorem lt_sl {n : Nat} (h : n ≤ 100000) : n < sizeLine := Nat.lt_of_le_of_lt h (by decide)
theorem le_sl {n : Nat} (h : n ≤ 100000) : n ≤ sizeLine := Nat.le_of_lt (lt_sl h)
def NameOk (s : Str) : Prop := (PyData.strOk s && decide (s.length ≤ 100)) = true
/-- so many names -/
def sp__law_names : GF := fun ds w _ k => ∃ (m c n : Nat), ds = [.st, .int (m : Int)] ∧ (m ≤ 12 ∧ w.n = some c ∧ n + m ≤ c) ∧ ∀ (ss : List Str) c', ss.length = m → (∀ s ∈ ss, NameOk s) → n ≤ c' → k (.lst (ss.map D.str)) ⟨w.M, some c'⟩
abbrev s__law_names : Stmt := topS 20
theorem sc__law_names : FnScope ["_law_state", "_law_many", "_law_some", "_law_turn"] ["_law_state", "_law_many"] (defScope s__law_names) := ⟨rfl, rfl, rfl, by decide +kernel, rfl, by decide +kernel, by decide +kernel⟩
def g__law_names : GS := (gSeq (gSet 2 (gBM "str" mSplitC (gC (.str "b aa zebra c quartzes ab m knows d mm likes z ba abcdefgh y zz e x f g hh jj kk pave")) (gaCons (gC (.str " ")) gaNil)))
  (gRet (gLc (giRange1 (gaCons (gVar 1) gaNil)) (ggName 3) gYes (gBM "list" mPopAt (gVar 2) (gaCons (gCall0 2 sp__law_take (gaCons (gVar 0) (gaCons (gCB fLen (gaCons (gVar 2) gaNil)) gaNil))) gaNil)) [3])))
theorem w__law_names {P : Program} {w : World} {K : PySem.W.Frag} {mg : Str → Option Value} {base : Heap} (T : DefAt K mg "_law_names" s__law_names ["_law_state", "_law_many"]) (B : Blt mg) (F__law_take : FnAt P w K mg base CX0 1 "_law_take" 2 sp__law_take) : FnAt P w K mg base CX0 2 "_law_names" 2 (sem0 4 g__law_names) := by
  have nd := sc__law_names.nd
  exact T.fn0 sc__law_names (fun f cdv A outer s H E hr => (dss_cons (ds_set (i := 2) nd rfl (by first | exact Or.inl rfl | exact Or.inr rfl) (de_bm PySem.F.plainAttrs_str PySem.F.slot_str_split (by rfl) mt_split ok_splitC de_str (da_cons de_str da_nil) (by rfl) (by rfl) (by rfl) (by rfl) (by rfl)))
  (dss_one (ds_ret (de_lc (own := [("_law_turn", 3)]) (us := [3]) rfl nd (di_range1 B (by rfl) (da_cons (de_var 1) da_nil)) (blkOk_by (N := ["_law_state", "_law_many", "_law_some", "_law_turn"]) (sc := defScope s__law_names) (by decide +kernel)) (by decide) (fun _ _ _ _ _ => (dg_name (i := 3) nd rfl (by first | exact Or.inl rfl | exact Or.inr rfl))) (fun _ _ _ _ _ => dts_nil) (fun _ _ _ _ _ => (de_bm PySem.F.plainAttrs_list PySem.F.slot_list_pop (by rfl) mt_popAt ok_popAt (de_var 2) (da_cons (de_call0 F__law_take hr (by rfl) (da_cons (de_var 0) (da_cons (de_len B (by rfl) (da_cons (de_var 2) da_nil)) da_nil))) da_nil) (by rfl) (by rfl) (by rfl) (by rfl) (by rfl))))))))

theorem v__law_names : ∀ ds w kx k, sp__law_names ds w kx k → gTr (sem0 4 g__law_names) ds w kx k := by
  rintro ds w kx k ⟨m, c, n, rfl, ⟨hm, hn, hc⟩, hk⟩
  have e : rho 4 [D.st, D.int (m : Int)] = [some .st, some (.int m), none, none] := rfl
  simp only [g__law_names, e, giRange1, sp__law_take, sem0, List.map_cons, List.map_nil, List.length_cons, List.length_nil, gSeq, gNext, gRet, gRetN, gIfS, gSet, gPar, gAsg, gDrop, gVar, gC, gBin, gUn, gB, gTru, gAnd, gOr, gNot, gAndV, gOrV, gNotV, gIf, gChain, gaNil, gaCons, DL.gTup, gLst, gCB, gCall0, gAug, addD_i, addD_s, addD_l, addD_t, subD_i, mulD_i, mulD_l, fdivD_i, modD_i, powD_i, ltD_i, ltD_s, leD_i, gtD_i, geD_i, isD_n, isnotD_n, isNonD_non, isNonD_bl, isNonD_int, isNonD_str, isNonD_lst, isNonD_tup, negD_i, iaddD_i, truD_non, truD_bl, truD_int, truD_str, truD_lst, truD_tup, someK_some, ixD_l, ixD_t, fAbs_i, fInt_i, fInt_b, fMin2_i, fLen_l, fLen_t, fLen_s, fList_l, fList_t, fTuple_l, fTuple_t, optBK_some, fIsi_non, fIsi_bl, fIsi_int, fIsi_str, fIsi_lst, fIsi_tup, List.getElem?_cons_zero, List.getElem?_cons_succ, List.set_cons_zero, List.set_cons_succ, DL.ggName, ggNil0, ggCons1, ggTup2, ggTup3, gFor, giSeq, gLc, gYes, wipeR, true_and, and_true, at_0, at_1, at_2, kit_int_int, kit_bool_int, kit_str_int, kit_non_int, kit_list_int, kit_tuple_int, kit_int_bool, kit_bool_bool, kit_str_bool, kit_non_bool, kit_list_bool, kit_tuple_bool, kit_int_str, kit_bool_str, kit_str_str, kit_non_str, kit_list_str, kit_tuple_str, kit_int_list, kit_bool_list, kit_str_list, kit_non_list, kit_list_list, kit_tuple_list, kit_int_tuple, kit_bool_tuple, kit_str_tuple, kit_non_tuple, kit_list_tuple, kit_tuple_tuple, eqD_i, neD_i, eqD_s, neD_s, eqD_f, neD_f, Nat.zero_add, Nat.reduceAdd, nc0, nc1, nc2, nc3, nc4, nc5, nc6, nc7, nc8, nc9, eq_self, decide_true, decide_false, Int.reduceEq, Int.reduceLT, Int.reduceLE, Int.reduceNeg, Bool.not_true, Bool.not_false, Bool.false_eq_true, if_true, if_false, ↓reduceIte, false_and, and_false, List.all_cons, List.all_nil, List.any_cons, List.any_nil, id_eq, Bool.and_true, Bool.true_and, Bool.or_false, Bool.false_or, Bool.and_false, Bool.false_and, gCut, eqD_b, neD_b, giZip, reduceCtorEq, Bool.true_eq_false, Bool.false_eq_true, gRevL, gSl, goNone, goSome, slD_l, ne_eq, not_false_eq_true, not_true_eq_false, gBM, isTy_l, isTy_s, new_at, new_set, isTy_new, cellK_new, append_new, popAt_new, gFrz_eq, frzK_new, fLen_new, fTuple_new, ixD_new, slA_l, slA_t, slA_new, addTD_t, addCD_l, mulCD_l, isbD_b, isnotbD_b, mSplitC_s, gLstC, gTr, ggSub, lstK_l, lstK_r, addLD_eq]
  refine ⟨by decide +kernel, by decide +kernel, ⟨by omega, by omega⟩, ?_⟩
  have hs : (Txt.split "b aa zebra c quartzes ab m knows d mm likes z ba abcdefgh y zz e x f g hh jj kk pave" " ").length = 24 := by decide +kernel
  have hN : ∀ s ∈ Txt.split "b aa zebra c quartzes ab m knows d mm likes z ba abcdefgh y zz e x f g hh jj kk pave" " ", NameOk s := by
    have : (Txt.split "b aa zebra c quartzes ab m knows d mm likes z ba abcdefgh y zz e x f g hh jj kk pave" " ").all (fun s => PyData.strOk s && decide (s.length ≤ 100)) = true := by decide +kernel
    exact List.all_eq_true.mp this
  refine ⟨fun rem acc w' => ∃ (ss rest : List Str) (c' : Nat), acc = ss.map D.str ∧ w' = ⟨w.M ++ [.lst (rest.map D.str)], some c'⟩ ∧ ss.length + rem.length = m ∧ rest.length + ss.length = 24 ∧ ((∀ s ∈ ss, NameOk s) ∧ ∀ s ∈ rest, NameOk s) ∧ n + rem.length ≤ c', ⟨[], _, c, rfl, by rw [hn], ?_, hs, ⟨fun s h => (nomatch h), hN⟩, ?_⟩, ?_, ?_⟩
  · rw [Int.toNat_natCast, range_len]
    exact Nat.zero_add _
  · rw [Int.toNat_natCast, range_len]
    exact hc
  · rintro acc w' ⟨ss, rest, c', rfl, rfl, h1, h2, ⟨q1, q2⟩, h3⟩
    refine ⟨trivial, ⟨_, rfl⟩, lows_of fun x hx => ?_, hk ss c' (by simpa using h1) q1 (by simpa using h3)⟩
    obtain ⟨s, _, rfl⟩ := List.mem_map.mp hx
    rfl
  · rintro x xs acc w' ⟨ss, rest, c', rfl, rfl, h1, h2, ⟨q1, q2⟩, h3⟩
    rw [List.length_cons] at h1 h3
    simp only [sem0, List.map_cons, List.map_nil, List.length_cons, List.length_nil, gSeq, gNext, gRet, gRetN, gIfS, gSet, gPar, gAsg, gDrop, gVar, gC, gBin, gUn, gB, gTru, gAnd, gOr, gNot, gAndV, gOrV, gNotV, gIf, gChain, gaNil, gaCons, DL.gTup, gLst, gCB, gCall0, gAug, addD_i, addD_s, addD_l, addD_t, subD_i, mulD_i, mulD_l, fdivD_i, modD_i, powD_i, ltD_i, ltD_s, leD_i, gtD_i, geD_i, isD_n, isnotD_n, isNonD_non, isNonD_bl, isNonD_int, isNonD_str, isNonD_lst, isNonD_tup, negD_i, iaddD_i, truD_non, truD_bl, truD_int, truD_str, truD_lst, truD_tup, someK_some, ixD_l, ixD_t, fAbs_i, fInt_i, fInt_b, fMin2_i, fLen_l, fLen_t, fLen_s, fList_l, fList_t, fTuple_l, fTuple_t, optBK_some, fIsi_non, fIsi_bl, fIsi_int, fIsi_str, fIsi_lst, fIsi_tup, List.getElem?_cons_zero, List.getElem?_cons_succ, List.set_cons_zero, List.set_cons_succ, DL.ggName, ggNil0, ggCons1, ggTup2, ggTup3, gFor, giSeq, gLc, gYes, wipeR, true_and, and_true, at_0, at_1, at_2, kit_int_int, kit_bool_int, kit_str_int, kit_non_int, kit_list_int, kit_tuple_int, kit_int_bool, kit_bool_bool, kit_str_bool, kit_non_bool, kit_list_bool, kit_tuple_bool, kit_int_str, kit_bool_str, kit_str_str, kit_non_str, kit_list_str, kit_tuple_str, kit_int_list, kit_bool_list, kit_str_list, kit_non_list, kit_list_list, kit_tuple_list, kit_int_tuple, kit_bool_tuple, kit_str_tuple, kit_non_tuple, kit_list_tuple, kit_tuple_tuple, eqD_i, neD_i, eqD_s, neD_s, eqD_f, neD_f, Nat.zero_add, Nat.reduceAdd, nc0, nc1, nc2, nc3, nc4, nc5, nc6, nc7, nc8, nc9, eq_self, decide_true, decide_false, Int.reduceEq, Int.reduceLT, Int.reduceLE, Int.reduceNeg, Bool.not_true, Bool.not_false, Bool.false_eq_true, if_true, if_false, ↓reduceIte, false_and, and_false, List.all_cons, List.all_nil, List.any_cons, List.any_nil, id_eq, Bool.and_true, Bool.true_and, Bool.or_false, Bool.false_or, Bool.and_false, Bool.false_and, gCut, eqD_b, neD_b, giZip, reduceCtorEq, Bool.true_eq_false, Bool.false_eq_true, gRevL, gSl, goNone, goSome, slD_l, ne_eq, not_false_eq_true, not_true_eq_false, gBM, isTy_l, isTy_s, new_at, new_set, isTy_new, cellK_new, append_new, popAt_new, gFrz_eq, frzK_new, fLen_new, fTuple_new, ixD_new, slA_l, slA_t, slA_new, addTD_t, addCD_l, mulCD_l, isbD_b, isnotbD_b, mSplitC_s, gLstC, gTr, ggSub, lstK_l, lstK_r, addLD_eq]
    have hr : 0 < (rest.map D.str).length := by rw [List.length_map]; omega
    refine take_use (n + xs.length) rfl (by omega) ⟨by omega, log_of (by rw [List.length_map]; exact Nat.lt_of_le_of_lt (show rest.length ≤ 24 by omega) (by decide))⟩ fun r c2 h4 h5 h6 => ?_
    simp only [sem0, List.map_cons, List.map_nil, List.length_cons, List.length_nil, gSeq, gNext, gRet, gRetN, gIfS, gSet, gPar, gAsg, gDrop, gVar, gC, gBin, gUn, gB, gTru, gAnd, gOr, gNot, gAndV, gOrV, gNotV, gIf, gChain, gaNil, gaCons, DL.gTup, gLst, gCB, gCall0, gAug, addD_i, addD_s, addD_l, addD_t, subD_i, mulD_i, mulD_l, fdivD_i, modD_i, powD_i, ltD_i, ltD_s, leD_i, gtD_i, geD_i, isD_n, isnotD_n, isNonD_non, isNonD_bl, isNonD_int, isNonD_str, isNonD_lst, isNonD_tup, negD_i, iaddD_i, truD_non, truD_bl, truD_int, truD_str, truD_lst, truD_tup, someK_some, ixD_l, ixD_t, fAbs_i, fInt_i, fInt_b, fMin2_i, fLen_l, fLen_t, fLen_s, fList_l, fList_t, fTuple_l, fTuple_t, optBK_some, fIsi_non, fIsi_bl, fIsi_int, fIsi_str, fIsi_lst, fIsi_tup, List.getElem?_cons_zero, List.getElem?_cons_succ, List.set_cons_zero, List.set_cons_succ, DL.ggName, ggNil0, ggCons1, ggTup2, ggTup3, gFor, giSeq, gLc, gYes, wipeR, true_and, and_true, at_0, at_1, at_2, kit_int_int, kit_bool_int, kit_str_int, kit_non_int, kit_list_int, kit_tuple_int, kit_int_bool, kit_bool_bool, kit_str_bool, kit_non_bool, kit_list_bool, kit_tuple_bool, kit_int_str, kit_bool_str, kit_str_str, kit_non_str, kit_list_str, kit_tuple_str, kit_int_list, kit_bool_list, kit_str_list, kit_non_list, kit_list_list, kit_tuple_list, kit_int_tuple, kit_bool_tuple, kit_str_tuple, kit_non_tuple, kit_list_tuple, kit_tuple_tuple, eqD_i, neD_i, eqD_s, neD_s, eqD_f, neD_f, Nat.zero_add, Nat.reduceAdd, nc0, nc1, nc2, nc3, nc4, nc5, nc6, nc7, nc8, nc9, eq_self, decide_true, decide_false, Int.reduceEq, Int.reduceLT, Int.reduceLE, Int.reduceNeg, Bool.not_true, Bool.not_false, Bool.false_eq_true, if_true, if_false, ↓reduceIte, false_and, and_false, List.all_cons, List.all_nil, List.any_cons, List.any_nil, id_eq, Bool.and_true, Bool.true_and, Bool.or_false, Bool.false_or, Bool.and_false, Bool.false_and, gCut, eqD_b, neD_b, giZip, reduceCtorEq, Bool.true_eq_false, Bool.false_eq_true, gRevL, gSl, goNone, goSome, slD_l, ne_eq, not_false_eq_true, not_true_eq_false, gBM, isTy_l, isTy_s, new_at, new_set, isTy_new, cellK_new, append_new, popAt_new, gFrz_eq, frzK_new, fLen_new, fTuple_new, ixD_new, slA_l, slA_t, slA_new, addTD_t, addCD_l, mulCD_l, isbD_b, isnotbD_b, mSplitC_s, gLstC, gTr, ggSub, lstK_l, lstK_r, addLD_eq]
    rw [List.length_map] at h5
    have hl : r.toNat < rest.length := by omega
    refine ⟨h4, by rw [List.length_map]; exact h5, by omega, ?_⟩
    rw [List.getElem?_map, List.getElem?_eq_getElem hl]
    refine ⟨lt_sl (by rw [List.length_map]; omega), ss ++ [rest[r.toNat]], rest.eraseIdx r.toNat, c2, by simp, ?_, by simp; omega, ?_, ⟨fun s hs => ?_, fun s hs => q2 s (List.mem_of_mem_eraseIdx hs)⟩, h6⟩
    · rw [erase_map]
    · rw [List.length_eraseIdx, if_pos hl, List.length_append]
      simp
      omega
    · rcases List.mem_append.mp hs with hs | hs
      · exact q1 s hs
      · rw [List.mem_singleton.mp hs]
        exact q2 _ (List.getElem_mem hl)
theorem names_use {w : Wd} {c : Nat} {kx : KX} {k : KD} {m : Int} (n : Nat) (hn : w.n = some c) (hc : n + 12 ≤ c) (hm : 0 ≤ m ∧ m ≤ 12) (h : ∀ (ss : List Str) c', (ss.length : Int) = m → (∀ s ∈ ss, NameOk s) → n ≤ c' → k (.lst (ss.map D.str)) ⟨w.M, some c'⟩) : sp__law_names [.st, .int m] w kx k :=
  ⟨m.toNat, c, n, by rw [Int.toNat_of_nonneg hm.1], ⟨by omega, hn, by omega⟩, fun ss c' h1 h2 h3 => h ss c' (by omega) h2 h3⟩
theorem ok__law_names {P : Program} {w : World} {K : PySem.W.Frag} {mg : Str → Option Value} {base : Heap} (T : DefAt K mg "_law_names" s__law_names ["_law_state", "_law_many"]) (B : Blt mg) (F__law_take : FnAt P w K mg base CX0 1 "_law_take" 2 sp__law_take) : FnAt P w K mg base CX0 2 "_law_names" 2 sp__law_names := (w__law_names T B F__law_take).trunc.imp v__law_names


def sp__law_part : GF := fun ds w _ k => ∃ c n : Nat, ds = [.st] ∧ (w.n = some c ∧ n + 3 ≤ c) ∧ ∀ p c', Part p → p.1 ≤ p.2 → p.2 ≤ 60 → n ≤ c' → k (fD p) ⟨w.M, some c'⟩
theorem lt212 {p : Qp} (h : p.1.natAbs ≤ 4000 ∧ p.2.natAbs ≤ 4000) : Lt2 12 p := ⟨Nat.lt_of_le_of_lt h.1 (by decide), Nat.lt_of_le_of_lt h.2 (by decide)⟩
theorem part_norm {t b : Int} (ht : 0 < t) (hb : 0 < b) (h1 : t ≤ 4000) (h2 : b ≤ 4000) : Part (norm t b) ∧ (norm t b).1 ≤ t ∧ (norm t b).2 ≤ b ∧ (norm t b).1 * b = t * (norm t b).2 := by
  have b0 : b ≠ 0 := by omega
  have f := fr_norm (t := t) b0
  have l := fr_le (t := t) b0
  have e := norm_eq (t := t) b0
  have fp := f.pos
  have p1 : 0 < (norm t b).1 := by
    have : 0 < (norm t b).1 * b := by
      rw [e]
      exact Int.mul_pos ht fp
    exact Int.pos_of_mul_pos_left this hb
  have l1 : (norm t b).1.natAbs ≤ t.natAbs := l.1
  have l2 : (norm t b).2.natAbs ≤ b.natAbs := l.2
  exact ⟨⟨f, lt212 ⟨by omega, by omega⟩, p1⟩, by omega, by omega, e⟩
theorem small_big {x : Int} (h : x.natAbs ≤ 100000) : Big x := Nat.lt_of_le_of_lt h (by decide +kernel)
/-- lowest of small numbers -/
theorem low_use {t b : Int} {w : Wd} {kx : KX} {k : KD} (ht : 0 < t) (hb : 0 < b) (h1 : t ≤ 4000) (h2 : b ≤ 4000) (h : ∀ p, Part p → p.1 ≤ t → p.2 ≤ b → p.1 * b = t * p.2 → k (fD p) w) : sp__law_lowest [.int t, .int b] w kx k := by
  obtain ⟨a1, a2, a3, a4⟩ := part_norm ht hb h1 h2
  exact ⟨t, b, rfl, ⟨by omega, small_big (by omega), small_big (by omega)⟩, h _ a1 a2 a3 a4⟩
theorem log_int {m : Int} (h0 : 0 ≤ m) (h : m ≤ 1000000000) : m.natAbs.log2 < 9000 := log_of (Nat.lt_of_le_of_lt (show m.natAbs ≤ 1000000000 by omega) (by decide))
abbrev s__law_part : Stmt := topS 21
theorem sc__law_part : FnScope ["_law_state", "_law_below"] ["_law_state"] (defScope s__law_part) := ⟨rfl, rfl, rfl, by decide +kernel, rfl, by decide +kernel, by decide +kernel⟩
def g__law_part : GS := (gSeq (gSet 1 (gBin ixD (gLst (gaCons (gC (.int 2)) (gaCons (gC (.int 3)) (gaCons (gC (.int 4)) (gaCons (gC (.int 5)) (gaCons (gC (.int 10)) (gaCons (gBin addD (gC (.int 1)) (gCall0 2 sp__law_take (gaCons (gVar 0) (gaCons (gC (.int 60)) gaNil)))) gaNil))))))) (gCall0 2 sp__law_take (gaCons (gVar 0) (gaCons (gC (.int 6)) gaNil)))))
  (gRet (gCall0 2 sp__law_lowest (gaCons (gBin addD (gC (.int 1)) (gCall0 2 sp__law_take (gaCons (gVar 0) (gaCons (gVar 1) gaNil)))) (gaCons (gVar 1) gaNil)))))
theorem w__law_part {P : Program} {w : World} {K : PySem.W.Frag} {mg : Str → Option Value} {base : Heap} (T : DefAt K mg "_law_part" s__law_part ["_law_state"]) (B : Blt mg) (F__law_lowest : FnAt P w K mg base CX0 1 "_law_lowest" 2 sp__law_lowest) (F__law_take : FnAt P w K mg base CX0 1 "_law_take" 2 sp__law_take) : FnAt P w K mg base CX0 2 "_law_part" 1 (sem0 2 g__law_part) := by
  have nd := sc__law_part.nd
  exact T.fn0 sc__law_part (fun f cdv A outer s H E hr => (dss_cons (ds_set (i := 1) nd rfl (by first | exact Or.inl rfl | exact Or.inr rfl) (de_ix (de_lst (da_cons de_int (da_cons de_int (da_cons de_int (da_cons de_int (da_cons de_int (da_cons (de_add de_int (de_call0 F__law_take hr (by rfl) (da_cons (de_var 0) (da_cons de_int da_nil)))) da_nil))))))) (de_call0 F__law_take hr (by rfl) (da_cons (de_var 0) (da_cons de_int da_nil)))))
  (dss_one (ds_ret (de_call0 F__law_lowest hr (by rfl) (da_cons (de_add de_int (de_call0 F__law_take hr (by rfl) (da_cons (de_var 0) (da_cons (de_var 1) da_nil)))) (da_cons (de_var 1) da_nil)))))))

theorem v__law_part : ∀ ds w kx k, sp__law_part ds w kx k → sem0 2 g__law_part ds w kx k := by
  rintro ds w kx k ⟨c, n, rfl, ⟨hn, hc⟩, hk⟩
  have e : rho 2 [D.st] = [some .st, none] := rfl
  simp only [g__law_part, e, sp__law_take, sem0, List.map_cons, List.map_nil, List.length_cons, List.length_nil, gSeq, gNext, gRet, gRetN, gIfS, gSet, gPar, gAsg, gDrop, gVar, gC, gBin, gUn, gB, gTru, gAnd, gOr, gNot, gAndV, gOrV, gNotV, gIf, gChain, gaNil, gaCons, DL.gTup, gLst, gCB, gCall0, gAug, addD_i, addD_s, addD_l, addD_t, subD_i, mulD_i, mulD_l, fdivD_i, modD_i, powD_i, ltD_i, ltD_s, leD_i, gtD_i, geD_i, isD_n, isnotD_n, isNonD_non, isNonD_bl, isNonD_int, isNonD_str, isNonD_lst, isNonD_tup, negD_i, iaddD_i, truD_non, truD_bl, truD_int, truD_str, truD_lst, truD_tup, someK_some, ixD_l, ixD_t, fAbs_i, fInt_i, fInt_b, fMin2_i, fLen_l, fLen_t, fLen_s, fList_l, fList_t, fTuple_l, fTuple_t, optBK_some, fIsi_non, fIsi_bl, fIsi_int, fIsi_str, fIsi_lst, fIsi_tup, List.getElem?_cons_zero, List.getElem?_cons_succ, List.set_cons_zero, List.set_cons_succ, DL.ggName, ggNil0, ggCons1, ggTup2, ggTup3, gFor, giSeq, gLc, gYes, wipeR, true_and, and_true, at_0, at_1, at_2, kit_int_int, kit_bool_int, kit_str_int, kit_non_int, kit_list_int, kit_tuple_int, kit_int_bool, kit_bool_bool, kit_str_bool, kit_non_bool, kit_list_bool, kit_tuple_bool, kit_int_str, kit_bool_str, kit_str_str, kit_non_str, kit_list_str, kit_tuple_str, kit_int_list, kit_bool_list, kit_str_list, kit_non_list, kit_list_list, kit_tuple_list, kit_int_tuple, kit_bool_tuple, kit_str_tuple, kit_non_tuple, kit_list_tuple, kit_tuple_tuple, eqD_i, neD_i, eqD_s, neD_s, eqD_f, neD_f, Nat.zero_add, Nat.reduceAdd, nc0, nc1, nc2, nc3, nc4, nc5, nc6, nc7, nc8, nc9, eq_self, decide_true, decide_false, Int.reduceEq, Int.reduceLT, Int.reduceLE, Int.reduceNeg, Bool.not_true, Bool.not_false, Bool.false_eq_true, if_true, if_false, ↓reduceIte, false_and, and_false, List.all_cons, List.all_nil, List.any_cons, List.any_nil, id_eq, Bool.and_true, Bool.true_and, Bool.or_false, Bool.false_or, Bool.and_false, Bool.false_and, gCut, eqD_b, neD_b, giZip, reduceCtorEq, Bool.true_eq_false, Bool.false_eq_true, gRevL, gSl, goNone, goSome, slD_l, ne_eq, not_false_eq_true, not_true_eq_false, gBM, isTy_l, isTy_s, new_at, new_set, isTy_new, cellK_new, append_new, popAt_new, gFrz_eq, frzK_new, fLen_new, fTuple_new, ixD_new, slA_l, slA_t, slA_new, addTD_t, addCD_l, mulCD_l, isbD_b, isnotbD_b, mSplitC_s, gLstC, gTr, ggSub, lstK_l, lstK_r, addLD_eq]
  refine take_use (n + 2) hn (by omega) ⟨by decide, log_of (by decide)⟩ fun r1 c1 h0 h1 hc1 => ⟨by decide, take_use (n + 1) rfl (by omega) ⟨by decide, log_of (by decide)⟩ fun r2 c2 h2 h3 hc2 => ?_⟩
  refine ix_all (fun d => ∃ b : Int, d = .int b ∧ 0 < b ∧ b ≤ 60) h2 h3 (all_cons ⟨_, rfl, by decide, by decide⟩ (all_cons ⟨_, rfl, by decide, by decide⟩ (all_cons ⟨_, rfl, by decide, by decide⟩ (all_cons ⟨_, rfl, by decide, by decide⟩ (all_cons ⟨_, rfl, by decide, by decide⟩ (all_cons ⟨_, rfl, by omega, by omega⟩ all_nil)))))) ?_
  rintro d ⟨b, rfl, hb0, hb⟩
  simp only [sem0, List.map_cons, List.map_nil, List.length_cons, List.length_nil, gSeq, gNext, gRet, gRetN, gIfS, gSet, gPar, gAsg, gDrop, gVar, gC, gBin, gUn, gB, gTru, gAnd, gOr, gNot, gAndV, gOrV, gNotV, gIf, gChain, gaNil, gaCons, DL.gTup, gLst, gCB, gCall0, gAug, addD_i, addD_s, addD_l, addD_t, subD_i, mulD_i, mulD_l, fdivD_i, modD_i, powD_i, ltD_i, ltD_s, leD_i, gtD_i, geD_i, isD_n, isnotD_n, isNonD_non, isNonD_bl, isNonD_int, isNonD_str, isNonD_lst, isNonD_tup, negD_i, iaddD_i, truD_non, truD_bl, truD_int, truD_str, truD_lst, truD_tup, someK_some, ixD_l, ixD_t, fAbs_i, fInt_i, fInt_b, fMin2_i, fLen_l, fLen_t, fLen_s, fList_l, fList_t, fTuple_l, fTuple_t, optBK_some, fIsi_non, fIsi_bl, fIsi_int, fIsi_str, fIsi_lst, fIsi_tup, List.getElem?_cons_zero, List.getElem?_cons_succ, List.set_cons_zero, List.set_cons_succ, DL.ggName, ggNil0, ggCons1, ggTup2, ggTup3, gFor, giSeq, gLc, gYes, wipeR, true_and, and_true, at_0, at_1, at_2, kit_int_int, kit_bool_int, kit_str_int, kit_non_int, kit_list_int, kit_tuple_int, kit_int_bool, kit_bool_bool, kit_str_bool, kit_non_bool, kit_list_bool, kit_tuple_bool, kit_int_str, kit_bool_str, kit_str_str, kit_non_str, kit_list_str, kit_tuple_str, kit_int_list, kit_bool_list, kit_str_list, kit_non_list, kit_list_list, kit_tuple_list, kit_int_tuple, kit_bool_tuple, kit_str_tuple, kit_non_tuple, kit_list_tuple, kit_tuple_tuple, eqD_i, neD_i, eqD_s, neD_s, eqD_f, neD_f, Nat.zero_add, Nat.reduceAdd, nc0, nc1, nc2, nc3, nc4, nc5, nc6, nc7, nc8, nc9, eq_self, decide_true, decide_false, Int.reduceEq, Int.reduceLT, Int.reduceLE, Int.reduceNeg, Bool.not_true, Bool.not_false, Bool.false_eq_true, if_true, if_false, ↓reduceIte, false_and, and_false, List.all_cons, List.all_nil, List.any_cons, List.any_nil, id_eq, Bool.and_true, Bool.true_and, Bool.or_false, Bool.false_or, Bool.and_false, Bool.false_and, gCut, eqD_b, neD_b, giZip, reduceCtorEq, Bool.true_eq_false, Bool.false_eq_true, gRevL, gSl, goNone, goSome, slD_l, ne_eq, not_false_eq_true, not_true_eq_false, gBM, isTy_l, isTy_s, new_at, new_set, isTy_new, cellK_new, append_new, popAt_new, gFrz_eq, frzK_new, fLen_new, fTuple_new, ixD_new, slA_l, slA_t, slA_new, addTD_t, addCD_l, mulCD_l, isbD_b, isnotbD_b, mSplitC_s, gLstC, gTr, ggSub, lstK_l, lstK_r, addLD_eq]
  refine take_use n rfl (by omega) ⟨hb0, log_int (by omega) (by omega)⟩ fun r3 c3 h4 h5 hc3 => ?_
  simp only [sem0, List.map_cons, List.map_nil, List.length_cons, List.length_nil, gSeq, gNext, gRet, gRetN, gIfS, gSet, gPar, gAsg, gDrop, gVar, gC, gBin, gUn, gB, gTru, gAnd, gOr, gNot, gAndV, gOrV, gNotV, gIf, gChain, gaNil, gaCons, DL.gTup, gLst, gCB, gCall0, gAug, addD_i, addD_s, addD_l, addD_t, subD_i, mulD_i, mulD_l, fdivD_i, modD_i, powD_i, ltD_i, ltD_s, leD_i, gtD_i, geD_i, isD_n, isnotD_n, isNonD_non, isNonD_bl, isNonD_int, isNonD_str, isNonD_lst, isNonD_tup, negD_i, iaddD_i, truD_non, truD_bl, truD_int, truD_str, truD_lst, truD_tup, someK_some, ixD_l, ixD_t, fAbs_i, fInt_i, fInt_b, fMin2_i, fLen_l, fLen_t, fLen_s, fList_l, fList_t, fTuple_l, fTuple_t, optBK_some, fIsi_non, fIsi_bl, fIsi_int, fIsi_str, fIsi_lst, fIsi_tup, List.getElem?_cons_zero, List.getElem?_cons_succ, List.set_cons_zero, List.set_cons_succ, DL.ggName, ggNil0, ggCons1, ggTup2, ggTup3, gFor, giSeq, gLc, gYes, wipeR, true_and, and_true, at_0, at_1, at_2, kit_int_int, kit_bool_int, kit_str_int, kit_non_int, kit_list_int, kit_tuple_int, kit_int_bool, kit_bool_bool, kit_str_bool, kit_non_bool, kit_list_bool, kit_tuple_bool, kit_int_str, kit_bool_str, kit_str_str, kit_non_str, kit_list_str, kit_tuple_str, kit_int_list, kit_bool_list, kit_str_list, kit_non_list, kit_list_list, kit_tuple_list, kit_int_tuple, kit_bool_tuple, kit_str_tuple, kit_non_tuple, kit_list_tuple, kit_tuple_tuple, eqD_i, neD_i, eqD_s, neD_s, eqD_f, neD_f, Nat.zero_add, Nat.reduceAdd, nc0, nc1, nc2, nc3, nc4, nc5, nc6, nc7, nc8, nc9, eq_self, decide_true, decide_false, Int.reduceEq, Int.reduceLT, Int.reduceLE, Int.reduceNeg, Bool.not_true, Bool.not_false, Bool.false_eq_true, if_true, if_false, ↓reduceIte, false_and, and_false, List.all_cons, List.all_nil, List.any_cons, List.any_nil, id_eq, Bool.and_true, Bool.true_and, Bool.or_false, Bool.false_or, Bool.and_false, Bool.false_and, gCut, eqD_b, neD_b, giZip, reduceCtorEq, Bool.true_eq_false, Bool.false_eq_true, gRevL, gSl, goNone, goSome, slD_l, ne_eq, not_false_eq_true, not_true_eq_false, gBM, isTy_l, isTy_s, new_at, new_set, isTy_new, cellK_new, append_new, popAt_new, gFrz_eq, frzK_new, fLen_new, fTuple_new, ixD_new, slA_l, slA_t, slA_new, addTD_t, addCD_l, mulCD_l, isbD_b, isnotbD_b, mSplitC_s, gLstC, gTr, ggSub, lstK_l, lstK_r, addLD_eq]
  refine low_use (by omega) hb0 (by omega) (by omega) fun p hp p1 p2 p3 => hk p c3 hp ?_ (by omega) hc3
  have fp := hp.fr.pos
  have : p.1 * b ≤ p.2 * b := by
    rw [p3, Int.mul_comm]
    exact Int.mul_le_mul_of_nonneg_left (by omega) (by omega)
  exact Int.le_of_mul_le_mul_right this hb0
theorem part_use {w : Wd} {c : Nat} {kx : KX} {k : KD} (n : Nat) (hn : w.n = some c) (hc : n + 3 ≤ c) (h : ∀ p c', Part p → p.1 ≤ p.2 → p.2 ≤ 60 → n ≤ c' → k (fD p) ⟨w.M, some c'⟩) : sp__law_part [.st] w kx k := ⟨c, n, rfl, ⟨hn, hc⟩, h⟩
theorem ok__law_part {P : Program} {w : World} {K : PySem.W.Frag} {mg : Str → Option Value} {base : Heap} (T : DefAt K mg "_law_part" s__law_part ["_law_state"]) (B : Blt mg) (F__law_lowest : FnAt P w K mg base CX0 1 "_law_lowest" 2 sp__law_lowest) (F__law_take : FnAt P w K mg base CX0 1 "_law_take" 2 sp__law_take) : FnAt P w K mg base CX0 2 "_law_part" 1 sp__law_part := (w__law_part T B F__law_lowest F__law_take).imp v__law_part


end LW

namespace LW
open PySem PySem.Spec PyProof.Rows L2 RZ DL

structure RowsOk (rs : List Row) (m : Nat) : Prop where
  len : rs.length ≤ m
  ok : ∀ r ∈ rs, RowOk r
theorem deps_strs : ∀ ss : List Str, deps (ss.map D.str) = 0
  | [] => rfl
  | s :: ss => by
    show max 0 (deps (ss.map D.str)) = 0
    rw [deps_strs ss]
    rfl
theorem lays_strs : ∀ {ss : List Str}, (∀ s ∈ ss, NameOk s) → lays (ss.map D.str) = true
  | [], _ => rfl
  | s :: ss, h => by
    have := h s List.mem_cons_self
    unfold NameOk at this
    rw [Bool.and_eq_true] at this
    show (PyData.strOk s && lays (ss.map D.str)) = true
    rw [this.1, lays_strs fun x hx => h x (List.mem_cons_of_mem _ hx)]
    rfl
theorem ne_nil {ss : List Str} {w : Wd} {k : KD} (h : ∀ s ∈ ss, NameOk s) (h0 : 0 < ss.length) (hk : k (.bl true) w) : neD (.lst (ss.map D.str)) (.lst []) w k := by
  obtain ⟨ps, h1, h2, h3⟩ := lays_pd (lays_strs h)
  show neD0 _ _ w k
  unfold neD0
  have e1 : toPD (.lst (ss.map D.str)) = some (.list ps) := by
    rw [toPD, h1]
    rfl
  have e2 : toPD (.lst []) = some (.list []) := rfl
  rw [e1, e2]
  have d0 : PyData.depth (.list ps) = 1 := by
    show PyData.depthAll ps + 1 = 1
    rw [h3, deps_strs]
  have s1 : SeqAt.shaped (.list ps) = true := by
    unfold SeqAt.shaped
    rw [show PyData.canLay0 (.list ps) = PyData.canLayAll0 ps from rfl, h2, d0]
    rfl
  refine ⟨s1, rfl, ?_⟩
  have ne : ps ≠ [] := by
    cases ss with
    | nil => cases h0
    | cons s r =>
      rintro rfl
      rw [List.map_cons, toPDs] at h1
      revert h1
      cases toPD (.str s) <;> cases toPDs (r.map D.str) <;> intro h1 <;> cases h1
  cases ps with
  | nil => exact absurd rfl ne
  | cons p r => exact hk
def rowK : D → D
  | .tup (s :: _) => s
  | _ => .non
theorem rowK_row (r : Row) : rowK (rowD r) = .str (kindS r) := by cases r <;> rfl
theorem rowK_rows (rs : List Row) : (rs.map rowD).map rowK = (rs.map kindS).map D.str := by
  rw [List.map_map, List.map_map]
  exact List.map_congr_left fun r _ => rowK_row r
theorem rowsW_mono {rs : List Row} {m n : Int} (h : RowsW rs m) (l : m ≤ n) : RowsW rs n := by
  obtain ⟨a, b, h1, h2, h3⟩ := h
  exact ⟨a, b, h1, h2, by omega⟩
theorem rowsW_nil {m : Int} (h : 0 ≤ m) : RowsW [] m := ⟨0, 0, wt_nil (by decide), wt_nil (by decide), by omega⟩

end LW

namespace LW
open PySem PySem.Spec PyProof.Rows L2 RZ DL

def sp_sum_of : GF := fun ds w _ k => ∃ (d : D) (xs : List Qp) (a : Nat), ds = [d] ∧ ((lstK d w fun ys => ys = xs.map fD) ∧ FrB a xs ∧ (a + 1) * (xs.length + 1) ≤ 3990) ∧ k (fD (sumQ xs)) w
abbrev s_sum_of : Stmt := topS 3
theorem sc_sum_of : FnScope ["parts", "found", "top", "below"] ["parts"] (defScope s_sum_of) := ⟨rfl, rfl, rfl, by decide +kernel, rfl, by decide +kernel, by decide +kernel⟩
def g_sum_of : GS := (gSeq (gSet 1 (gTup (gaCons (gC (.int 0)) (gaCons (gC (.int 1)) gaNil))))
  (gSeq (gFor (giSeq (gVar 0)) (ggTup 2 (ggCons (ggName 2) (ggCons (ggName 3) ggNil))) (gSet 1 (gCall0 2 sp_fraction_of (gaCons (gBin addD (gBin mulD (gBin ixD (gVar 1) (gC (.int 0))) (gVar 3)) (gBin mulD (gVar 2) (gBin ixD (gVar 1) (gC (.int 1))))) (gaCons (gBin mulD (gBin ixD (gVar 1) (gC (.int 1))) (gVar 3)) gaNil)))))
  (gRet (gVar 1))))
theorem w_sum_of {P : Program} {w : World} {K : PySem.W.Frag} {mg : Str → Option Value} {base : Heap} (T : DefAt K mg "sum_of" s_sum_of ["parts"]) (B : Blt mg) (F_fraction_of : FnAt P w K mg base CX0 2 "fraction_of" 2 sp_fraction_of) : FnAt P w K mg base CX0 3 "sum_of" 1 (sem0 4 g_sum_of) := by
  have nd := sc_sum_of.nd
  exact T.fn0 sc_sum_of (fun f cdv A outer s H E hr => (dss_cons (ds_set (i := 1) nd rfl (by first | exact Or.inl rfl | exact Or.inr rfl) (de_tup (da_cons de_int (da_cons de_int da_nil))))
  (dss_cons (ds_for PassesOwn.never rfl (di_seq (de_var 0)) (dg_tup rfl (dgs_cons (dg_name (i := 2) nd rfl (by first | exact Or.inl rfl | exact Or.inr rfl)) (dgs_cons (dg_name (i := 3) nd rfl (by first | exact Or.inl rfl | exact Or.inr rfl)) dgs_nil))) (dss_one (ds_set (i := 1) nd rfl (by first | exact Or.inl rfl | exact Or.inr rfl) (de_call0 F_fraction_of hr (by rfl) (da_cons (de_add (de_mul (de_ix (de_var 1) de_int) (de_var 3)) (de_mul (de_var 2) (de_ix (de_var 1) de_int))) (da_cons (de_mul (de_ix (de_var 1) de_int) (de_var 3)) da_nil))))))
  (dss_one (ds_ret (de_var 1))))))

theorem sum_lt {a : Nat} : ∀ {n : Nat} {xs : List Qp}, xs.length = n → FrB a xs → Lt2 ((a + 1) * n + 1) (sumQ xs)
  | 0, xs, hl, _ => by
    have : xs = [] := List.length_eq_zero_iff.mp hl
    subst this
    rw [sumQ_nil]
    exact ⟨by show 0 < 2 ^ _; exact Nat.pow_pos (by decide), by
      show 1 < 2 ^ ((a + 1) * 0 + 1)
      rw [Nat.mul_zero]
      decide⟩
  | n + 1, xs, hl, h => by
    obtain ⟨ys, x, rfl⟩ : ∃ ys x, xs = ys ++ [x] := by
      have : xs ≠ [] := fun z => by rw [z] at hl; cases hl
      exact ⟨xs.dropLast, xs.getLast this, (List.dropLast_concat_getLast this).symm⟩
    have hy : FrB a ys := fun z hz => h z (List.mem_append_left _ hz)
    obtain ⟨fx, lx⟩ := h x (by simp)
    have hl' : ys.length = n := by simpa using hl
    have ih := sum_lt hl' hy
    have fy := fr_sum fun z hz => (hy z hz).1
    rw [← sumQ_snoc (fun z hz => (hy z hz).1) fx]
    have e : (a + 1) * (n + 1) + 1 = ((a + 1) * n + 1 + a) + 1 := by rw [Nat.mul_succ]; omega
    have b1 := wide_lt ih.1 lx.2
    have b2 := wide_lt lx.1 ih.2
    rw [Nat.add_comm a] at b2
    have b3 := wide_lt ih.2 lx.2
    refine norm_lt (Int.mul_ne_zero (by have := fy.pos; omega) (by have := fx.pos; omega)) ?_ ?_
    · rw [e]
      exact add_lt b1 b2
    · exact nat_mono b3 (by omega)
theorem lst_cases {d : D} {w : Wd} {f : List D → Prop} (h : lstK d w f) : (∃ xs, d = .lst xs ∧ f xs) ∨ ∃ i xs, d = .rf i ∧ w.M[i]? = some (.lst xs) ∧ f xs := by
  cases d with
  | lst xs => exact .inl ⟨xs, rfl, h⟩
  | rf i =>
    refine .inr ⟨i, ?_⟩
    have h : cellK i w f := h
    unfold cellK at h
    split at h
    · rename_i xs e
      exact ⟨xs, rfl, e, h⟩
    · exact h.elim
  | _ => exact h.elim
theorem v_sum_of : ∀ ds w kx k, sp_sum_of ds w kx k → sem0 4 g_sum_of ds w kx k := by
  rintro ds w kx k ⟨d, xs, a, rfl, ⟨hd, hF, hz⟩, hk⟩
  have key : ∀ (d : D) (Ok : Wd → Prop) (gb : GS), Ok w → ∃ P : List D → Rho → Wd → Prop, P (xs.map fD) [some d, some (fD (0, 1)), none, none] w ∧
      (∀ ρ w', P [] ρ w' → Ok w' ∧ w' = w ∧ ∃ a b, ρ = [some d, some (fD (sumQ xs)), a, b]) ∧
      (∀ x rem ρ w', P (x :: rem) ρ w' → Ok w' ∧ w' = w ∧ ∃ ys z zs a0 b0, x = fD z ∧ xs = ys ++ z :: zs ∧ ρ = [some d, some (fD (sumQ ys)), a0, b0] ∧ ∀ a1 b1, P rem [some d, some (fD (sumQ (ys ++ [z]))), a1, b1] w) := by
    intro d Ok _ ok
    refine ⟨fun rem ρ w' => w' = w ∧ ∃ ys zs a b, xs = ys ++ zs ∧ rem = zs.map fD ∧ ρ = [some d, some (fD (sumQ ys)), a, b], ⟨rfl, [], xs, none, none, rfl, rfl, by rw [sumQ_nil]⟩, ?_, ?_⟩
    · rintro ρ w' ⟨rfl, ys, zs, a, b, e1, e2, rfl⟩
      have : zs = [] := by simpa using e2.symm
      subst this
      rw [List.append_nil] at e1
      subst e1
      exact ⟨ok, rfl, a, b, rfl⟩
    · rintro x rem ρ w' ⟨rfl, ys, zs, a0, b0, e1, e2, rfl⟩
      cases zs with
      | nil => cases e2
      | cons z zs =>
        rw [List.map_cons] at e2
        injection e2 with e2 e3
        exact ⟨ok, rfl, ys, z, zs, a0, b0, e2, e1, rfl, fun a1 b1 => ⟨rfl, ys ++ [z], zs, a1, b1, by rw [e1]; simp, e3, rfl⟩⟩
  have step : ∀ ys z zs, xs = ys ++ z :: zs → CMulX (sumQ ys).1 z.2 ∧ CMulX z.1 (sumQ ys).2 ∧ CMulX (sumQ ys).2 z.2 ∧ (sumQ ys).2 * z.2 ≠ 0 ∧ Big ((sumQ ys).2 * z.2) ∧ norm ((sumQ ys).1 * z.2 + z.1 * (sumQ ys).2) ((sumQ ys).2 * z.2) = sumQ (ys ++ [z]) := by
    rintro ys z zs rfl
    have hy : FrB a ys := fun q hq => hF q (List.mem_append_left _ hq)
    obtain ⟨fz, lz⟩ := hF z (by simp)
    have fy := fr_sum fun q hq => (hy q hq).1
    have ly := sum_lt rfl hy
    have hle : (a + 1) * ys.length + 1 + a + 1 ≤ 3990 := by
      have h1 : (a + 1) * (ys.length + 1 + 1) ≤ (a + 1) * ((ys ++ z :: zs).length + 1) := Nat.mul_le_mul_left _ (by simp)
      rw [Nat.mul_succ, Nat.mul_succ] at h1
      omega
    exact ⟨mulx_ok ly.1 lz.2 (by omega), mulx_ok lz.1 ly.2 (by omega), mulx_ok ly.2 lz.2 (by omega), Int.mul_ne_zero (by have := fy.pos; omega) (by have := fz.pos; omega), nat_mono (wide_lt ly.2 lz.2) (by omega), sumQ_snoc (fun q hq => (hy q hq).1) fz⟩
  have e : rho 4 [d] = [some d, none, none, none] := rfl
  rcases lst_cases hd with ⟨ys0, rfl, rfl⟩ | ⟨i, ys0, rfl, em, rfl⟩
  · simp only [g_sum_of, e, sp_fraction_of, sem0, List.map_cons, List.map_nil, List.length_cons, List.length_nil, gSeq, gNext, gRet, gRetN, gIfS, gSet, gPar, gAsg, gDrop, gVar, gC, gBin, gUn, gB, gTru, gAnd, gOr, gNot, gAndV, gOrV, gNotV, gIf, gChain, gaNil, gaCons, DL.gTup, gLst, gCB, gCall0, gAug, addD_i, addD_s, addD_l, addD_t, subD_i, mulD_i, mulD_l, fdivD_i, modD_i, powD_i, ltD_i, ltD_s, leD_i, gtD_i, geD_i, isD_n, isnotD_n, isNonD_non, isNonD_bl, isNonD_int, isNonD_str, isNonD_lst, isNonD_tup, negD_i, iaddD_i, truD_non, truD_bl, truD_int, truD_str, truD_lst, truD_tup, someK_some, ixD_l, ixD_t, fAbs_i, fInt_i, fInt_b, fMin2_i, fLen_l, fLen_t, fLen_s, fList_l, fList_t, fTuple_l, fTuple_t, optBK_some, fIsi_non, fIsi_bl, fIsi_int, fIsi_str, fIsi_lst, fIsi_tup, List.getElem?_cons_zero, List.getElem?_cons_succ, List.set_cons_zero, List.set_cons_succ, DL.ggName, ggNil0, ggCons1, ggTup2, ggTup3, gFor, giSeq, gLc, gYes, wipeR, true_and, and_true, at_0, at_1, at_2, kit_int_int, kit_bool_int, kit_str_int, kit_non_int, kit_list_int, kit_tuple_int, kit_int_bool, kit_bool_bool, kit_str_bool, kit_non_bool, kit_list_bool, kit_tuple_bool, kit_int_str, kit_bool_str, kit_str_str, kit_non_str, kit_list_str, kit_tuple_str, kit_int_list, kit_bool_list, kit_str_list, kit_non_list, kit_list_list, kit_tuple_list, kit_int_tuple, kit_bool_tuple, kit_str_tuple, kit_non_tuple, kit_list_tuple, kit_tuple_tuple, eqD_i, neD_i, eqD_s, neD_s, eqD_f, neD_f, Nat.zero_add, Nat.reduceAdd, nc0, nc1, nc2, nc3, nc4, nc5, nc6, nc7, nc8, nc9, eq_self, decide_true, decide_false, Int.reduceEq, Int.reduceLT, Int.reduceLE, Int.reduceNeg, Bool.not_true, Bool.not_false, Bool.false_eq_true, if_true, if_false, ↓reduceIte, false_and, and_false, List.all_cons, List.all_nil, List.any_cons, List.any_nil, id_eq, Bool.and_true, Bool.true_and, Bool.or_false, Bool.false_or, Bool.and_false, Bool.false_and, gCut, eqD_b, neD_b, giZip, reduceCtorEq, Bool.true_eq_false, Bool.false_eq_true, gRevL, gSl, goNone, goSome, slD_l, ne_eq, not_false_eq_true, not_true_eq_false, gBM, isTy_l, isTy_s, new_at, new_set, isTy_new, cellK_new, append_new, popAt_new, gFrz_eq, frzK_new, fLen_new, fTuple_new, ixD_new, slA_l, slA_t, slA_new, addTD_t, addCD_l, mulCD_l, isbD_b, isnotbD_b, mSplitC_s, gLstC, gTr, ggSub, lstK_l, lstK_r, addLD_eq]
    obtain ⟨P, h1, h2, h3⟩ := key (.lst (xs.map fD)) (fun _ => True) gNext trivial
    refine ⟨by decide, P, h1, fun ρ w' h => ?_, fun x rem ρ w' h => ?_⟩
    · obtain ⟨ok, rfl, a0, b0, rfl⟩ := h2 _ _ h
      refine ⟨trivial, ?_⟩
      simp only [sem0, List.map_cons, List.map_nil, List.length_cons, List.length_nil, gSeq, gNext, gRet, gRetN, gIfS, gSet, gPar, gAsg, gDrop, gVar, gC, gBin, gUn, gB, gTru, gAnd, gOr, gNot, gAndV, gOrV, gNotV, gIf, gChain, gaNil, gaCons, DL.gTup, gLst, gCB, gCall0, gAug, addD_i, addD_s, addD_l, addD_t, subD_i, mulD_i, mulD_l, fdivD_i, modD_i, powD_i, ltD_i, ltD_s, leD_i, gtD_i, geD_i, isD_n, isnotD_n, isNonD_non, isNonD_bl, isNonD_int, isNonD_str, isNonD_lst, isNonD_tup, negD_i, iaddD_i, truD_non, truD_bl, truD_int, truD_str, truD_lst, truD_tup, someK_some, ixD_l, ixD_t, fAbs_i, fInt_i, fInt_b, fMin2_i, fLen_l, fLen_t, fLen_s, fList_l, fList_t, fTuple_l, fTuple_t, optBK_some, fIsi_non, fIsi_bl, fIsi_int, fIsi_str, fIsi_lst, fIsi_tup, List.getElem?_cons_zero, List.getElem?_cons_succ, List.set_cons_zero, List.set_cons_succ, DL.ggName, ggNil0, ggCons1, ggTup2, ggTup3, gFor, giSeq, gLc, gYes, wipeR, true_and, and_true, at_0, at_1, at_2, kit_int_int, kit_bool_int, kit_str_int, kit_non_int, kit_list_int, kit_tuple_int, kit_int_bool, kit_bool_bool, kit_str_bool, kit_non_bool, kit_list_bool, kit_tuple_bool, kit_int_str, kit_bool_str, kit_str_str, kit_non_str, kit_list_str, kit_tuple_str, kit_int_list, kit_bool_list, kit_str_list, kit_non_list, kit_list_list, kit_tuple_list, kit_int_tuple, kit_bool_tuple, kit_str_tuple, kit_non_tuple, kit_list_tuple, kit_tuple_tuple, eqD_i, neD_i, eqD_s, neD_s, eqD_f, neD_f, Nat.zero_add, Nat.reduceAdd, nc0, nc1, nc2, nc3, nc4, nc5, nc6, nc7, nc8, nc9, eq_self, decide_true, decide_false, Int.reduceEq, Int.reduceLT, Int.reduceLE, Int.reduceNeg, Bool.not_true, Bool.not_false, Bool.false_eq_true, if_true, if_false, ↓reduceIte, false_and, and_false, List.all_cons, List.all_nil, List.any_cons, List.any_nil, id_eq, Bool.and_true, Bool.true_and, Bool.or_false, Bool.false_or, Bool.and_false, Bool.false_and, gCut, eqD_b, neD_b, giZip, reduceCtorEq, Bool.true_eq_false, Bool.false_eq_true, gRevL, gSl, goNone, goSome, slD_l, ne_eq, not_false_eq_true, not_true_eq_false, gBM, isTy_l, isTy_s, new_at, new_set, isTy_new, cellK_new, append_new, popAt_new, gFrz_eq, frzK_new, fLen_new, fTuple_new, ixD_new, slA_l, slA_t, slA_new, addTD_t, addCD_l, mulCD_l, isbD_b, isnotbD_b, mSplitC_s, gLstC, gTr, ggSub, lstK_l, lstK_r, addLD_eq]
      exact hk
    · obtain ⟨ok, rfl, ys, z, zs, a0, b0, rfl, e1, rfl, hP⟩ := h3 _ _ _ _ h
      obtain ⟨m1, m2, m3, n0, bg, es⟩ := step ys z zs e1
      refine ⟨trivial, ?_⟩
      simp only [ixD_f0, ixD_f1, ggTup_f, fIsi_f, fLen_f, eqD_ff, neD_ff, sem0, List.map_cons, List.map_nil, List.length_cons, List.length_nil, gSeq, gNext, gRet, gRetN, gIfS, gSet, gPar, gAsg, gDrop, gVar, gC, gBin, gUn, gB, gTru, gAnd, gOr, gNot, gAndV, gOrV, gNotV, gIf, gChain, gaNil, gaCons, DL.gTup, gLst, gCB, gCall0, gAug, addD_i, addD_s, addD_l, addD_t, subD_i, mulD_i, mulD_l, fdivD_i, modD_i, powD_i, ltD_i, ltD_s, leD_i, gtD_i, geD_i, isD_n, isnotD_n, isNonD_non, isNonD_bl, isNonD_int, isNonD_str, isNonD_lst, isNonD_tup, negD_i, iaddD_i, truD_non, truD_bl, truD_int, truD_str, truD_lst, truD_tup, someK_some, ixD_l, ixD_t, fAbs_i, fInt_i, fInt_b, fMin2_i, fLen_l, fLen_t, fLen_s, fList_l, fList_t, fTuple_l, fTuple_t, optBK_some, fIsi_non, fIsi_bl, fIsi_int, fIsi_str, fIsi_lst, fIsi_tup, List.getElem?_cons_zero, List.getElem?_cons_succ, List.set_cons_zero, List.set_cons_succ, DL.ggName, ggNil0, ggCons1, ggTup2, ggTup3, gFor, giSeq, gLc, gYes, wipeR, true_and, and_true, at_0, at_1, at_2, kit_int_int, kit_bool_int, kit_str_int, kit_non_int, kit_list_int, kit_tuple_int, kit_int_bool, kit_bool_bool, kit_str_bool, kit_non_bool, kit_list_bool, kit_tuple_bool, kit_int_str, kit_bool_str, kit_str_str, kit_non_str, kit_list_str, kit_tuple_str, kit_int_list, kit_bool_list, kit_str_list, kit_non_list, kit_list_list, kit_tuple_list, kit_int_tuple, kit_bool_tuple, kit_str_tuple, kit_non_tuple, kit_list_tuple, kit_tuple_tuple, eqD_i, neD_i, eqD_s, neD_s, eqD_f, neD_f, Nat.zero_add, Nat.reduceAdd, nc0, nc1, nc2, nc3, nc4, nc5, nc6, nc7, nc8, nc9, eq_self, decide_true, decide_false, Int.reduceEq, Int.reduceLT, Int.reduceLE, Int.reduceNeg, Bool.not_true, Bool.not_false, Bool.false_eq_true, if_true, if_false, ↓reduceIte, false_and, and_false, List.all_cons, List.all_nil, List.any_cons, List.any_nil, id_eq, Bool.and_true, Bool.true_and, Bool.or_false, Bool.false_or, Bool.and_false, Bool.false_and, gCut, eqD_b, neD_b, giZip, reduceCtorEq, Bool.true_eq_false, Bool.false_eq_true, gRevL, gSl, goNone, goSome, slD_l, ne_eq, not_false_eq_true, not_true_eq_false, gBM, isTy_l, isTy_s, new_at, new_set, isTy_new, cellK_new, append_new, popAt_new, gFrz_eq, frzK_new, fLen_new, fTuple_new, ixD_new, slA_l, slA_t, slA_new, addTD_t, addCD_l, mulCD_l, isbD_b, isnotbD_b, mSplitC_s, gLstC, gTr, ggSub, lstK_l, lstK_r, addLD_eq]
      refine ⟨m1, m2, m3, _, _, rfl, ⟨n0, bg⟩, ?_⟩
      rw [es]
      exact hP _ _
  · simp only [g_sum_of, e, sp_fraction_of, em, sem0, List.map_cons, List.map_nil, List.length_cons, List.length_nil, gSeq, gNext, gRet, gRetN, gIfS, gSet, gPar, gAsg, gDrop, gVar, gC, gBin, gUn, gB, gTru, gAnd, gOr, gNot, gAndV, gOrV, gNotV, gIf, gChain, gaNil, gaCons, DL.gTup, gLst, gCB, gCall0, gAug, addD_i, addD_s, addD_l, addD_t, subD_i, mulD_i, mulD_l, fdivD_i, modD_i, powD_i, ltD_i, ltD_s, leD_i, gtD_i, geD_i, isD_n, isnotD_n, isNonD_non, isNonD_bl, isNonD_int, isNonD_str, isNonD_lst, isNonD_tup, negD_i, iaddD_i, truD_non, truD_bl, truD_int, truD_str, truD_lst, truD_tup, someK_some, ixD_l, ixD_t, fAbs_i, fInt_i, fInt_b, fMin2_i, fLen_l, fLen_t, fLen_s, fList_l, fList_t, fTuple_l, fTuple_t, optBK_some, fIsi_non, fIsi_bl, fIsi_int, fIsi_str, fIsi_lst, fIsi_tup, List.getElem?_cons_zero, List.getElem?_cons_succ, List.set_cons_zero, List.set_cons_succ, DL.ggName, ggNil0, ggCons1, ggTup2, ggTup3, gFor, giSeq, gLc, gYes, wipeR, true_and, and_true, at_0, at_1, at_2, kit_int_int, kit_bool_int, kit_str_int, kit_non_int, kit_list_int, kit_tuple_int, kit_int_bool, kit_bool_bool, kit_str_bool, kit_non_bool, kit_list_bool, kit_tuple_bool, kit_int_str, kit_bool_str, kit_str_str, kit_non_str, kit_list_str, kit_tuple_str, kit_int_list, kit_bool_list, kit_str_list, kit_non_list, kit_list_list, kit_tuple_list, kit_int_tuple, kit_bool_tuple, kit_str_tuple, kit_non_tuple, kit_list_tuple, kit_tuple_tuple, eqD_i, neD_i, eqD_s, neD_s, eqD_f, neD_f, Nat.zero_add, Nat.reduceAdd, nc0, nc1, nc2, nc3, nc4, nc5, nc6, nc7, nc8, nc9, eq_self, decide_true, decide_false, Int.reduceEq, Int.reduceLT, Int.reduceLE, Int.reduceNeg, Bool.not_true, Bool.not_false, Bool.false_eq_true, if_true, if_false, ↓reduceIte, false_and, and_false, List.all_cons, List.all_nil, List.any_cons, List.any_nil, id_eq, Bool.and_true, Bool.true_and, Bool.or_false, Bool.false_or, Bool.and_false, Bool.false_and, gCut, eqD_b, neD_b, giZip, reduceCtorEq, Bool.true_eq_false, Bool.false_eq_true, gRevL, gSl, goNone, goSome, slD_l, ne_eq, not_false_eq_true, not_true_eq_false, gBM, isTy_l, isTy_s, new_at, new_set, isTy_new, cellK_new, append_new, popAt_new, gFrz_eq, frzK_new, fLen_new, fTuple_new, ixD_new, slA_l, slA_t, slA_new, addTD_t, addCD_l, mulCD_l, isbD_b, isnotbD_b, mSplitC_s, gLstC, gTr, ggSub, lstK_l, lstK_r, addLD_eq]
    obtain ⟨P, h1, h2, h3⟩ := key (.rf i) (fun w' => w'.M[i]? = some (.lst (xs.map fD))) gNext em
    refine ⟨by decide, P, h1, fun ρ w' h => ?_, fun x rem ρ w' h => ?_⟩
    · obtain ⟨ok, rfl, a0, b0, rfl⟩ := h2 _ _ h
      refine ⟨ok, ?_⟩
      simp only [sem0, List.map_cons, List.map_nil, List.length_cons, List.length_nil, gSeq, gNext, gRet, gRetN, gIfS, gSet, gPar, gAsg, gDrop, gVar, gC, gBin, gUn, gB, gTru, gAnd, gOr, gNot, gAndV, gOrV, gNotV, gIf, gChain, gaNil, gaCons, DL.gTup, gLst, gCB, gCall0, gAug, addD_i, addD_s, addD_l, addD_t, subD_i, mulD_i, mulD_l, fdivD_i, modD_i, powD_i, ltD_i, ltD_s, leD_i, gtD_i, geD_i, isD_n, isnotD_n, isNonD_non, isNonD_bl, isNonD_int, isNonD_str, isNonD_lst, isNonD_tup, negD_i, iaddD_i, truD_non, truD_bl, truD_int, truD_str, truD_lst, truD_tup, someK_some, ixD_l, ixD_t, fAbs_i, fInt_i, fInt_b, fMin2_i, fLen_l, fLen_t, fLen_s, fList_l, fList_t, fTuple_l, fTuple_t, optBK_some, fIsi_non, fIsi_bl, fIsi_int, fIsi_str, fIsi_lst, fIsi_tup, List.getElem?_cons_zero, List.getElem?_cons_succ, List.set_cons_zero, List.set_cons_succ, DL.ggName, ggNil0, ggCons1, ggTup2, ggTup3, gFor, giSeq, gLc, gYes, wipeR, true_and, and_true, at_0, at_1, at_2, kit_int_int, kit_bool_int, kit_str_int, kit_non_int, kit_list_int, kit_tuple_int, kit_int_bool, kit_bool_bool, kit_str_bool, kit_non_bool, kit_list_bool, kit_tuple_bool, kit_int_str, kit_bool_str, kit_str_str, kit_non_str, kit_list_str, kit_tuple_str, kit_int_list, kit_bool_list, kit_str_list, kit_non_list, kit_list_list, kit_tuple_list, kit_int_tuple, kit_bool_tuple, kit_str_tuple, kit_non_tuple, kit_list_tuple, kit_tuple_tuple, eqD_i, neD_i, eqD_s, neD_s, eqD_f, neD_f, Nat.zero_add, Nat.reduceAdd, nc0, nc1, nc2, nc3, nc4, nc5, nc6, nc7, nc8, nc9, eq_self, decide_true, decide_false, Int.reduceEq, Int.reduceLT, Int.reduceLE, Int.reduceNeg, Bool.not_true, Bool.not_false, Bool.false_eq_true, if_true, if_false, ↓reduceIte, false_and, and_false, List.all_cons, List.all_nil, List.any_cons, List.any_nil, id_eq, Bool.and_true, Bool.true_and, Bool.or_false, Bool.false_or, Bool.and_false, Bool.false_and, gCut, eqD_b, neD_b, giZip, reduceCtorEq, Bool.true_eq_false, Bool.false_eq_true, gRevL, gSl, goNone, goSome, slD_l, ne_eq, not_false_eq_true, not_true_eq_false, gBM, isTy_l, isTy_s, new_at, new_set, isTy_new, cellK_new, append_new, popAt_new, gFrz_eq, frzK_new, fLen_new, fTuple_new, ixD_new, slA_l, slA_t, slA_new, addTD_t, addCD_l, mulCD_l, isbD_b, isnotbD_b, mSplitC_s, gLstC, gTr, ggSub, lstK_l, lstK_r, addLD_eq]
      exact hk
    · obtain ⟨ok, rfl, ys, z, zs, a0, b0, rfl, e1, rfl, hP⟩ := h3 _ _ _ _ h
      obtain ⟨m1, m2, m3, n0, bg, es⟩ := step ys z zs e1
      refine ⟨ok, ?_⟩
      simp only [ixD_f0, ixD_f1, ggTup_f, fIsi_f, fLen_f, eqD_ff, neD_ff, sem0, List.map_cons, List.map_nil, List.length_cons, List.length_nil, gSeq, gNext, gRet, gRetN, gIfS, gSet, gPar, gAsg, gDrop, gVar, gC, gBin, gUn, gB, gTru, gAnd, gOr, gNot, gAndV, gOrV, gNotV, gIf, gChain, gaNil, gaCons, DL.gTup, gLst, gCB, gCall0, gAug, addD_i, addD_s, addD_l, addD_t, subD_i, mulD_i, mulD_l, fdivD_i, modD_i, powD_i, ltD_i, ltD_s, leD_i, gtD_i, geD_i, isD_n, isnotD_n, isNonD_non, isNonD_bl, isNonD_int, isNonD_str, isNonD_lst, isNonD_tup, negD_i, iaddD_i, truD_non, truD_bl, truD_int, truD_str, truD_lst, truD_tup, someK_some, ixD_l, ixD_t, fAbs_i, fInt_i, fInt_b, fMin2_i, fLen_l, fLen_t, fLen_s, fList_l, fList_t, fTuple_l, fTuple_t, optBK_some, fIsi_non, fIsi_bl, fIsi_int, fIsi_str, fIsi_lst, fIsi_tup, List.getElem?_cons_zero, List.getElem?_cons_succ, List.set_cons_zero, List.set_cons_succ, DL.ggName, ggNil0, ggCons1, ggTup2, ggTup3, gFor, giSeq, gLc, gYes, wipeR, true_and, and_true, at_0, at_1, at_2, kit_int_int, kit_bool_int, kit_str_int, kit_non_int, kit_list_int, kit_tuple_int, kit_int_bool, kit_bool_bool, kit_str_bool, kit_non_bool, kit_list_bool, kit_tuple_bool, kit_int_str, kit_bool_str, kit_str_str, kit_non_str, kit_list_str, kit_tuple_str, kit_int_list, kit_bool_list, kit_str_list, kit_non_list, kit_list_list, kit_tuple_list, kit_int_tuple, kit_bool_tuple, kit_str_tuple, kit_non_tuple, kit_list_tuple, kit_tuple_tuple, eqD_i, neD_i, eqD_s, neD_s, eqD_f, neD_f, Nat.zero_add, Nat.reduceAdd, nc0, nc1, nc2, nc3, nc4, nc5, nc6, nc7, nc8, nc9, eq_self, decide_true, decide_false, Int.reduceEq, Int.reduceLT, Int.reduceLE, Int.reduceNeg, Bool.not_true, Bool.not_false, Bool.false_eq_true, if_true, if_false, ↓reduceIte, false_and, and_false, List.all_cons, List.all_nil, List.any_cons, List.any_nil, id_eq, Bool.and_true, Bool.true_and, Bool.or_false, Bool.false_or, Bool.and_false, Bool.false_and, gCut, eqD_b, neD_b, giZip, reduceCtorEq, Bool.true_eq_false, Bool.false_eq_true, gRevL, gSl, goNone, goSome, slD_l, ne_eq, not_false_eq_true, not_true_eq_false, gBM, isTy_l, isTy_s, new_at, new_set, isTy_new, cellK_new, append_new, popAt_new, gFrz_eq, frzK_new, fLen_new, fTuple_new, ixD_new, slA_l, slA_t, slA_new, addTD_t, addCD_l, mulCD_l, isbD_b, isnotbD_b, mSplitC_s, gLstC, gTr, ggSub, lstK_l, lstK_r, addLD_eq]
      refine ⟨m1, m2, m3, _, _, rfl, ⟨n0, bg⟩, ?_⟩
      rw [es]
      exact hP _ _
theorem ok_sum_of {P : Program} {w : World} {K : PySem.W.Frag} {mg : Str → Option Value} {base : Heap} (T : DefAt K mg "sum_of" s_sum_of ["parts"]) (B : Blt mg) (F_fraction_of : FnAt P w K mg base CX0 2 "fraction_of" 2 sp_fraction_of) : FnAt P w K mg base CX0 3 "sum_of" 1 sp_sum_of := (w_sum_of T B F_fraction_of).imp v_sum_of


def sp_taken_from : GF := fun ds w _ k => ∃ x y : Qp, ds = [fD x, fD y] ∧ (Fr x ∧ Fr y ∧ Lt2 1900 x ∧ Lt2 1900 y) ∧ k (fD (subQ y x)) w
abbrev s_taken_from : Stmt := topS 4
theorem sc_taken_from : FnScope ["one", "other"] ["one", "other"] (defScope s_taken_from) := ⟨rfl, rfl, rfl, by decide +kernel, rfl, by decide +kernel, by decide +kernel⟩
def g_taken_from : GS := (gRet (gCall0 2 sp_fraction_of (gaCons (gBin subD (gBin mulD (gBin ixD (gVar 1) (gC (.int 0))) (gBin ixD (gVar 0) (gC (.int 1)))) (gBin mulD (gBin ixD (gVar 0) (gC (.int 0))) (gBin ixD (gVar 1) (gC (.int 1))))) (gaCons (gBin mulD (gBin ixD (gVar 0) (gC (.int 1))) (gBin ixD (gVar 1) (gC (.int 1)))) gaNil))))
theorem w_taken_from {P : Program} {w : World} {K : PySem.W.Frag} {mg : Str → Option Value} {base : Heap} (T : DefAt K mg "taken_from" s_taken_from ["one", "other"]) (B : Blt mg) (F_fraction_of : FnAt P w K mg base CX0 2 "fraction_of" 2 sp_fraction_of) : FnAt P w K mg base CX0 3 "taken_from" 2 (sem0 2 g_taken_from) := by
  have nd := sc_taken_from.nd
  exact T.fn0 sc_taken_from (fun f cdv A outer s H E hr => (dss_one (ds_ret (de_call0 F_fraction_of hr (by rfl) (da_cons (de_sub (de_mul (de_ix (de_var 1) de_int) (de_ix (de_var 0) de_int)) (de_mul (de_ix (de_var 0) de_int) (de_ix (de_var 1) de_int))) (da_cons (de_mul (de_ix (de_var 0) de_int) (de_ix (de_var 1) de_int)) da_nil))))))

theorem v_taken_from : ∀ ds w kx k, sp_taken_from ds w kx k → sem0 2 g_taken_from ds w kx k := by
  rintro ds w kx k ⟨x, y, rfl, ⟨hx, hy, lx, ly⟩, hk⟩
  have e : rho 2 [fD x, fD y] = [some (fD x), some (fD y)] := rfl
  simp only [g_taken_from, e, sp_fraction_of, ixD_f0, ixD_f1, ggTup_f, fIsi_f, fLen_f, eqD_ff, neD_ff, sem0, List.map_cons, List.map_nil, List.length_cons, List.length_nil, gSeq, gNext, gRet, gRetN, gIfS, gSet, gPar, gAsg, gDrop, gVar, gC, gBin, gUn, gB, gTru, gAnd, gOr, gNot, gAndV, gOrV, gNotV, gIf, gChain, gaNil, gaCons, DL.gTup, gLst, gCB, gCall0, gAug, addD_i, addD_s, addD_l, addD_t, subD_i, mulD_i, mulD_l, fdivD_i, modD_i, powD_i, ltD_i, ltD_s, leD_i, gtD_i, geD_i, isD_n, isnotD_n, isNonD_non, isNonD_bl, isNonD_int, isNonD_str, isNonD_lst, isNonD_tup, negD_i, iaddD_i, truD_non, truD_bl, truD_int, truD_str, truD_lst, truD_tup, someK_some, ixD_l, ixD_t, fAbs_i, fInt_i, fInt_b, fMin2_i, fLen_l, fLen_t, fLen_s, fList_l, fList_t, fTuple_l, fTuple_t, optBK_some, fIsi_non, fIsi_bl, fIsi_int, fIsi_str, fIsi_lst, fIsi_tup, List.getElem?_cons_zero, List.getElem?_cons_succ, List.set_cons_zero, List.set_cons_succ, DL.ggName, ggNil0, ggCons1, ggTup2, ggTup3, gFor, giSeq, gLc, gYes, wipeR, true_and, and_true, at_0, at_1, at_2, kit_int_int, kit_bool_int, kit_str_int, kit_non_int, kit_list_int, kit_tuple_int, kit_int_bool, kit_bool_bool, kit_str_bool, kit_non_bool, kit_list_bool, kit_tuple_bool, kit_int_str, kit_bool_str, kit_str_str, kit_non_str, kit_list_str, kit_tuple_str, kit_int_list, kit_bool_list, kit_str_list, kit_non_list, kit_list_list, kit_tuple_list, kit_int_tuple, kit_bool_tuple, kit_str_tuple, kit_non_tuple, kit_list_tuple, kit_tuple_tuple, eqD_i, neD_i, eqD_s, neD_s, eqD_f, neD_f, Nat.zero_add, Nat.reduceAdd, nc0, nc1, nc2, nc3, nc4, nc5, nc6, nc7, nc8, nc9, eq_self, decide_true, decide_false, Int.reduceEq, Int.reduceLT, Int.reduceLE, Int.reduceNeg, Bool.not_true, Bool.not_false, Bool.false_eq_true, if_true, if_false, ↓reduceIte, false_and, and_false, List.all_cons, List.all_nil, List.any_cons, List.any_nil, id_eq, Bool.and_true, Bool.true_and, Bool.or_false, Bool.false_or, Bool.and_false, Bool.false_and, gCut, eqD_b, neD_b, giZip, reduceCtorEq, Bool.true_eq_false, Bool.false_eq_true, gRevL, gSl, goNone, goSome, slD_l, ne_eq, not_false_eq_true, not_true_eq_false, gBM, isTy_l, isTy_s, new_at, new_set, isTy_new, cellK_new, append_new, popAt_new, gFrz_eq, frzK_new, fLen_new, fTuple_new, ixD_new, slA_l, slA_t, slA_new, addTD_t, addCD_l, mulCD_l, isbD_b, isnotbD_b, mSplitC_s, gLstC, gTr, ggSub, lstK_l, lstK_r, addLD_eq]
  refine ⟨mulx_ok ly.1 lx.2 (by decide), mulx_ok lx.1 ly.2 (by decide), mulx_ok lx.2 ly.2 (by decide), _, _, rfl, ⟨Int.mul_ne_zero (by have := hx.pos; omega) (by have := hy.pos; omega), nat_mono (wide_lt lx.2 ly.2) (by decide)⟩, hk⟩
theorem ok_taken_from {P : Program} {w : World} {K : PySem.W.Frag} {mg : Str → Option Value} {base : Heap} (T : DefAt K mg "taken_from" s_taken_from ["one", "other"]) (B : Blt mg) (F_fraction_of : FnAt P w K mg base CX0 2 "fraction_of" 2 sp_fraction_of) : FnAt P w K mg base CX0 3 "taken_from" 2 sp_taken_from := (w_taken_from T B F_fraction_of).imp v_taken_from


def sp_product_of : GF := fun ds w _ k => ∃ x y : Qp, ds = [fD x, fD y] ∧ (x.2 ≠ 0 ∧ y.2 ≠ 0 ∧ Lt2 1900 x ∧ Lt2 1900 y) ∧ k (fD (mulQ x y)) w
abbrev s_product_of : Stmt := topS 5
theorem sc_product_of : FnScope ["one", "other"] ["one", "other"] (defScope s_product_of) := ⟨rfl, rfl, rfl, by decide +kernel, rfl, by decide +kernel, by decide +kernel⟩
def g_product_of : GS := (gRet (gCall0 2 sp_fraction_of (gaCons (gBin mulD (gBin ixD (gVar 0) (gC (.int 0))) (gBin ixD (gVar 1) (gC (.int 0)))) (gaCons (gBin mulD (gBin ixD (gVar 0) (gC (.int 1))) (gBin ixD (gVar 1) (gC (.int 1)))) gaNil))))
theorem w_product_of {P : Program} {w : World} {K : PySem.W.Frag} {mg : Str → Option Value} {base : Heap} (T : DefAt K mg "product_of" s_product_of ["one", "other"]) (B : Blt mg) (F_fraction_of : FnAt P w K mg base CX0 2 "fraction_of" 2 sp_fraction_of) : FnAt P w K mg base CX0 3 "product_of" 2 (sem0 2 g_product_of) := by
  have nd := sc_product_of.nd
  exact T.fn0 sc_product_of (fun f cdv A outer s H E hr => (dss_one (ds_ret (de_call0 F_fraction_of hr (by rfl) (da_cons (de_mul (de_ix (de_var 0) de_int) (de_ix (de_var 1) de_int)) (da_cons (de_mul (de_ix (de_var 0) de_int) (de_ix (de_var 1) de_int)) da_nil))))))

theorem v_product_of : ∀ ds w kx k, sp_product_of ds w kx k → sem0 2 g_product_of ds w kx k := by
  rintro ds w kx k ⟨x, y, rfl, ⟨hx, hy, lx, ly⟩, hk⟩
  have e : rho 2 [fD x, fD y] = [some (fD x), some (fD y)] := rfl
  simp only [g_product_of, e, sp_fraction_of, ixD_f0, ixD_f1, ggTup_f, fIsi_f, fLen_f, eqD_ff, neD_ff, sem0, List.map_cons, List.map_nil, List.length_cons, List.length_nil, gSeq, gNext, gRet, gRetN, gIfS, gSet, gPar, gAsg, gDrop, gVar, gC, gBin, gUn, gB, gTru, gAnd, gOr, gNot, gAndV, gOrV, gNotV, gIf, gChain, gaNil, gaCons, DL.gTup, gLst, gCB, gCall0, gAug, addD_i, addD_s, addD_l, addD_t, subD_i, mulD_i, mulD_l, fdivD_i, modD_i, powD_i, ltD_i, ltD_s, leD_i, gtD_i, geD_i, isD_n, isnotD_n, isNonD_non, isNonD_bl, isNonD_int, isNonD_str, isNonD_lst, isNonD_tup, negD_i, iaddD_i, truD_non, truD_bl, truD_int, truD_str, truD_lst, truD_tup, someK_some, ixD_l, ixD_t, fAbs_i, fInt_i, fInt_b, fMin2_i, fLen_l, fLen_t, fLen_s, fList_l, fList_t, fTuple_l, fTuple_t, optBK_some, fIsi_non, fIsi_bl, fIsi_int, fIsi_str, fIsi_lst, fIsi_tup, List.getElem?_cons_zero, List.getElem?_cons_succ, List.set_cons_zero, List.set_cons_succ, DL.ggName, ggNil0, ggCons1, ggTup2, ggTup3, gFor, giSeq, gLc, gYes, wipeR, true_and, and_true, at_0, at_1, at_2, kit_int_int, kit_bool_int, kit_str_int, kit_non_int, kit_list_int, kit_tuple_int, kit_int_bool, kit_bool_bool, kit_str_bool, kit_non_bool, kit_list_bool, kit_tuple_bool, kit_int_str, kit_bool_str, kit_str_str, kit_non_str, kit_list_str, kit_tuple_str, kit_int_list, kit_bool_list, kit_str_list, kit_non_list, kit_list_list, kit_tuple_list, kit_int_tuple, kit_bool_tuple, kit_str_tuple, kit_non_tuple, kit_list_tuple, kit_tuple_tuple, eqD_i, neD_i, eqD_s, neD_s, eqD_f, neD_f, Nat.zero_add, Nat.reduceAdd, nc0, nc1, nc2, nc3, nc4, nc5, nc6, nc7, nc8, nc9, eq_self, decide_true, decide_false, Int.reduceEq, Int.reduceLT, Int.reduceLE, Int.reduceNeg, Bool.not_true, Bool.not_false, Bool.false_eq_true, if_true, if_false, ↓reduceIte, false_and, and_false, List.all_cons, List.all_nil, List.any_cons, List.any_nil, id_eq, Bool.and_true, Bool.true_and, Bool.or_false, Bool.false_or, Bool.and_false, Bool.false_and, gCut, eqD_b, neD_b, giZip, reduceCtorEq, Bool.true_eq_false, Bool.false_eq_true, gRevL, gSl, goNone, goSome, slD_l, ne_eq, not_false_eq_true, not_true_eq_false, gBM, isTy_l, isTy_s, new_at, new_set, isTy_new, cellK_new, append_new, popAt_new, gFrz_eq, frzK_new, fLen_new, fTuple_new, ixD_new, slA_l, slA_t, slA_new, addTD_t, addCD_l, mulCD_l, isbD_b, isnotbD_b, mSplitC_s, gLstC, gTr, ggSub, lstK_l, lstK_r, addLD_eq]
  exact ⟨mulx_ok lx.1 ly.1 (by decide), mulx_ok lx.2 ly.2 (by decide), _, _, rfl, ⟨Int.mul_ne_zero hx hy, nat_mono (wide_lt lx.2 ly.2) (by decide)⟩, hk⟩
theorem ok_product_of {P : Program} {w : World} {K : PySem.W.Frag} {mg : Str → Option Value} {base : Heap} (T : DefAt K mg "product_of" s_product_of ["one", "other"]) (B : Blt mg) (F_fraction_of : FnAt P w K mg base CX0 2 "fraction_of" 2 sp_fraction_of) : FnAt P w K mg base CX0 3 "product_of" 2 sp_product_of := (w_product_of T B F_fraction_of).imp v_product_of


def lessQ (x y : Qp) : Bool := decide (x.1 * y.2 < y.1 * x.2)
def sp_is_less : GF := fun ds w _ k => ∃ x y : Qp, ds = [fD x, fD y] ∧ (Lt2 4000 x ∧ Lt2 4000 y) ∧ k (.bl (lessQ x y)) w
abbrev s_is_less : Stmt := topS 6
theorem sc_is_less : FnScope ["one", "other"] ["one", "other"] (defScope s_is_less) := ⟨rfl, rfl, rfl, by decide +kernel, rfl, by decide +kernel, by decide +kernel⟩
def g_is_less : GS := (gRet (gBin ltD (gBin mulD (gBin ixD (gVar 0) (gC (.int 0))) (gBin ixD (gVar 1) (gC (.int 1)))) (gBin mulD (gBin ixD (gVar 1) (gC (.int 0))) (gBin ixD (gVar 0) (gC (.int 1))))))
theorem w_is_less {P : Program} {w : World} {K : PySem.W.Frag} {mg : Str → Option Value} {base : Heap} (T : DefAt K mg "is_less" s_is_less ["one", "other"]) (B : Blt mg) : FnAt P w K mg base CX0 1 "is_less" 2 (sem0 2 g_is_less) := by
  have nd := sc_is_less.nd
  exact T.fn0 sc_is_less (fun f cdv A outer s H E hr => (dss_one (ds_ret (de_lt (de_mul (de_ix (de_var 0) de_int) (de_ix (de_var 1) de_int)) (de_mul (de_ix (de_var 1) de_int) (de_ix (de_var 0) de_int))))))

theorem v_is_less : ∀ ds w kx k, sp_is_less ds w kx k → sem0 2 g_is_less ds w kx k := by
  rintro ds w kx k ⟨x, y, rfl, ⟨lx, ly⟩, hk⟩
  have e : rho 2 [fD x, fD y] = [some (fD x), some (fD y)] := rfl
  simp only [g_is_less, e, ixD_f0, ixD_f1, ggTup_f, fIsi_f, fLen_f, eqD_ff, neD_ff, sem0, List.map_cons, List.map_nil, List.length_cons, List.length_nil, gSeq, gNext, gRet, gRetN, gIfS, gSet, gPar, gAsg, gDrop, gVar, gC, gBin, gUn, gB, gTru, gAnd, gOr, gNot, gAndV, gOrV, gNotV, gIf, gChain, gaNil, gaCons, DL.gTup, gLst, gCB, gCall0, gAug, addD_i, addD_s, addD_l, addD_t, subD_i, mulD_i, mulD_l, fdivD_i, modD_i, powD_i, ltD_i, ltD_s, leD_i, gtD_i, geD_i, isD_n, isnotD_n, isNonD_non, isNonD_bl, isNonD_int, isNonD_str, isNonD_lst, isNonD_tup, negD_i, iaddD_i, truD_non, truD_bl, truD_int, truD_str, truD_lst, truD_tup, someK_some, ixD_l, ixD_t, fAbs_i, fInt_i, fInt_b, fMin2_i, fLen_l, fLen_t, fLen_s, fList_l, fList_t, fTuple_l, fTuple_t, optBK_some, fIsi_non, fIsi_bl, fIsi_int, fIsi_str, fIsi_lst, fIsi_tup, List.getElem?_cons_zero, List.getElem?_cons_succ, List.set_cons_zero, List.set_cons_succ, DL.ggName, ggNil0, ggCons1, ggTup2, ggTup3, gFor, giSeq, gLc, gYes, wipeR, true_and, and_true, at_0, at_1, at_2, kit_int_int, kit_bool_int, kit_str_int, kit_non_int, kit_list_int, kit_tuple_int, kit_int_bool, kit_bool_bool, kit_str_bool, kit_non_bool, kit_list_bool, kit_tuple_bool, kit_int_str, kit_bool_str, kit_str_str, kit_non_str, kit_list_str, kit_tuple_str, kit_int_list, kit_bool_list, kit_str_list, kit_non_list, kit_list_list, kit_tuple_list, kit_int_tuple, kit_bool_tuple, kit_str_tuple, kit_non_tuple, kit_list_tuple, kit_tuple_tuple, eqD_i, neD_i, eqD_s, neD_s, eqD_f, neD_f, Nat.zero_add, Nat.reduceAdd, nc0, nc1, nc2, nc3, nc4, nc5, nc6, nc7, nc8, nc9, eq_self, decide_true, decide_false, Int.reduceEq, Int.reduceLT, Int.reduceLE, Int.reduceNeg, Bool.not_true, Bool.not_false, Bool.false_eq_true, if_true, if_false, ↓reduceIte, false_and, and_false, List.all_cons, List.all_nil, List.any_cons, List.any_nil, id_eq, Bool.and_true, Bool.true_and, Bool.or_false, Bool.false_or, Bool.and_false, Bool.false_and, gCut, eqD_b, neD_b, giZip, reduceCtorEq, Bool.true_eq_false, Bool.false_eq_true, gRevL, gSl, goNone, goSome, slD_l, ne_eq, not_false_eq_true, not_true_eq_false, gBM, isTy_l, isTy_s, new_at, new_set, isTy_new, cellK_new, append_new, popAt_new, gFrz_eq, frzK_new, fLen_new, fTuple_new, ixD_new, slA_l, slA_t, slA_new, addTD_t, addCD_l, mulCD_l, isbD_b, isnotbD_b, mSplitC_s, gLstC, gTr, ggSub, lstK_l, lstK_r, addLD_eq]
  exact ⟨mulx_ok lx.1 ly.2 (by decide), mulx_ok ly.1 lx.2 (by decide), hk⟩
theorem ok_is_less {P : Program} {w : World} {K : PySem.W.Frag} {mg : Str → Option Value} {base : Heap} (T : DefAt K mg "is_less" s_is_less ["one", "other"]) (B : Blt mg) : FnAt P w K mg base CX0 1 "is_less" 2 sp_is_less := (w_is_less T B ).imp v_is_less


/-! ### rows_by, greatest_part, too_much -/
def sp_rows_by : GF := fun ds w _ k => ∃ (rs : List Row) (s : Str), ds = [.tup (rs.map rowD), .str s] ∧ rs.length ≤ 1000 ∧ k (.lst ((rs.filter fun r => decide (kindS r = s)).map rowD)) w
abbrev s_rows_by : Stmt := topS 8
theorem sc_rows_by : FnScope ["rows", "kind", "row"] ["rows", "kind"] (defScope s_rows_by) := ⟨rfl, rfl, rfl, by decide +kernel, rfl, by decide +kernel, by decide +kernel⟩
def g_rows_by : GS := (gRet (gLc (giSeq (gVar 0)) (ggName 2) (gB (gBin eqD (gBin ixD (gVar 2) (gC (.int 0))) (gVar 1))) (gVar 2) [2]))
theorem w_rows_by {P : Program} {w : World} {K : PySem.W.Frag} {mg : Str → Option Value} {base : Heap} (T : DefAt K mg "rows_by" s_rows_by ["rows", "kind"]) (B : Blt mg) : FnAt P w K mg base CX0 1 "rows_by" 2 (sem0 3 g_rows_by) := by
  have nd := sc_rows_by.nd
  exact T.fn0 sc_rows_by (fun f cdv A outer s H E hr => (dss_one (ds_ret (de_lc (own := [("row", 2)]) (us := [2]) rfl nd (di_seq (de_var 0)) (blkOk_by (N := ["rows", "kind", "row"]) (sc := defScope s_rows_by) (by decide +kernel)) (by decide) (fun _ _ _ _ _ => (dg_name (i := 2) nd rfl (by first | exact Or.inl rfl | exact Or.inr rfl))) (fun _ _ _ _ _ => (dts_one (dt_eq hr (de_ix (de_var 2) de_int) (de_var 1)))) (fun _ _ _ _ _ => (de_var 2))))))

theorem v_rows_by : ∀ ds w kx k, sp_rows_by ds w kx k → sem0 3 g_rows_by ds w kx k := by
  rintro ds w kx k ⟨rs, s, rfl, hl, hk⟩
  have e : rho 3 [D.tup (rs.map rowD), D.str s] = [some (.tup (rs.map rowD)), some (.str s), none] := rfl
  simp only [g_rows_by, e, sem0, List.map_cons, List.map_nil, List.length_cons, List.length_nil, gSeq, gNext, gRet, gRetN, gIfS, gSet, gPar, gAsg, gDrop, gVar, gC, gBin, gUn, gB, gTru, gAnd, gOr, gNot, gAndV, gOrV, gNotV, gIf, gChain, gaNil, gaCons, DL.gTup, gLst, gCB, gCall0, gAug, addD_i, addD_s, addD_l, addD_t, subD_i, mulD_i, mulD_l, fdivD_i, modD_i, powD_i, ltD_i, ltD_s, leD_i, gtD_i, geD_i, isD_n, isnotD_n, isNonD_non, isNonD_bl, isNonD_int, isNonD_str, isNonD_lst, isNonD_tup, negD_i, iaddD_i, truD_non, truD_bl, truD_int, truD_str, truD_lst, truD_tup, someK_some, ixD_l, ixD_t, fAbs_i, fInt_i, fInt_b, fMin2_i, fLen_l, fLen_t, fLen_s, fList_l, fList_t, fTuple_l, fTuple_t, optBK_some, fIsi_non, fIsi_bl, fIsi_int, fIsi_str, fIsi_lst, fIsi_tup, List.getElem?_cons_zero, List.getElem?_cons_succ, List.set_cons_zero, List.set_cons_succ, DL.ggName, ggNil0, ggCons1, ggTup2, ggTup3, gFor, giSeq, gLc, gYes, wipeR, true_and, and_true, at_0, at_1, at_2, kit_int_int, kit_bool_int, kit_str_int, kit_non_int, kit_list_int, kit_tuple_int, kit_int_bool, kit_bool_bool, kit_str_bool, kit_non_bool, kit_list_bool, kit_tuple_bool, kit_int_str, kit_bool_str, kit_str_str, kit_non_str, kit_list_str, kit_tuple_str, kit_int_list, kit_bool_list, kit_str_list, kit_non_list, kit_list_list, kit_tuple_list, kit_int_tuple, kit_bool_tuple, kit_str_tuple, kit_non_tuple, kit_list_tuple, kit_tuple_tuple, eqD_i, neD_i, eqD_s, neD_s, eqD_f, neD_f, Nat.zero_add, Nat.reduceAdd, nc0, nc1, nc2, nc3, nc4, nc5, nc6, nc7, nc8, nc9, eq_self, decide_true, decide_false, Int.reduceEq, Int.reduceLT, Int.reduceLE, Int.reduceNeg, Bool.not_true, Bool.not_false, Bool.false_eq_true, if_true, if_false, ↓reduceIte, false_and, and_false, List.all_cons, List.all_nil, List.any_cons, List.any_nil, id_eq, Bool.and_true, Bool.true_and, Bool.or_false, Bool.false_or, Bool.and_false, Bool.false_and, gCut, eqD_b, neD_b, giZip, reduceCtorEq, Bool.true_eq_false, Bool.false_eq_true, gRevL, gSl, goNone, goSome, slD_l, ne_eq, not_false_eq_true, not_true_eq_false, gBM, isTy_l, isTy_s, new_at, new_set, isTy_new, cellK_new, append_new, popAt_new, gFrz_eq, frzK_new, fLen_new, fTuple_new, ixD_new, slA_l, slA_t, slA_new, addTD_t, addCD_l, mulCD_l, isbD_b, isnotbD_b, mSplitC_s, gLstC, gTr, ggSub, lstK_l, lstK_r, addLD_eq]
  refine lc_tyf rowD rowD (fun r => decide (kindS r = s)) rs trivial (by omega) (fun a _ A B h1 h2 => ?_) hk
  simp only [row0, sem0, List.map_cons, List.map_nil, List.length_cons, List.length_nil, gSeq, gNext, gRet, gRetN, gIfS, gSet, gPar, gAsg, gDrop, gVar, gC, gBin, gUn, gB, gTru, gAnd, gOr, gNot, gAndV, gOrV, gNotV, gIf, gChain, gaNil, gaCons, DL.gTup, gLst, gCB, gCall0, gAug, addD_i, addD_s, addD_l, addD_t, subD_i, mulD_i, mulD_l, fdivD_i, modD_i, powD_i, ltD_i, ltD_s, leD_i, gtD_i, geD_i, isD_n, isnotD_n, isNonD_non, isNonD_bl, isNonD_int, isNonD_str, isNonD_lst, isNonD_tup, negD_i, iaddD_i, truD_non, truD_bl, truD_int, truD_str, truD_lst, truD_tup, someK_some, ixD_l, ixD_t, fAbs_i, fInt_i, fInt_b, fMin2_i, fLen_l, fLen_t, fLen_s, fList_l, fList_t, fTuple_l, fTuple_t, optBK_some, fIsi_non, fIsi_bl, fIsi_int, fIsi_str, fIsi_lst, fIsi_tup, List.getElem?_cons_zero, List.getElem?_cons_succ, List.set_cons_zero, List.set_cons_succ, DL.ggName, ggNil0, ggCons1, ggTup2, ggTup3, gFor, giSeq, gLc, gYes, wipeR, true_and, and_true, at_0, at_1, at_2, kit_int_int, kit_bool_int, kit_str_int, kit_non_int, kit_list_int, kit_tuple_int, kit_int_bool, kit_bool_bool, kit_str_bool, kit_non_bool, kit_list_bool, kit_tuple_bool, kit_int_str, kit_bool_str, kit_str_str, kit_non_str, kit_list_str, kit_tuple_str, kit_int_list, kit_bool_list, kit_str_list, kit_non_list, kit_list_list, kit_tuple_list, kit_int_tuple, kit_bool_tuple, kit_str_tuple, kit_non_tuple, kit_list_tuple, kit_tuple_tuple, eqD_i, neD_i, eqD_s, neD_s, eqD_f, neD_f, Nat.zero_add, Nat.reduceAdd, nc0, nc1, nc2, nc3, nc4, nc5, nc6, nc7, nc8, nc9, eq_self, decide_true, decide_false, Int.reduceEq, Int.reduceLT, Int.reduceLE, Int.reduceNeg, Bool.not_true, Bool.not_false, Bool.false_eq_true, if_true, if_false, ↓reduceIte, false_and, and_false, List.all_cons, List.all_nil, List.any_cons, List.any_nil, id_eq, Bool.and_true, Bool.true_and, Bool.or_false, Bool.false_or, Bool.and_false, Bool.false_and, gCut, eqD_b, neD_b, giZip, reduceCtorEq, Bool.true_eq_false, Bool.false_eq_true, gRevL, gSl, goNone, goSome, slD_l, ne_eq, not_false_eq_true, not_true_eq_false, gBM, isTy_l, isTy_s, new_at, new_set, isTy_new, cellK_new, append_new, popAt_new, gFrz_eq, frzK_new, fLen_new, fTuple_new, ixD_new, slA_l, slA_t, slA_new, addTD_t, addCD_l, mulCD_l, isbD_b, isnotbD_b, mSplitC_s, gLstC, gTr, ggSub, lstK_l, lstK_r, addLD_eq]
  exact ite2 (fun h => h1 h) (fun h => h2 (by simpa using h))
theorem ok_rows_by {P : Program} {w : World} {K : PySem.W.Frag} {mg : Str → Option Value} {base : Heap} (T : DefAt K mg "rows_by" s_rows_by ["rows", "kind"]) (B : Blt mg) : FnAt P w K mg base CX0 1 "rows_by" 2 sp_rows_by := (w_rows_by T B ).imp v_rows_by


end LW

namespace LW
open PySem PySem.Spec PyProof.Rows L2 RZ DL

/-! ### a coin's parting -/
abbrev Told := List (Str × Qp)
def pairD (x : Str × Qp) : D := .tup [.str x.1, fD x.2]
def partAt : List Rate → Int → Qp
  | [], _ => (0, 1)
  | r :: rs, u => match r.1 with
    | none => r.2
    | some up => if u < up then r.2 else partAt rs u
def PI (C : Addr) (M : List Cell) (r : Qp) : Cell := .ins C [("told", .rf (M.length + 1)), ("rest", fD r)]
def PT (T : Told) : Cell := .lst (T.map pairD)
section
variable {w : Wd} {k : KD} {M : List Cell} {n : Option Nat} {a b c : Cell} {xs : List D} {C : Addr} {fs : List (Str × D)} {d x y z : D} {j : Int}
theorem at20 : (M ++ [a, b])[M.length]? = some a := by simp
theorem at21 : (M ++ [a, b])[M.length + 1]? = some b := by
  rw [List.getElem?_append_right (by omega), show M.length + 1 - M.length = 1 by omega]
  rfl
theorem set20 : (M ++ [a, b]).set M.length c = M ++ [c, b] := by
  rw [List.set_append_right (h := Nat.le_refl _), Nat.sub_self]
  rfl
theorem set21 : (M ++ [a, b]).set (M.length + 1) c = M ++ [a, c] := by
  rw [List.set_append_right (h := by omega), show M.length + 1 - M.length = 1 by omega]
  rfl
theorem insK20 {f : List (Str × D) → Prop} : insK C M.length ⟨M ++ [.ins C fs, b], n⟩ f = f fs := by
  unfold insK
  simp only [at20, true_and]
theorem cellK21 {f : List D → Prop} : cellK (M.length + 1) ⟨M ++ [a, .lst xs], n⟩ f = f xs := by
  unfold cellK
  simp only [at21]
theorem isTy21 {T : String} : isTy T (.rf (M.length + 1)) ⟨M ++ [a, .lst xs], n⟩ = (T = "list") := by
  unfold isTy
  simp only [at21]
theorem append21 : mAppend (.rf (M.length + 1)) [d] ⟨M ++ [a, .lst xs], n⟩ k = (xs.length < sizeLine ∧ k .non ⟨M ++ [a, .lst (xs ++ [d])], n⟩) := by
  unfold mAppend
  simp only [cellK21, set21]
theorem extend21 {ys : List D} : mExtend (.rf (M.length + 1)) [.lst ys] ⟨M ++ [a, .lst xs], n⟩ k = (xs.length + ys.length ≤ sizeLine ∧ k .non ⟨M ++ [a, .lst (xs ++ ys)], n⟩) := by
  unfold mExtend
  simp only [cellK21, set21]
theorem rfK_r {i : Nat} {f : Nat → Prop} : rfK (.rf i) f = f i := rfl
theorem look_told : List.lookup ("told" : Str) [(("told" : Str), x), ("rest", y)] = some x := by
  rw [List.lookup_cons, show (("told" : Str) == "told") = true by decide +kernel]
theorem look_told1 : List.lookup ("told" : Str) [(("told" : Str), x)] = some x := by
  rw [List.lookup_cons, show (("told" : Str) == "told") = true by decide +kernel]
theorem look_rest : List.lookup ("rest" : Str) [(("told" : Str), x), ("rest", y)] = some y := by
  rw [List.lookup_cons, show (("rest" : Str) == "told") = false by decide +kernel, List.lookup_cons, show (("rest" : Str) == "rest") = true by decide +kernel]
theorem look_give : List.lookup ("give" : Str) [(("told" : Str), x), ("rest", y)] = none := by
  rw [List.lookup_cons, show (("give" : Str) == "told") = false by decide +kernel, List.lookup_cons, show (("give" : Str) == "rest") = false by decide +kernel]
  rfl
theorem look_by : List.lookup ("by_lengths" : Str) [(("told" : Str), x), ("rest", y)] = none := by
  rw [List.lookup_cons, show (("by_lengths" : Str) == "told") = false by decide +kernel, List.lookup_cons, show (("by_lengths" : Str) == "rest") = false by decide +kernel]
  rfl
theorem look_pairs : List.lookup ("pairs" : Str) [(("told" : Str), x), ("rest", y)] = none := by
  rw [List.lookup_cons, show (("pairs" : Str) == "told") = false by decide +kernel, List.lookup_cons, show (("pairs" : Str) == "rest") = false by decide +kernel]
  rfl
theorem put_rest : putFD "rest" z [(("told" : Str), x), ("rest", y)] = [(("told" : Str), x), ("rest", z)] := by
  unfold putFD
  rw [if_neg (show ¬ (("told" : Str) = "rest") by decide +kernel)]
  unfold putFD
  rw [if_pos rfl]
theorem put_rest1 : putFD "rest" z [(("told" : Str), x)] = [(("told" : Str), x), ("rest", z)] := by
  unfold putFD
  rw [if_neg (show ¬ (("told" : Str) = "rest") by decide +kernel)]
  rfl
theorem put_told0 : putFD "told" z [] = [(("told" : Str), z)] := rfl
theorem row1 {r : Row} : ixD (rowD r) (.int 1) w k = k (.str (match r with | .of n _ => n | .steps n _ => n | .left n _ => n | .length n _ => n)) w := by cases r <;> rfl
theorem row2_left {s : Str} {p : Qp} : ixD (rowD (.left s p)) (.int 2) w k = k (fD p) w := rfl
theorem row2_len {s : Str} {m : Int} : ixD (rowD (.length s m)) (.int 2) w k = k (.int m) w := rfl
theorem row1_of {s : Str} {p : Qp} : ixD (rowD (.of s p)) (.int 1) w k = k (.str s) w := rfl
theorem row1_st {s : Str} {p : List Rate} : ixD (rowD (.steps s p)) (.int 1) w k = k (.str s) w := rfl
theorem row1_left {s : Str} {p : Qp} : ixD (rowD (.left s p)) (.int 1) w k = k (.str s) w := rfl
theorem row1_len {s : Str} {m : Int} : ixD (rowD (.length s m)) (.int 1) w k = k (.str s) w := rfl
theorem pair_tup {q : Str × Qp} {t : GGs} {ρ : Rho} {kr : Rho → Wd → Prop} : DL.ggTup 2 t (pairD q) ρ w kr = t [.str q.1, fD q.2] ρ w kr := by
  show (2 = 2 ∧ t [.str q.1, fD q.2] ρ w kr) = _
  simp
theorem left_tup {s : Str} {p : Qp} {t : GGs} {ρ : Rho} {kr : Rho → Wd → Prop} : DL.ggTup 3 t (rowD (.left s p)) ρ w kr = t [.str "left", .str s, fD p] ρ w kr := by
  show (3 = 3 ∧ t [.str "left", .str s, fD p] ρ w kr) = _
  simp
theorem len_tup {s : Str} {p : Int} {t : GGs} {ρ : Rho} {kr : Rho → Wd → Prop} : DL.ggTup 3 t (rowD (.length s p)) ρ w kr = t [.str "length", .str s, .int p] ρ w kr := by
  show (3 = 3 ∧ t [.str "length", .str s, .int p] ρ w kr) = _
  simp
end
def sp_part_at : GF := fun ds w _ k => ∃ (rs : List Rate) (u : Int), ds = [.tup (rs.map rateD), .int u] ∧ Rates rs ∧ k (fD (partAt rs u)) w
abbrev s_part_at : Stmt := topS 9
theorem sc_part_at : FnScope ["rates", "unit", "upto", "part"] ["rates", "unit"] (defScope s_part_at) := ⟨rfl, rfl, rfl, by decide +kernel, rfl, by decide +kernel, by decide +kernel⟩
def g_part_at : GS := (gSeq (gFor (giSeq (gVar 0)) (ggTup 2 (ggCons (ggName 2) (ggCons (ggName 3) ggNil))) (gIfS (gOr (gB (gBin isD (gVar 2) (gC .non))) (gB (gBin ltD (gVar 1) (gVar 2)))) (gRet (gVar 3)) gNext))
  (gRet (gC .non)))
theorem w_part_at {P : Program} {w : World} {K : PySem.W.Frag} {mg : Str → Option Value} {base : Heap} (T : DefAt K mg "part_at" s_part_at ["rates", "unit"]) (B : Blt mg) : FnAt P w K mg base CX0 1 "part_at" 2 (sem0 4 g_part_at) := by
  have nd := sc_part_at.nd
  exact T.fn0 sc_part_at (fun f cdv A outer s H E hr => (dss_cons (ds_for PassesOwn.never rfl (di_seq (de_var 0)) (dg_tup rfl (dgs_cons (dg_name (i := 2) nd rfl (by first | exact Or.inl rfl | exact Or.inr rfl)) (dgs_cons (dg_name (i := 3) nd rfl (by first | exact Or.inl rfl | exact Or.inr rfl)) dgs_nil))) (dss_one (ds_if (dt_w (dw_or (dt_is (de_var 2) de_non) (dw_or1 (dt_lt (de_var 1) (de_var 2))))) (dss_one (ds_ret (de_var 3))) dss_nil)))
  (dss_one (ds_ret de_non))))

theorem v_part_at : ∀ ds w kx k, sp_part_at ds w kx k → sem0 4 g_part_at ds w kx k := by
  rintro ds w kx k ⟨rs, u, rfl, hr, hk⟩
  have e : rho 4 [D.tup (rs.map rateD), D.int u] = [some (.tup (rs.map rateD)), some (.int u), none, none] := rfl
  simp only [g_part_at, e, sem0, List.map_cons, List.map_nil, List.length_cons, List.length_nil, gSeq, gNext, gRet, gRetN, gIfS, gSet, gPar, gAsg, gDrop, gVar, gC, gBin, gUn, gB, gTru, gAnd, gOr, gNot, gAndV, gOrV, gNotV, gIf, gChain, gaNil, gaCons, DL.gTup, gLst, gCB, gCall0, gAug, addD_i, addD_s, addD_l, addD_t, subD_i, mulD_i, mulD_l, fdivD_i, modD_i, powD_i, ltD_i, ltD_s, leD_i, gtD_i, geD_i, isD_n, isnotD_n, isNonD_non, isNonD_bl, isNonD_int, isNonD_str, isNonD_lst, isNonD_tup, negD_i, iaddD_i, truD_non, truD_bl, truD_int, truD_str, truD_lst, truD_tup, someK_some, ixD_l, ixD_t, fAbs_i, fInt_i, fInt_b, fMin2_i, fLen_l, fLen_t, fLen_s, fList_l, fList_t, fTuple_l, fTuple_t, optBK_some, fIsi_non, fIsi_bl, fIsi_int, fIsi_str, fIsi_lst, fIsi_tup, List.getElem?_cons_zero, List.getElem?_cons_succ, List.set_cons_zero, List.set_cons_succ, DL.ggName, ggNil0, ggCons1, ggTup2, ggTup3, gFor, giSeq, gLc, gYes, wipeR, true_and, and_true, at_0, at_1, at_2, kit_int_int, kit_bool_int, kit_str_int, kit_non_int, kit_list_int, kit_tuple_int, kit_int_bool, kit_bool_bool, kit_str_bool, kit_non_bool, kit_list_bool, kit_tuple_bool, kit_int_str, kit_bool_str, kit_str_str, kit_non_str, kit_list_str, kit_tuple_str, kit_int_list, kit_bool_list, kit_str_list, kit_non_list, kit_list_list, kit_tuple_list, kit_int_tuple, kit_bool_tuple, kit_str_tuple, kit_non_tuple, kit_list_tuple, kit_tuple_tuple, eqD_i, neD_i, eqD_s, neD_s, eqD_f, neD_f, Nat.zero_add, Nat.reduceAdd, nc0, nc1, nc2, nc3, nc4, nc5, nc6, nc7, nc8, nc9, eq_self, decide_true, decide_false, Int.reduceEq, Int.reduceLT, Int.reduceLE, Int.reduceNeg, Bool.not_true, Bool.not_false, Bool.false_eq_true, if_true, if_false, ↓reduceIte, false_and, and_false, List.all_cons, List.all_nil, List.any_cons, List.any_nil, id_eq, Bool.and_true, Bool.true_and, Bool.or_false, Bool.false_or, Bool.and_false, Bool.false_and, gCut, eqD_b, neD_b, giZip, reduceCtorEq, Bool.true_eq_false, Bool.false_eq_true, gRevL, gSl, goNone, goSome, slD_l, ne_eq, not_false_eq_true, not_true_eq_false, gBM, isTy_l, isTy_s, new_at, new_set, isTy_new, cellK_new, append_new, popAt_new, gFrz_eq, frzK_new, fLen_new, fTuple_new, ixD_new, slA_l, slA_t, slA_new, addTD_t, addCD_l, mulCD_l, isbD_b, isnotbD_b, mSplitC_s, gLstC, gTr, ggSub, lstK_l, lstK_r, addLD_eq]
  refine ⟨fun rem ρ w' => ∃ (ts : List Rate) (x y : Option D), w' = w ∧ rem = ts.map rateD ∧ ρ = [some (.tup (rs.map rateD)), some (.int u), x, y] ∧ (∃ q, (none, q) ∈ ts) ∧ partAt ts u = partAt rs u, ⟨rs, none, none, rfl, rfl, rfl, hr.2.2, rfl⟩, ?_, ?_⟩
  · rintro ρ w' ⟨ts, x, y, rfl, h3, rfl, ⟨q, hq⟩, h5⟩
    have : ts = [] := by simpa using h3.symm
    subst this
    cases hq
  · rintro z xs ρ w' ⟨ts, x, y, rfl, h3, rfl, ⟨q, hq⟩, h5⟩
    cases ts with
    | nil => cases h3
    | cons r ts =>
      rw [List.map_cons] at h3
      injection h3 with h3 h3'
      subst h3
      subst h3'
      refine ⟨trivial, ?_⟩
      obtain ⟨up, p⟩ := r
      cases up with
      | none =>
        simp only [rate_tup, optD, ixD_f0, ixD_f1, ggTup_f, fIsi_f, fLen_f, eqD_ff, neD_ff, sem0, List.map_cons, List.map_nil, List.length_cons, List.length_nil, gSeq, gNext, gRet, gRetN, gIfS, gSet, gPar, gAsg, gDrop, gVar, gC, gBin, gUn, gB, gTru, gAnd, gOr, gNot, gAndV, gOrV, gNotV, gIf, gChain, gaNil, gaCons, DL.gTup, gLst, gCB, gCall0, gAug, addD_i, addD_s, addD_l, addD_t, subD_i, mulD_i, mulD_l, fdivD_i, modD_i, powD_i, ltD_i, ltD_s, leD_i, gtD_i, geD_i, isD_n, isnotD_n, isNonD_non, isNonD_bl, isNonD_int, isNonD_str, isNonD_lst, isNonD_tup, negD_i, iaddD_i, truD_non, truD_bl, truD_int, truD_str, truD_lst, truD_tup, someK_some, ixD_l, ixD_t, fAbs_i, fInt_i, fInt_b, fMin2_i, fLen_l, fLen_t, fLen_s, fList_l, fList_t, fTuple_l, fTuple_t, optBK_some, fIsi_non, fIsi_bl, fIsi_int, fIsi_str, fIsi_lst, fIsi_tup, List.getElem?_cons_zero, List.getElem?_cons_succ, List.set_cons_zero, List.set_cons_succ, DL.ggName, ggNil0, ggCons1, ggTup2, ggTup3, gFor, giSeq, gLc, gYes, wipeR, true_and, and_true, at_0, at_1, at_2, kit_int_int, kit_bool_int, kit_str_int, kit_non_int, kit_list_int, kit_tuple_int, kit_int_bool, kit_bool_bool, kit_str_bool, kit_non_bool, kit_list_bool, kit_tuple_bool, kit_int_str, kit_bool_str, kit_str_str, kit_non_str, kit_list_str, kit_tuple_str, kit_int_list, kit_bool_list, kit_str_list, kit_non_list, kit_list_list, kit_tuple_list, kit_int_tuple, kit_bool_tuple, kit_str_tuple, kit_non_tuple, kit_list_tuple, kit_tuple_tuple, eqD_i, neD_i, eqD_s, neD_s, eqD_f, neD_f, Nat.zero_add, Nat.reduceAdd, nc0, nc1, nc2, nc3, nc4, nc5, nc6, nc7, nc8, nc9, eq_self, decide_true, decide_false, Int.reduceEq, Int.reduceLT, Int.reduceLE, Int.reduceNeg, Bool.not_true, Bool.not_false, Bool.false_eq_true, if_true, if_false, ↓reduceIte, false_and, and_false, List.all_cons, List.all_nil, List.any_cons, List.any_nil, id_eq, Bool.and_true, Bool.true_and, Bool.or_false, Bool.false_or, Bool.and_false, Bool.false_and, gCut, eqD_b, neD_b, giZip, reduceCtorEq, Bool.true_eq_false, Bool.false_eq_true, gRevL, gSl, goNone, goSome, slD_l, ne_eq, not_false_eq_true, not_true_eq_false, gBM, isTy_l, isTy_s, new_at, new_set, isTy_new, cellK_new, append_new, popAt_new, gFrz_eq, frzK_new, fLen_new, fTuple_new, ixD_new, slA_l, slA_t, slA_new, addTD_t, addCD_l, mulCD_l, isbD_b, isnotbD_b, mSplitC_s, gLstC, gTr, ggSub, lstK_l, lstK_r, addLD_eq]
        have : p = partAt rs u := h5
        rw [this]
        exact hk
      | some up =>
        simp only [rate_tup, optD, ixD_f0, ixD_f1, ggTup_f, fIsi_f, fLen_f, eqD_ff, neD_ff, sem0, List.map_cons, List.map_nil, List.length_cons, List.length_nil, gSeq, gNext, gRet, gRetN, gIfS, gSet, gPar, gAsg, gDrop, gVar, gC, gBin, gUn, gB, gTru, gAnd, gOr, gNot, gAndV, gOrV, gNotV, gIf, gChain, gaNil, gaCons, DL.gTup, gLst, gCB, gCall0, gAug, addD_i, addD_s, addD_l, addD_t, subD_i, mulD_i, mulD_l, fdivD_i, modD_i, powD_i, ltD_i, ltD_s, leD_i, gtD_i, geD_i, isD_n, isnotD_n, isNonD_non, isNonD_bl, isNonD_int, isNonD_str, isNonD_lst, isNonD_tup, negD_i, iaddD_i, truD_non, truD_bl, truD_int, truD_str, truD_lst, truD_tup, someK_some, ixD_l, ixD_t, fAbs_i, fInt_i, fInt_b, fMin2_i, fLen_l, fLen_t, fLen_s, fList_l, fList_t, fTuple_l, fTuple_t, optBK_some, fIsi_non, fIsi_bl, fIsi_int, fIsi_str, fIsi_lst, fIsi_tup, List.getElem?_cons_zero, List.getElem?_cons_succ, List.set_cons_zero, List.set_cons_succ, DL.ggName, ggNil0, ggCons1, ggTup2, ggTup3, gFor, giSeq, gLc, gYes, wipeR, true_and, and_true, at_0, at_1, at_2, kit_int_int, kit_bool_int, kit_str_int, kit_non_int, kit_list_int, kit_tuple_int, kit_int_bool, kit_bool_bool, kit_str_bool, kit_non_bool, kit_list_bool, kit_tuple_bool, kit_int_str, kit_bool_str, kit_str_str, kit_non_str, kit_list_str, kit_tuple_str, kit_int_list, kit_bool_list, kit_str_list, kit_non_list, kit_list_list, kit_tuple_list, kit_int_tuple, kit_bool_tuple, kit_str_tuple, kit_non_tuple, kit_list_tuple, kit_tuple_tuple, eqD_i, neD_i, eqD_s, neD_s, eqD_f, neD_f, Nat.zero_add, Nat.reduceAdd, nc0, nc1, nc2, nc3, nc4, nc5, nc6, nc7, nc8, nc9, eq_self, decide_true, decide_false, Int.reduceEq, Int.reduceLT, Int.reduceLE, Int.reduceNeg, Bool.not_true, Bool.not_false, Bool.false_eq_true, if_true, if_false, ↓reduceIte, false_and, and_false, List.all_cons, List.all_nil, List.any_cons, List.any_nil, id_eq, Bool.and_true, Bool.true_and, Bool.or_false, Bool.false_or, Bool.and_false, Bool.false_and, gCut, eqD_b, neD_b, giZip, reduceCtorEq, Bool.true_eq_false, Bool.false_eq_true, gRevL, gSl, goNone, goSome, slD_l, ne_eq, not_false_eq_true, not_true_eq_false, gBM, isTy_l, isTy_s, new_at, new_set, isTy_new, cellK_new, append_new, popAt_new, gFrz_eq, frzK_new, fLen_new, fTuple_new, ixD_new, slA_l, slA_t, slA_new, addTD_t, addCD_l, mulCD_l, isbD_b, isnotbD_b, mSplitC_s, gLstC, gTr, ggSub, lstK_l, lstK_r, addLD_eq]
        have h5 : (if u < up then p else partAt ts u) = partAt rs u := h5
        refine ite2 (fun h => ?_) (fun h => ?_)
        · rw [if_pos (by simpa using h)] at h5
          rw [h5]
          exact hk
        · rw [if_neg (by simpa using h)] at h5
          refine ⟨ts, _, _, rfl, rfl, ⟨q, ?_⟩, h5⟩
          rcases List.mem_cons.mp hq with hq | hq
          · cases hq
          · exact hq
theorem ok_part_at {P : Program} {w : World} {K : PySem.W.Frag} {mg : Str → Option Value} {base : Heap} (T : DefAt K mg "part_at" s_part_at ["rates", "unit"]) (B : Blt mg) : FnAt P w K mg base CX0 1 "part_at" 2 sp_part_at := (w_part_at T B ).imp v_part_at

/-! sums of products -/
theorem mul_norm {r : Qp} {t b : Int} (hr : Fr r) (hb : b ≠ 0) : mulQ r (norm t b) = norm (r.1 * t) (r.2 * b) := by
  have h1 := (fr_norm (t := t) hb).pos
  have h2 := hr.pos
  have e := norm_eq (t := t) hb
  refine norm_cross (Int.mul_ne_zero (by omega) (by omega)) (Int.mul_ne_zero (by omega) hb) ?_
  calc r.1 * (norm t b).1 * (r.2 * b) = r.1 * r.2 * ((norm t b).1 * b) := by ac_rfl
    _ = r.1 * r.2 * (t * (norm t b).2) := by rw [e]
    _ = r.1 * t * (r.2 * (norm t b).2) := by ac_rfl
theorem sub_norm {a b c d : Int} (hb : b ≠ 0) (hd : d ≠ 0) : subQ (norm a b) (norm c d) = norm (a * d - c * b) (d * b) := by
  have h1 := (fr_norm (t := a) hb).pos
  have h2 := (fr_norm (t := c) hd).pos
  have e1 := norm_eq (t := a) hb
  have e2 := norm_eq (t := c) hd
  refine norm_cross (Int.mul_ne_zero (by omega) (by omega)) (Int.mul_ne_zero hd hb) ?_
  rw [Int.sub_mul, Int.sub_mul]
  have x1 : (norm a b).1 * (norm c d).2 * (d * b) = a * d * ((norm c d).2 * (norm a b).2) := by
    calc (norm a b).1 * (norm c d).2 * (d * b) = (norm a b).1 * b * ((norm c d).2 * d) := by ac_rfl
      _ = a * (norm a b).2 * ((norm c d).2 * d) := by rw [e1]
      _ = a * d * ((norm c d).2 * (norm a b).2) := by ac_rfl
  have x2 : (norm c d).1 * (norm a b).2 * (d * b) = c * b * ((norm c d).2 * (norm a b).2) := by
    calc (norm c d).1 * (norm a b).2 * (d * b) = (norm c d).1 * d * ((norm a b).2 * b) := by ac_rfl
      _ = c * (norm c d).2 * ((norm a b).2 * b) := by rw [e2]
      _ = c * b * ((norm c d).2 * (norm a b).2) := by ac_rfl
  rw [x1, x2]
theorem sub_scale {a c b : Int} (hb : b ≠ 0) : subQ (norm a b) (norm c b) = norm (a - c) b := by
  rw [sub_norm hb hb]
  refine norm_cross (Int.mul_ne_zero hb hb) hb ?_
  rw [← Int.sub_mul]
  ac_rfl
theorem norm_scale {a b m : Int} (hb : b ≠ 0) (hm : m ≠ 0) : norm (a * m) (b * m) = norm a b := norm_cross (Int.mul_ne_zero hb hm) hb (by ac_rfl)
/-- what is left behind a left row -/
theorem left_step {r p : Qp} (hr : Fr r) (hp : Fr p) : subQ r (mulQ r p) = norm (r.1 * (p.2 - p.1)) (r.2 * p.2) := by
  have h1 := hr.pos
  have h2 := hp.pos
  have b : r.2 * p.2 ≠ 0 := Int.mul_ne_zero (by omega) (by omega)
  have e : r = norm (r.1 * p.2) (r.2 * p.2) := by
    rw [norm_scale (by omega) (by omega)]
    exact (norm_self hr).symm
  have e2 : subQ r (mulQ r p) = subQ (norm (r.1 * p.2) (r.2 * p.2)) (norm (r.1 * p.1) (r.2 * p.2)) := by
    rw [← e]
    rfl
  rw [e2, sub_scale b, Int.mul_sub]
def sp_Parting_give (C : Addr) : GF := fun ds w _ k => ∃ (M : List Cell) (nn : Option Nat) (T : Told) (r : Qp) (s : Str) (p : Qp), ds = [.rf M.length, .str s, fD p] ∧ w = ⟨M ++ [PI C M r, PT T], nn⟩ ∧ (Fr p ∧ Fr r ∧ Lt2 1900 p ∧ Lt2 1900 r ∧ T.length ≤ 1000) ∧ k .non ⟨M ++ [PI C M (subQ r p), PT (T ++ [(s, p)])], nn⟩
abbrev s_Parting_give : Stmt := inClass (topS 10) 1
theorem sc_Parting_give : FnScope ["self", "name", "part"] ["self", "name", "part"] (defScope s_Parting_give) := ⟨rfl, rfl, rfl, by decide +kernel, rfl, by decide +kernel, by decide +kernel⟩
def g_Parting_give (C_Parting : Addr) : GS := (gSeq (gDrop (gBM "list" mAppend (gFld C_Parting (gVar 0) "told") (gaCons (gTup (gaCons (gVar 1) (gaCons (gVar 2) gaNil))) gaNil)))
  (gSetF C_Parting (gVar 0) (gCall0 2 sp_taken_from (gaCons (gVar 2) (gaCons (gFld C_Parting (gVar 0) "rest") gaNil))) "rest"))
theorem w_Parting_give {P : Program} {w : World} {K : PySem.W.Frag} {mg : Str → Option Value} {base : Heap} {C_Parting : Addr} (CL_Parting : ClsAt K mg "Parting" C_Parting ["told", "rest"]) (F_taken_from : FnAt P w K mg base CX0 3 "taken_from" 2 sp_taken_from) (T : MethAt K C_Parting "give" "Parting.give" s_Parting_give ["self", "name", "part"]) (B : Blt mg) : MtAt P w K mg base CX0 4 C_Parting "give" 3 (sem0 3 (g_Parting_give C_Parting)) := by
  have nd := sc_Parting_give.nd
  exact T.fn0 sc_Parting_give (fun f cdv A outer s H E hr => (dss_cons (ds_expr (de_bm PySem.F.plainAttrs_list PySem.F.slot_list_append (by rfl) mt_append ok_append (de_fld CL_Parting (by decide +kernel) (de_var 0)) (da_cons (de_tup (da_cons (de_var 1) (da_cons (de_var 2) da_nil))) da_nil) (by rfl) (by rfl) (by rfl) (by rfl) (by rfl)))
  (dss_one (ds_setF CL_Parting (by decide +kernel) (de_var 0) (de_call0 F_taken_from hr (by rfl) (da_cons (de_var 2) (da_cons (de_fld CL_Parting (by decide +kernel) (de_var 0)) da_nil))) (by rfl)))))

theorem v_Parting_give (C : Addr) : ∀ ds w kx k, sp_Parting_give C ds w kx k → sem0 3 (g_Parting_give C) ds w kx k := by
  rintro ds w kx k ⟨M, nn, T, r, s, p, rfl, rfl, ⟨hp, hr, lp, lr, hT⟩, hk⟩
  have e : rho 3 [D.rf M.length, D.str s, fD p] = [some (.rf M.length), some (.str s), some (fD p)] := rfl
  simp only [g_Parting_give, e, gFld, gSetF, rfK_r, PI, PT, insK20, look_told, look_rest, isTy21, sp_taken_from, sem0, List.map_cons, List.map_nil, List.length_cons, List.length_nil, gSeq, gNext, gRet, gRetN, gIfS, gSet, gPar, gAsg, gDrop, gVar, gC, gBin, gUn, gB, gTru, gAnd, gOr, gNot, gAndV, gOrV, gNotV, gIf, gChain, gaNil, gaCons, DL.gTup, gLst, gCB, gCall0, gAug, addD_i, addD_s, addD_l, addD_t, subD_i, mulD_i, mulD_l, fdivD_i, modD_i, powD_i, ltD_i, ltD_s, leD_i, gtD_i, geD_i, isD_n, isnotD_n, isNonD_non, isNonD_bl, isNonD_int, isNonD_str, isNonD_lst, isNonD_tup, negD_i, iaddD_i, truD_non, truD_bl, truD_int, truD_str, truD_lst, truD_tup, someK_some, ixD_l, ixD_t, fAbs_i, fInt_i, fInt_b, fMin2_i, fLen_l, fLen_t, fLen_s, fList_l, fList_t, fTuple_l, fTuple_t, optBK_some, fIsi_non, fIsi_bl, fIsi_int, fIsi_str, fIsi_lst, fIsi_tup, List.getElem?_cons_zero, List.getElem?_cons_succ, List.set_cons_zero, List.set_cons_succ, DL.ggName, ggNil0, ggCons1, ggTup2, ggTup3, gFor, giSeq, gLc, gYes, wipeR, true_and, and_true, at_0, at_1, at_2, kit_int_int, kit_bool_int, kit_str_int, kit_non_int, kit_list_int, kit_tuple_int, kit_int_bool, kit_bool_bool, kit_str_bool, kit_non_bool, kit_list_bool, kit_tuple_bool, kit_int_str, kit_bool_str, kit_str_str, kit_non_str, kit_list_str, kit_tuple_str, kit_int_list, kit_bool_list, kit_str_list, kit_non_list, kit_list_list, kit_tuple_list, kit_int_tuple, kit_bool_tuple, kit_str_tuple, kit_non_tuple, kit_list_tuple, kit_tuple_tuple, eqD_i, neD_i, eqD_s, neD_s, eqD_f, neD_f, Nat.zero_add, Nat.reduceAdd, nc0, nc1, nc2, nc3, nc4, nc5, nc6, nc7, nc8, nc9, eq_self, decide_true, decide_false, Int.reduceEq, Int.reduceLT, Int.reduceLE, Int.reduceNeg, Bool.not_true, Bool.not_false, Bool.false_eq_true, if_true, if_false, ↓reduceIte, false_and, and_false, List.all_cons, List.all_nil, List.any_cons, List.any_nil, id_eq, Bool.and_true, Bool.true_and, Bool.or_false, Bool.false_or, Bool.and_false, Bool.false_and, gCut, eqD_b, neD_b, giZip, reduceCtorEq, Bool.true_eq_false, Bool.false_eq_true, gRevL, gSl, goNone, goSome, slD_l, ne_eq, not_false_eq_true, not_true_eq_false, gBM, isTy_l, isTy_s, new_at, new_set, isTy_new, cellK_new, append_new, popAt_new, gFrz_eq, frzK_new, fLen_new, fTuple_new, ixD_new, slA_l, slA_t, slA_new, addTD_t, addCD_l, mulCD_l, isbD_b, isnotbD_b, mSplitC_s, gLstC, gTr, ggSub, lstK_l, lstK_r, addLD_eq]
  simp only [append21, insK20, look_rest, sem0, List.map_cons, List.map_nil, List.length_cons, List.length_nil, gSeq, gNext, gRet, gRetN, gIfS, gSet, gPar, gAsg, gDrop, gVar, gC, gBin, gUn, gB, gTru, gAnd, gOr, gNot, gAndV, gOrV, gNotV, gIf, gChain, gaNil, gaCons, DL.gTup, gLst, gCB, gCall0, gAug, addD_i, addD_s, addD_l, addD_t, subD_i, mulD_i, mulD_l, fdivD_i, modD_i, powD_i, ltD_i, ltD_s, leD_i, gtD_i, geD_i, isD_n, isnotD_n, isNonD_non, isNonD_bl, isNonD_int, isNonD_str, isNonD_lst, isNonD_tup, negD_i, iaddD_i, truD_non, truD_bl, truD_int, truD_str, truD_lst, truD_tup, someK_some, ixD_l, ixD_t, fAbs_i, fInt_i, fInt_b, fMin2_i, fLen_l, fLen_t, fLen_s, fList_l, fList_t, fTuple_l, fTuple_t, optBK_some, fIsi_non, fIsi_bl, fIsi_int, fIsi_str, fIsi_lst, fIsi_tup, List.getElem?_cons_zero, List.getElem?_cons_succ, List.set_cons_zero, List.set_cons_succ, DL.ggName, ggNil0, ggCons1, ggTup2, ggTup3, gFor, giSeq, gLc, gYes, wipeR, true_and, and_true, at_0, at_1, at_2, kit_int_int, kit_bool_int, kit_str_int, kit_non_int, kit_list_int, kit_tuple_int, kit_int_bool, kit_bool_bool, kit_str_bool, kit_non_bool, kit_list_bool, kit_tuple_bool, kit_int_str, kit_bool_str, kit_str_str, kit_non_str, kit_list_str, kit_tuple_str, kit_int_list, kit_bool_list, kit_str_list, kit_non_list, kit_list_list, kit_tuple_list, kit_int_tuple, kit_bool_tuple, kit_str_tuple, kit_non_tuple, kit_list_tuple, kit_tuple_tuple, eqD_i, neD_i, eqD_s, neD_s, eqD_f, neD_f, Nat.zero_add, Nat.reduceAdd, nc0, nc1, nc2, nc3, nc4, nc5, nc6, nc7, nc8, nc9, eq_self, decide_true, decide_false, Int.reduceEq, Int.reduceLT, Int.reduceLE, Int.reduceNeg, Bool.not_true, Bool.not_false, Bool.false_eq_true, if_true, if_false, ↓reduceIte, false_and, and_false, List.all_cons, List.all_nil, List.any_cons, List.any_nil, id_eq, Bool.and_true, Bool.true_and, Bool.or_false, Bool.false_or, Bool.and_false, Bool.false_and, gCut, eqD_b, neD_b, giZip, reduceCtorEq, Bool.true_eq_false, Bool.false_eq_true, gRevL, gSl, goNone, goSome, slD_l, ne_eq, not_false_eq_true, not_true_eq_false, gBM, isTy_l, isTy_s, new_at, new_set, isTy_new, cellK_new, append_new, popAt_new, gFrz_eq, frzK_new, fLen_new, fTuple_new, ixD_new, slA_l, slA_t, slA_new, addTD_t, addCD_l, mulCD_l, isbD_b, isnotbD_b, mSplitC_s, gLstC, gTr, ggSub, lstK_l, lstK_r, addLD_eq]
  refine ⟨by decide, lt_sl (by rw [List.length_map]; exact Nat.le_trans hT (by decide)), p, r, rfl, ⟨hp, hr, lp, lr⟩, ?_⟩
  simp only [insK20, put_rest, set20, sem0, List.map_cons, List.map_nil, List.length_cons, List.length_nil, gSeq, gNext, gRet, gRetN, gIfS, gSet, gPar, gAsg, gDrop, gVar, gC, gBin, gUn, gB, gTru, gAnd, gOr, gNot, gAndV, gOrV, gNotV, gIf, gChain, gaNil, gaCons, DL.gTup, gLst, gCB, gCall0, gAug, addD_i, addD_s, addD_l, addD_t, subD_i, mulD_i, mulD_l, fdivD_i, modD_i, powD_i, ltD_i, ltD_s, leD_i, gtD_i, geD_i, isD_n, isnotD_n, isNonD_non, isNonD_bl, isNonD_int, isNonD_str, isNonD_lst, isNonD_tup, negD_i, iaddD_i, truD_non, truD_bl, truD_int, truD_str, truD_lst, truD_tup, someK_some, ixD_l, ixD_t, fAbs_i, fInt_i, fInt_b, fMin2_i, fLen_l, fLen_t, fLen_s, fList_l, fList_t, fTuple_l, fTuple_t, optBK_some, fIsi_non, fIsi_bl, fIsi_int, fIsi_str, fIsi_lst, fIsi_tup, List.getElem?_cons_zero, List.getElem?_cons_succ, List.set_cons_zero, List.set_cons_succ, DL.ggName, ggNil0, ggCons1, ggTup2, ggTup3, gFor, giSeq, gLc, gYes, wipeR, true_and, and_true, at_0, at_1, at_2, kit_int_int, kit_bool_int, kit_str_int, kit_non_int, kit_list_int, kit_tuple_int, kit_int_bool, kit_bool_bool, kit_str_bool, kit_non_bool, kit_list_bool, kit_tuple_bool, kit_int_str, kit_bool_str, kit_str_str, kit_non_str, kit_list_str, kit_tuple_str, kit_int_list, kit_bool_list, kit_str_list, kit_non_list, kit_list_list, kit_tuple_list, kit_int_tuple, kit_bool_tuple, kit_str_tuple, kit_non_tuple, kit_list_tuple, kit_tuple_tuple, eqD_i, neD_i, eqD_s, neD_s, eqD_f, neD_f, Nat.zero_add, Nat.reduceAdd, nc0, nc1, nc2, nc3, nc4, nc5, nc6, nc7, nc8, nc9, eq_self, decide_true, decide_false, Int.reduceEq, Int.reduceLT, Int.reduceLE, Int.reduceNeg, Bool.not_true, Bool.not_false, Bool.false_eq_true, if_true, if_false, ↓reduceIte, false_and, and_false, List.all_cons, List.all_nil, List.any_cons, List.any_nil, id_eq, Bool.and_true, Bool.true_and, Bool.or_false, Bool.false_or, Bool.and_false, Bool.false_and, gCut, eqD_b, neD_b, giZip, reduceCtorEq, Bool.true_eq_false, Bool.false_eq_true, gRevL, gSl, goNone, goSome, slD_l, ne_eq, not_false_eq_true, not_true_eq_false, gBM, isTy_l, isTy_s, new_at, new_set, isTy_new, cellK_new, append_new, popAt_new, gFrz_eq, frzK_new, fLen_new, fTuple_new, ixD_new, slA_l, slA_t, slA_new, addTD_t, addCD_l, mulCD_l, isbD_b, isnotbD_b, mSplitC_s, gLstC, gTr, ggSub, lstK_l, lstK_r, addLD_eq]
  refine ⟨by decide, ?_⟩
  rw [PI, PT, List.map_append] at hk
  exact hk
theorem ok_Parting_give {P : Program} {w : World} {K : PySem.W.Frag} {mg : Str → Option Value} {base : Heap} {C_Parting : Addr} (CL_Parting : ClsAt K mg "Parting" C_Parting ["told", "rest"]) (F_taken_from : FnAt P w K mg base CX0 3 "taken_from" 2 sp_taken_from) (T : MethAt K C_Parting "give" "Parting.give" s_Parting_give ["self", "name", "part"]) (B : Blt mg) : MtAt P w K mg base CX0 4 C_Parting "give" 3 (sp_Parting_give C_Parting) := (w_Parting_give CL_Parting F_taken_from T B).imp (v_Parting_give C_Parting)


end LW

namespace LW
open PySem PySem.Spec PyProof.Rows L2 RZ DL

def lenR : Row → Int
  | .length _ m => m
  | _ => 0
def nameR : Row → Str
  | .of n _ => n
  | .steps n _ => n
  | .left n _ => n
  | .length n _ => n
def totR (rs : List Row) : Int := (rs.map lenR).sum
def lensE (r : Qp) (e : Int) (rs : List Row) : Told := rs.map fun x => (nameR x, norm (r.1 * lenR x) (r.2 * e))
def restLen (r : Qp) : List Row → Qp
  | [] => r
  | _ :: _ => (0, 1)
def IsLen (x : Row) : Prop := ∃ s l, x = .length s l ∧ 0 < l ∧ l ≤ 1000
theorem tot_bd : ∀ {rs : List Row}, (∀ x ∈ rs, IsLen x) → (rs.length : Int) ≤ totR rs ∧ totR rs ≤ 1000 * rs.length
  | [], _ => by simp [totR]
  | x :: rs, h => by
    obtain ⟨s, l, rfl, h1, h2⟩ := h x List.mem_cons_self
    obtain ⟨h3, h4⟩ := tot_bd fun y hy => h y (List.mem_cons_of_mem _ hy)
    have e : totR (Row.length s l :: rs) = l + totR rs := by simp [totR, lenR]
    rw [e, List.length_cons]
    omega
theorem tot_app (xs ys : List Row) : totR (xs ++ ys) = totR xs + totR ys := by simp [totR]
def sp_Parting_by_lengths (C : Addr) : GF := fun ds w _ k => ∃ (M : List Cell) (nn : Option Nat) (T : Told) (r : Qp) (rs : List Row), ds = [.rf M.length, .lst (rs.map rowD)] ∧ w = ⟨M ++ [PI C M r, PT T], nn⟩ ∧ (Fr r ∧ Lt2 330 r ∧ T.length + rs.length ≤ 900 ∧ rs.length ≤ 8 ∧ ∀ x ∈ rs, IsLen x) ∧ k .non ⟨M ++ [PI C M (restLen r rs), PT (T ++ lensE r (totR rs) rs)], nn⟩
abbrev s_Parting_by_lengths : Stmt := inClass (topS 10) 2
theorem sc_Parting_by_lengths : FnScope ["self", "rows", "every", "rest", "kind", "name", "length", "row"] ["self", "rows"] (defScope s_Parting_by_lengths) := ⟨rfl, rfl, rfl, by decide +kernel, rfl, by decide +kernel, by decide +kernel⟩
def g_Parting_by_lengths (C_Parting : Addr) : GS := (gSeq (gSet 2 (gCB fSum (gaCons (gLc (giSeq (gVar 1)) (ggName 7) gYes (gBin ixD (gVar 7) (gC (.int 2))) [7]) gaNil)))
  (gSeq (gSet 3 (gFld C_Parting (gVar 0) "rest"))
  (gFor (giSeq (gVar 1)) (ggTup 3 (ggCons (ggName 4) (ggCons (ggName 5) (ggCons (ggName 6) ggNil)))) (gDrop (gMeth C_Parting 3 (sp_Parting_give C_Parting) "give" (gVar 0) (gaCons (gVar 5) (gaCons (gCall0 2 sp_product_of (gaCons (gVar 3) (gaCons (gCall0 2 sp_fraction_of (gaCons (gVar 6) (gaCons (gVar 2) gaNil))) gaNil))) gaNil)))))))
theorem w_Parting_by_lengths {P : Program} {w : World} {K : PySem.W.Frag} {mg : Str → Option Value} {base : Heap} {C_Parting : Addr} (CL_Parting : ClsAt K mg "Parting" C_Parting ["told", "rest"]) (F_Parting_give : MtAt P w K mg base CX0 4 C_Parting "give" 3 (sp_Parting_give C_Parting)) (F_product_of : FnAt P w K mg base CX0 3 "product_of" 2 sp_product_of) (F_fraction_of : FnAt P w K mg base CX0 2 "fraction_of" 2 sp_fraction_of) (T : MethAt K C_Parting "by_lengths" "Parting.by_lengths" s_Parting_by_lengths ["self", "rows"]) (B : Blt mg) : MtAt P w K mg base CX0 5 C_Parting "by_lengths" 2 (sem0 8 (g_Parting_by_lengths C_Parting)) := by
  have nd := sc_Parting_by_lengths.nd
  exact T.fn0 sc_Parting_by_lengths (fun f cdv A outer s H E hr => (dss_cons (ds_set (i := 2) nd rfl (by first | exact Or.inl rfl | exact Or.inr rfl) (de_sum B rfl (by rfl) (da_cons (de_lc (own := [("row", 7)]) (us := [7]) rfl nd (di_seq (de_var 1)) (blkOk_by (N := ["self", "rows", "every", "rest", "kind", "name", "length", "row"]) (sc := defScope s_Parting_by_lengths) (by decide +kernel)) (by decide) (fun _ _ _ _ _ => (dg_name (i := 7) nd rfl (by first | exact Or.inl rfl | exact Or.inr rfl))) (fun _ _ _ _ _ => dts_nil) (fun _ _ _ _ _ => (de_ix (de_var 7) de_int))) da_nil)))
  (dss_cons (ds_set (i := 3) nd rfl (by first | exact Or.inl rfl | exact Or.inr rfl) (de_fld CL_Parting (by decide +kernel) (de_var 0)))
  (dss_one (ds_for PassesOwn.never rfl (di_seq (de_var 1)) (dg_tup rfl (dgs_cons (dg_name (i := 4) nd rfl (by first | exact Or.inl rfl | exact Or.inr rfl)) (dgs_cons (dg_name (i := 5) nd rfl (by first | exact Or.inl rfl | exact Or.inr rfl)) (dgs_cons (dg_name (i := 6) nd rfl (by first | exact Or.inl rfl | exact Or.inr rfl)) dgs_nil)))) (dss_one (ds_expr (de_meth CL_Parting F_Parting_give hr (de_var 0) (da_cons (de_var 5) (da_cons (de_call0 F_product_of hr (by rfl) (da_cons (de_var 3) (da_cons (de_call0 F_fraction_of hr (by rfl) (da_cons (de_var 6) (da_cons (de_var 2) da_nil))) da_nil))) da_nil)) (by decide) (by rfl) (by rfl) (by rfl)))))))))

theorem v_Parting_by_lengths (C : Addr) : ∀ ds w kx k, sp_Parting_by_lengths C ds w kx k → sem0 8 (g_Parting_by_lengths C) ds w kx k := by
  rintro ds w kx k ⟨M, nn, T, r, rs, rfl, rfl, ⟨hr, lr, hT, hl, hx⟩, hk⟩
  have e : rho 8 [D.rf M.length, D.lst (rs.map rowD)] = [some (.rf M.length), some (.lst (rs.map rowD)), none, none, none, none, none, none] := rfl
  simp only [g_Parting_by_lengths, e, gFld, gMeth, rfK_r, sp_product_of, sp_fraction_of, sem0, List.map_cons, List.map_nil, List.length_cons, List.length_nil, gSeq, gNext, gRet, gRetN, gIfS, gSet, gPar, gAsg, gDrop, gVar, gC, gBin, gUn, gB, gTru, gAnd, gOr, gNot, gAndV, gOrV, gNotV, gIf, gChain, gaNil, gaCons, DL.gTup, gLst, gCB, gCall0, gAug, addD_i, addD_s, addD_l, addD_t, subD_i, mulD_i, mulD_l, fdivD_i, modD_i, powD_i, ltD_i, ltD_s, leD_i, gtD_i, geD_i, isD_n, isnotD_n, isNonD_non, isNonD_bl, isNonD_int, isNonD_str, isNonD_lst, isNonD_tup, negD_i, iaddD_i, truD_non, truD_bl, truD_int, truD_str, truD_lst, truD_tup, someK_some, ixD_l, ixD_t, fAbs_i, fInt_i, fInt_b, fMin2_i, fLen_l, fLen_t, fLen_s, fList_l, fList_t, fTuple_l, fTuple_t, optBK_some, fIsi_non, fIsi_bl, fIsi_int, fIsi_str, fIsi_lst, fIsi_tup, List.getElem?_cons_zero, List.getElem?_cons_succ, List.set_cons_zero, List.set_cons_succ, DL.ggName, ggNil0, ggCons1, ggTup2, ggTup3, gFor, giSeq, gLc, gYes, wipeR, true_and, and_true, at_0, at_1, at_2, kit_int_int, kit_bool_int, kit_str_int, kit_non_int, kit_list_int, kit_tuple_int, kit_int_bool, kit_bool_bool, kit_str_bool, kit_non_bool, kit_list_bool, kit_tuple_bool, kit_int_str, kit_bool_str, kit_str_str, kit_non_str, kit_list_str, kit_tuple_str, kit_int_list, kit_bool_list, kit_str_list, kit_non_list, kit_list_list, kit_tuple_list, kit_int_tuple, kit_bool_tuple, kit_str_tuple, kit_non_tuple, kit_list_tuple, kit_tuple_tuple, eqD_i, neD_i, eqD_s, neD_s, eqD_f, neD_f, Nat.zero_add, Nat.reduceAdd, nc0, nc1, nc2, nc3, nc4, nc5, nc6, nc7, nc8, nc9, eq_self, decide_true, decide_false, Int.reduceEq, Int.reduceLT, Int.reduceLE, Int.reduceNeg, Bool.not_true, Bool.not_false, Bool.false_eq_true, if_true, if_false, ↓reduceIte, false_and, and_false, List.all_cons, List.all_nil, List.any_cons, List.any_nil, id_eq, Bool.and_true, Bool.true_and, Bool.or_false, Bool.false_or, Bool.and_false, Bool.false_and, gCut, eqD_b, neD_b, giZip, reduceCtorEq, Bool.true_eq_false, Bool.false_eq_true, gRevL, gSl, goNone, goSome, slD_l, ne_eq, not_false_eq_true, not_true_eq_false, gBM, isTy_l, isTy_s, new_at, new_set, isTy_new, cellK_new, append_new, popAt_new, gFrz_eq, frzK_new, fLen_new, fTuple_new, ixD_new, slA_l, slA_t, slA_new, addTD_t, addCD_l, mulCD_l, isbD_b, isnotbD_b, mSplitC_s, gLstC, gTr, ggSub, lstK_l, lstK_r, addLD_eq]
  refine lc_ty rowD (fun x => .int (lenR x)) rs trivial (by omega) (fun a ha k' hk' => ?_) ?_
  · obtain ⟨s, l, rfl, _, _⟩ := hx a ha
    simp only [row2_len, sem0, List.map_cons, List.map_nil, List.length_cons, List.length_nil, gSeq, gNext, gRet, gRetN, gIfS, gSet, gPar, gAsg, gDrop, gVar, gC, gBin, gUn, gB, gTru, gAnd, gOr, gNot, gAndV, gOrV, gNotV, gIf, gChain, gaNil, gaCons, DL.gTup, gLst, gCB, gCall0, gAug, addD_i, addD_s, addD_l, addD_t, subD_i, mulD_i, mulD_l, fdivD_i, modD_i, powD_i, ltD_i, ltD_s, leD_i, gtD_i, geD_i, isD_n, isnotD_n, isNonD_non, isNonD_bl, isNonD_int, isNonD_str, isNonD_lst, isNonD_tup, negD_i, iaddD_i, truD_non, truD_bl, truD_int, truD_str, truD_lst, truD_tup, someK_some, ixD_l, ixD_t, fAbs_i, fInt_i, fInt_b, fMin2_i, fLen_l, fLen_t, fLen_s, fList_l, fList_t, fTuple_l, fTuple_t, optBK_some, fIsi_non, fIsi_bl, fIsi_int, fIsi_str, fIsi_lst, fIsi_tup, List.getElem?_cons_zero, List.getElem?_cons_succ, List.set_cons_zero, List.set_cons_succ, DL.ggName, ggNil0, ggCons1, ggTup2, ggTup3, gFor, giSeq, gLc, gYes, wipeR, true_and, and_true, at_0, at_1, at_2, kit_int_int, kit_bool_int, kit_str_int, kit_non_int, kit_list_int, kit_tuple_int, kit_int_bool, kit_bool_bool, kit_str_bool, kit_non_bool, kit_list_bool, kit_tuple_bool, kit_int_str, kit_bool_str, kit_str_str, kit_non_str, kit_list_str, kit_tuple_str, kit_int_list, kit_bool_list, kit_str_list, kit_non_list, kit_list_list, kit_tuple_list, kit_int_tuple, kit_bool_tuple, kit_str_tuple, kit_non_tuple, kit_list_tuple, kit_tuple_tuple, eqD_i, neD_i, eqD_s, neD_s, eqD_f, neD_f, Nat.zero_add, Nat.reduceAdd, nc0, nc1, nc2, nc3, nc4, nc5, nc6, nc7, nc8, nc9, eq_self, decide_true, decide_false, Int.reduceEq, Int.reduceLT, Int.reduceLE, Int.reduceNeg, Bool.not_true, Bool.not_false, Bool.false_eq_true, if_true, if_false, ↓reduceIte, false_and, and_false, List.all_cons, List.all_nil, List.any_cons, List.any_nil, id_eq, Bool.and_true, Bool.true_and, Bool.or_false, Bool.false_or, Bool.and_false, Bool.false_and, gCut, eqD_b, neD_b, giZip, reduceCtorEq, Bool.true_eq_false, Bool.false_eq_true, gRevL, gSl, goNone, goSome, slD_l, ne_eq, not_false_eq_true, not_true_eq_false, gBM, isTy_l, isTy_s, new_at, new_set, isTy_new, cellK_new, append_new, popAt_new, gFrz_eq, frzK_new, fLen_new, fTuple_new, ixD_new, slA_l, slA_t, slA_new, addTD_t, addCD_l, mulCD_l, isbD_b, isnotbD_b, mSplitC_s, gLstC, gTr, ggSub, lstK_l, lstK_r, addLD_eq]
    exact hk'
  have em : (rs.map fun x => D.int (lenR x)) = (rs.map lenR).map D.int := by rw [List.map_map]; rfl
  rw [em, fSum_m]
  simp only [rfK_r, PI, insK20, look_rest, sem0, List.map_cons, List.map_nil, List.length_cons, List.length_nil, gSeq, gNext, gRet, gRetN, gIfS, gSet, gPar, gAsg, gDrop, gVar, gC, gBin, gUn, gB, gTru, gAnd, gOr, gNot, gAndV, gOrV, gNotV, gIf, gChain, gaNil, gaCons, DL.gTup, gLst, gCB, gCall0, gAug, addD_i, addD_s, addD_l, addD_t, subD_i, mulD_i, mulD_l, fdivD_i, modD_i, powD_i, ltD_i, ltD_s, leD_i, gtD_i, geD_i, isD_n, isnotD_n, isNonD_non, isNonD_bl, isNonD_int, isNonD_str, isNonD_lst, isNonD_tup, negD_i, iaddD_i, truD_non, truD_bl, truD_int, truD_str, truD_lst, truD_tup, someK_some, ixD_l, ixD_t, fAbs_i, fInt_i, fInt_b, fMin2_i, fLen_l, fLen_t, fLen_s, fList_l, fList_t, fTuple_l, fTuple_t, optBK_some, fIsi_non, fIsi_bl, fIsi_int, fIsi_str, fIsi_lst, fIsi_tup, List.getElem?_cons_zero, List.getElem?_cons_succ, List.set_cons_zero, List.set_cons_succ, DL.ggName, ggNil0, ggCons1, ggTup2, ggTup3, gFor, giSeq, gLc, gYes, wipeR, true_and, and_true, at_0, at_1, at_2, kit_int_int, kit_bool_int, kit_str_int, kit_non_int, kit_list_int, kit_tuple_int, kit_int_bool, kit_bool_bool, kit_str_bool, kit_non_bool, kit_list_bool, kit_tuple_bool, kit_int_str, kit_bool_str, kit_str_str, kit_non_str, kit_list_str, kit_tuple_str, kit_int_list, kit_bool_list, kit_str_list, kit_non_list, kit_list_list, kit_tuple_list, kit_int_tuple, kit_bool_tuple, kit_str_tuple, kit_non_tuple, kit_list_tuple, kit_tuple_tuple, eqD_i, neD_i, eqD_s, neD_s, eqD_f, neD_f, Nat.zero_add, Nat.reduceAdd, nc0, nc1, nc2, nc3, nc4, nc5, nc6, nc7, nc8, nc9, eq_self, decide_true, decide_false, Int.reduceEq, Int.reduceLT, Int.reduceLE, Int.reduceNeg, Bool.not_true, Bool.not_false, Bool.false_eq_true, if_true, if_false, ↓reduceIte, false_and, and_false, List.all_cons, List.all_nil, List.any_cons, List.any_nil, id_eq, Bool.and_true, Bool.true_and, Bool.or_false, Bool.false_or, Bool.and_false, Bool.false_and, gCut, eqD_b, neD_b, giZip, reduceCtorEq, Bool.true_eq_false, Bool.false_eq_true, gRevL, gSl, goNone, goSome, slD_l, ne_eq, not_false_eq_true, not_true_eq_false, gBM, isTy_l, isTy_s, new_at, new_set, isTy_new, cellK_new, append_new, popAt_new, gFrz_eq, frzK_new, fLen_new, fTuple_new, ixD_new, slA_l, slA_t, slA_new, addTD_t, addCD_l, mulCD_l, isbD_b, isnotbD_b, mSplitC_s, gLstC, gTr, ggSub, lstK_l, lstK_r, addLD_eq]
  obtain ⟨b1, b2⟩ := tot_bd hx
  have h2p := hr.pos
  show ∃ P : List D → Rho → Wd → Prop, P (rs.map rowD) [some (.rf M.length), some (.lst (rs.map rowD)), some (.int (totR rs)), some (fD r), none, none, none, none] ⟨M ++ [PI C M r, PT T], nn⟩ ∧ _
  refine ⟨fun rem ρ w' => ∃ (dn ts : List Row) (q : Qp) (x4 x5 x6 : Option D), rs = dn ++ ts ∧ rem = ts.map rowD ∧ ρ = [some (.rf M.length), some (.lst (rs.map rowD)), some (.int (totR rs)), some (fD r), x4, x5, x6, none] ∧
    w' = ⟨M ++ [PI C M q, PT (T ++ lensE r (totR rs) dn)], nn⟩ ∧ (rs = [] → q = r) ∧ (rs ≠ [] → q = norm (r.1 * (totR rs - totR dn)) (r.2 * totR rs)), ⟨[], rs, r, none, none, none, rfl, rfl, rfl, by rw [show lensE r (totR rs) [] = [] from rfl, List.append_nil], fun _ => rfl, fun h => ?_⟩, ?_, ?_⟩
  · have hl2 : 0 < rs.length := List.length_pos_iff.mpr h
    rw [show totR [] = 0 from rfl, Int.sub_zero, norm_scale (by omega) (by omega), norm_self hr]
  · rintro ρ w' ⟨dn, ts, q, x4, x5, x6, h1, h2, rfl, rfl, h3, h4⟩
    have : ts = [] := by simpa using h2.symm
    subst this
    rw [List.append_nil] at h1
    subst h1
    refine ⟨trivial, ?_⟩
    have eq : q = restLen r rs := by
      cases rs with
      | nil => exact h3 rfl
      | cons a as =>
        rw [h4 (by simp), Int.sub_self, Int.mul_zero]
        have hl2 : 0 < (a :: as).length := by simp
        show norm 0 (r.2 * totR (a :: as)) = ((0, 1) : Qp)
        exact norm_of (Int.mul_ne_zero (by omega) (by omega)) ⟨by decide, by decide⟩ (by show (0 : Int) * _ = 0 * 1; omega)
    rw [eq]
    exact hk
  · rintro z xs ρ w' ⟨dn, ts, q, x4, x5, x6, h1, h2, rfl, rfl, h3, h4⟩
    cases ts with
    | nil => cases h2
    | cons a ts =>
      rw [List.map_cons] at h2
      injection h2 with h2 h2'
      subst h2
      subst h2'
      have hne : rs ≠ [] := by rw [h1]; simp
      have hl2 : 0 < rs.length := List.length_pos_iff.mpr hne
      have hq := h4 hne
      obtain ⟨s, l, rfl, hl1, hl3⟩ := hx a (by rw [h1]; simp)
      have hxd : ∀ x ∈ dn, IsLen x := fun x hx' => hx x (by rw [h1]; exact List.mem_append_left _ hx')
      have hxt : ∀ x ∈ ts, IsLen x := fun x hx' => hx x (by rw [h1]; simp [hx'])
      obtain ⟨c1, c2⟩ := tot_bd hxd
      obtain ⟨c3, c4⟩ := tot_bd hxt
      have etot : totR rs = totR dn + (l + totR ts) := by
        rw [h1, tot_app]
        simp [totR, lenR]
      have e0 : totR rs ≠ 0 := by omega
      have b0 : r.2 * totR rs ≠ 0 := Int.mul_ne_zero (by omega) e0
      have ltot : (totR rs).natAbs < 2 ^ 13 := Nat.lt_of_le_of_lt (show (totR rs).natAbs ≤ 8000 by omega) (by decide)
      have lb : (r.2 * totR rs).natAbs < 2 ^ 343 := wide_lt lr.2 ltot
      have lp : Lt2 343 (norm (r.1 * l) (r.2 * totR rs)) := norm_lt (a := 343) b0 (wide_lt (b := 13) lr.1 (Nat.lt_of_le_of_lt (show l.natAbs ≤ 8000 by omega) (by decide))) lb
      have lq : Lt2 343 q := by
        rw [hq]
        exact norm_lt (a := 343) b0 (wide_lt (b := 13) lr.1 (Nat.lt_of_le_of_lt (show (totR rs - totR dn).natAbs ≤ 8000 by omega) (by decide))) lb
      refine ⟨trivial, ?_⟩
      simp only [len_tup, gMeth, gFld, sp_product_of, sp_fraction_of, rfK_r, PI, insK20, look_give, sem0, List.map_cons, List.map_nil, List.length_cons, List.length_nil, gSeq, gNext, gRet, gRetN, gIfS, gSet, gPar, gAsg, gDrop, gVar, gC, gBin, gUn, gB, gTru, gAnd, gOr, gNot, gAndV, gOrV, gNotV, gIf, gChain, gaNil, gaCons, DL.gTup, gLst, gCB, gCall0, gAug, addD_i, addD_s, addD_l, addD_t, subD_i, mulD_i, mulD_l, fdivD_i, modD_i, powD_i, ltD_i, ltD_s, leD_i, gtD_i, geD_i, isD_n, isnotD_n, isNonD_non, isNonD_bl, isNonD_int, isNonD_str, isNonD_lst, isNonD_tup, negD_i, iaddD_i, truD_non, truD_bl, truD_int, truD_str, truD_lst, truD_tup, someK_some, ixD_l, ixD_t, fAbs_i, fInt_i, fInt_b, fMin2_i, fLen_l, fLen_t, fLen_s, fList_l, fList_t, fTuple_l, fTuple_t, optBK_some, fIsi_non, fIsi_bl, fIsi_int, fIsi_str, fIsi_lst, fIsi_tup, List.getElem?_cons_zero, List.getElem?_cons_succ, List.set_cons_zero, List.set_cons_succ, DL.ggName, ggNil0, ggCons1, ggTup2, ggTup3, gFor, giSeq, gLc, gYes, wipeR, true_and, and_true, at_0, at_1, at_2, kit_int_int, kit_bool_int, kit_str_int, kit_non_int, kit_list_int, kit_tuple_int, kit_int_bool, kit_bool_bool, kit_str_bool, kit_non_bool, kit_list_bool, kit_tuple_bool, kit_int_str, kit_bool_str, kit_str_str, kit_non_str, kit_list_str, kit_tuple_str, kit_int_list, kit_bool_list, kit_str_list, kit_non_list, kit_list_list, kit_tuple_list, kit_int_tuple, kit_bool_tuple, kit_str_tuple, kit_non_tuple, kit_list_tuple, kit_tuple_tuple, eqD_i, neD_i, eqD_s, neD_s, eqD_f, neD_f, Nat.zero_add, Nat.reduceAdd, nc0, nc1, nc2, nc3, nc4, nc5, nc6, nc7, nc8, nc9, eq_self, decide_true, decide_false, Int.reduceEq, Int.reduceLT, Int.reduceLE, Int.reduceNeg, Bool.not_true, Bool.not_false, Bool.false_eq_true, if_true, if_false, ↓reduceIte, false_and, and_false, List.all_cons, List.all_nil, List.any_cons, List.any_nil, id_eq, Bool.and_true, Bool.true_and, Bool.or_false, Bool.false_or, Bool.and_false, Bool.false_and, gCut, eqD_b, neD_b, giZip, reduceCtorEq, Bool.true_eq_false, Bool.false_eq_true, gRevL, gSl, goNone, goSome, slD_l, ne_eq, not_false_eq_true, not_true_eq_false, gBM, isTy_l, isTy_s, new_at, new_set, isTy_new, cellK_new, append_new, popAt_new, gFrz_eq, frzK_new, fLen_new, fTuple_new, ixD_new, slA_l, slA_t, slA_new, addTD_t, addCD_l, mulCD_l, isbD_b, isnotbD_b, mSplitC_s, gLstC, gTr, ggSub, lstK_l, lstK_r, addLD_eq]
      refine ⟨l, totR rs, rfl, ⟨e0, nat_mono ltot (by decide)⟩, r, norm l (totR rs), rfl, ⟨by omega, by have := (fr_norm (t := l) e0).pos; omega, lr.mono (by decide), (norm_lt (a := 13) e0 (Nat.lt_of_le_of_lt (show l.natAbs ≤ 8000 by omega) (by decide)) ltot).mono (by decide)⟩, ?_⟩
      rw [mul_norm hr e0]
      refine ⟨M, nn, T ++ lensE r (totR rs) dn, q, s, _, rfl, rfl, ⟨fr_norm b0, by rw [hq]; exact fr_norm b0, lp.mono (by decide), lq.mono (by decide), ?_⟩, ?_⟩
      · rw [List.length_append, lensE, List.length_map]
        have : dn.length ≤ rs.length := by rw [h1]; simp
        omega
      · refine ⟨dn ++ [.length s l], ts, subQ q (norm (r.1 * l) (r.2 * totR rs)), _, _, _, by rw [h1]; simp, rfl, rfl, ?_, fun z => absurd z hne, fun _ => ?_⟩
        · show (⟨M ++ [PI C M _, PT _], nn⟩ : Wd) = ⟨M ++ [PI C M _, PT _], nn⟩
          rw [List.append_assoc, show lensE r (totR rs) (dn ++ [Row.length s l]) = lensE r (totR rs) dn ++ [(s, norm (r.1 * l) (r.2 * totR rs))] by simp [lensE, nameR, lenR]]
        · rw [hq, sub_scale b0, ← Int.mul_sub, tot_app]
          congr 2
          simp [totR, lenR]
          omega
theorem ok_Parting_by_lengths {P : Program} {w : World} {K : PySem.W.Frag} {mg : Str → Option Value} {base : Heap} {C_Parting : Addr} (CL_Parting : ClsAt K mg "Parting" C_Parting ["told", "rest"]) (F_Parting_give : MtAt P w K mg base CX0 4 C_Parting "give" 3 (sp_Parting_give C_Parting)) (F_product_of : FnAt P w K mg base CX0 3 "product_of" 2 sp_product_of) (F_fraction_of : FnAt P w K mg base CX0 2 "fraction_of" 2 sp_fraction_of) (T : MethAt K C_Parting "by_lengths" "Parting.by_lengths" s_Parting_by_lengths ["self", "rows"]) (B : Blt mg) : MtAt P w K mg base CX0 5 C_Parting "by_lengths" 2 (sp_Parting_by_lengths C_Parting) := (w_Parting_by_lengths CL_Parting F_Parting_give F_product_of F_fraction_of T B).imp (v_Parting_by_lengths C_Parting)


end LW

namespace LW
open PySem PySem.Spec PyProof.Rows L2 RZ DL

/-! the parting's beginning -/
def lefts : List Row → Qp → Told × Qp
  | [], r => ([], r)
  | .left n p :: rs, r => ((n, mulQ r p) :: (lefts rs (subQ r (mulQ r p))).1, (lefts rs (subQ r (mulQ r p))).2)
  | _ :: rs, r => lefts rs r
def ofN : Row → Option (Str × Qp)
  | .of n p => some (n, p)
  | _ => none
def stN (u : Int) : Row → Option (Str × Qp)
  | .steps n qs => some (n, partAt qs u)
  | _ => none
def told0 (rs : List Row) (u : Int) : Told := rs.filterMap ofN ++ rs.filterMap (stN u)
def rest0 (rs : List Row) (u : Int) : Qp := subQ (1, 1) (sumQ ((told0 rs u).map Prod.snd))
def lenRows (rs : List Row) : List Row := rs.filter fun r => decide (kindS r = "length")
def tellP (rs : List Row) (u : Int) : Told := told0 rs u ++ (lefts rs (rest0 rs u)).1 ++ lensE (lefts rs (rest0 rs u)).2 (totR (lenRows rs)) (lenRows rs)
def restP (rs : List Row) (u : Int) : Qp := restLen (lefts rs (rest0 rs u)).2 (lenRows rs)
theorem partAt_ok {u : Int} : ∀ {rs : List Rate}, (∀ r ∈ rs, Part r.2) → Pt0 (partAt rs u)
  | [], _ => pt00
  | r :: rs, h => by
    obtain ⟨up, p⟩ := r
    have hp := (h _ List.mem_cons_self).pt0
    cases up with
    | none => exact hp
    | some up =>
      show Pt0 (if u < up then p else partAt rs u)
      split
      · exact hp
      · exact partAt_ok fun x hx => h x (List.mem_cons_of_mem _ hx)
theorem told0_ok {rs : List Row} {u : Int} (h : ∀ r ∈ rs, RowOk r) : FrB 12 ((told0 rs u).map Prod.snd) := fun p hp => by
  obtain ⟨x, hx, rfl⟩ := List.mem_map.mp hp
  rcases List.mem_append.mp hx with hx | hx
  · obtain ⟨r, hr, e⟩ := List.mem_filterMap.mp hx
    have := h r hr
    cases r with
    | of n q =>
      cases e
      exact ⟨this.fr, this.lt⟩
    | _ => cases e
  · obtain ⟨r, hr, e⟩ := List.mem_filterMap.mp hx
    have := h r hr
    cases r with
    | steps n q =>
      cases e
      have := partAt_ok (u := u) this.2.1
      exact ⟨this.fr, this.lt⟩
    | _ => cases e
theorem told0_len (rs : List Row) (u : Int) : (told0 rs u).length ≤ 2 * rs.length := by
  unfold told0
  rw [List.length_append]
  have h1 := List.length_filterMap_le ofN rs
  have h2 := List.length_filterMap_le (stN u) rs
  omega
theorem rest0_ok {rs : List Row} {u : Int} (h : ∀ r ∈ rs, RowOk r) (hl : rs.length ≤ 8) : Fr (rest0 rs u) ∧ Lt2 211 (rest0 rs u) := by
  have hF := told0_ok (u := u) h
  have hl2 := told0_len rs u
  have fs := fr_sum fun q hq => (hF q hq).1
  have ls := sum_lt rfl hF
  have ln : (12 + 1) * ((told0 rs u).map Prod.snd).length + 1 ≤ 209 := by
    rw [List.length_map]
    have : 13 * (told0 rs u).length ≤ 13 * 16 := Nat.mul_le_mul_left _ (by omega)
    omega
  have l2 := ls.mono ln
  have n0 : (sumQ ((told0 rs u).map Prod.snd)).2 * (1 : Int) ≠ 0 := by have := fs.pos; omega
  have l1 : Lt2 1 ((1, 1) : Qp) := ⟨by decide, by decide⟩
  have b1 : ((1 : Int) * (sumQ ((told0 rs u).map Prod.snd)).2).natAbs < 2 ^ 210 := by
    have := wide_lt l1.1 l2.2
    exact nat_mono this (by decide)
  have b2 := wide_lt l2.1 l1.2
  refine ⟨fr_norm n0, norm_lt n0 (sub_lt b1 b2) (nat_mono (wide_lt l2.2 l1.2) (by decide))⟩
theorem left_ok {r p : Qp} {a : Nat} (hr : Fr r) (hp : Part p) (lr : Lt2 a r) : Fr (subQ r (mulQ r p)) ∧ Lt2 (a + 13) (subQ r (mulQ r p)) ∧ Fr (mulQ r p) ∧ Lt2 (a + 13) (mulQ r p) := by
  have b : r.2 * p.2 ≠ 0 := Int.mul_ne_zero (by have := hr.pos; omega) (by have := hp.fr.pos; omega)
  have lb : (r.2 * p.2).natAbs < 2 ^ (a + 13) := nat_mono (wide_lt lr.2 hp.lt.2) (by omega)
  have ld : (p.2 - p.1).natAbs < 2 ^ 13 := sub_lt hp.lt.2 hp.lt.1
  rw [left_step hr hp.fr]
  exact ⟨fr_norm b, norm_lt b (wide_lt lr.1 ld) lb, fr_norm b, norm_lt b (nat_mono (wide_lt lr.1 hp.lt.1) (by omega)) lb⟩
theorem lefts_ok {m : Nat} : ∀ {rs : List Row} {r : Qp} {a : Nat}, (∀ x ∈ rs, RowOk x) → Fr r → Lt2 a r → rs.length ≤ m → Fr (lefts rs r).2 ∧ Lt2 (a + 13 * m) (lefts rs r).2 ∧ ∀ x ∈ (lefts rs r).1, Fr x.2 ∧ Lt2 (a + 13 * m) x.2 := by
  induction m with
  | zero =>
    intro rs r a h hr lr hl
    have : rs = [] := List.length_eq_zero_iff.mp (by omega)
    subst this
    exact ⟨hr, lr, fun _ h => nomatch h⟩
  | succ m ih =>
    intro rs r a h hr lr hl
    cases rs with
    | nil => exact ⟨hr, lr.mono (by omega), fun _ h => nomatch h⟩
    | cons x rs =>
      have hx := h x List.mem_cons_self
      have ht : ∀ y ∈ rs, RowOk y := fun y hy => h y (List.mem_cons_of_mem _ hy)
      have hl' : rs.length ≤ m := by rw [List.length_cons] at hl; omega
      have other : Fr (lefts rs r).2 ∧ Lt2 (a + 13 * (m + 1)) (lefts rs r).2 ∧ ∀ x ∈ (lefts rs r).1, Fr x.2 ∧ Lt2 (a + 13 * (m + 1)) x.2 := by
        obtain ⟨h1, h2, h3⟩ := ih ht hr lr hl'
        exact ⟨h1, h2.mono (by omega), fun x hx => ⟨(h3 x hx).1, (h3 x hx).2.mono (by omega)⟩⟩
      cases x with
      | left n p =>
        obtain ⟨f1, l1, f2, l2⟩ := left_ok hr hx lr
        obtain ⟨h1, h2, h3⟩ := ih (r := subQ r (mulQ r p)) (a := a + 13) ht f1 l1 hl'
        refine ⟨h1, h2.mono (by omega), fun y hy => ?_⟩
        rcases List.mem_cons.mp hy with rfl | hy
        · exact ⟨f2, l2.mono (by omega)⟩
        · exact ⟨(h3 y hy).1, (h3 y hy).2.mono (by omega)⟩
      | _ => exact other
theorem lefts_len : ∀ (rs : List Row) (r : Qp), (lefts rs r).1.length ≤ rs.length
  | [], r => Nat.le_refl _
  | .left n p :: rs, r => Nat.succ_le_succ (lefts_len rs _)
  | .of n p :: rs, r => Nat.le_succ_of_le (lefts_len rs r)
  | .steps n p :: rs, r => Nat.le_succ_of_le (lefts_len rs r)
  | .length n p :: rs, r => Nat.le_succ_of_le (lefts_len rs r)
theorem lefts_flt : ∀ (rs : List Row) (r : Qp), lefts (rs.filter fun r => decide (kindS r = "left")) r = lefts rs r
  | [], r => rfl
  | .left n p :: rs, r => by
    rw [List.filter_cons, if_pos (by show decide (("left" : Str) = "left") = true; decide +kernel)]
    show ((n, mulQ r p) :: _, _) = ((n, mulQ r p) :: _, _)
    rw [lefts_flt rs]
  | .of n p :: rs, r => by
    rw [List.filter_cons, if_neg (by show ¬ decide (("of" : Str) = "left") = true; decide +kernel)]
    exact lefts_flt rs r
  | .steps n p :: rs, r => by
    rw [List.filter_cons, if_neg (by show ¬ decide (("steps" : Str) = "left") = true; decide +kernel)]
    exact lefts_flt rs r
  | .length n p :: rs, r => by
    rw [List.filter_cons, if_neg (by show ¬ decide (("length" : Str) = "left") = true; decide +kernel)]
    exact lefts_flt rs r
theorem kind_left {r : Row} (h : kindS r = "left") : ∃ n p, r = .left n p := by
  cases r with
  | of n p => exact absurd (show ("of" : Str) = "left" from h) (by decide +kernel)
  | steps n p => exact absurd (show ("steps" : Str) = "left" from h) (by decide +kernel)
  | left n p => exact ⟨n, p, rfl⟩
  | length n p => exact absurd (show ("length" : Str) = "left" from h) (by decide +kernel)
theorem kind_len {r : Row} (h : kindS r = "length") : ∃ n p, r = .length n p := by
  cases r with
  | of n p => exact absurd (show ("of" : Str) = "length" from h) (by decide +kernel)
  | steps n p => exact absurd (show ("steps" : Str) = "length" from h) (by decide +kernel)
  | left n p => exact absurd (show ("left" : Str) = "length" from h) (by decide +kernel)
  | length n p => exact ⟨n, p, rfl⟩
theorem kind_of {r : Row} (h : kindS r = "of") : ∃ n p, r = .of n p := by
  cases r with
  | of n p => exact ⟨n, p, rfl⟩
  | steps n p => exact absurd (show ("steps" : Str) = "of" from h) (by decide +kernel)
  | left n p => exact absurd (show ("left" : Str) = "of" from h) (by decide +kernel)
  | length n p => exact absurd (show ("length" : Str) = "of" from h) (by decide +kernel)
theorem kind_st {r : Row} (h : kindS r = "steps") : ∃ n p, r = .steps n p := by
  cases r with
  | of n p => exact absurd (show ("of" : Str) = "steps" from h) (by decide +kernel)
  | steps n p => exact ⟨n, p, rfl⟩
  | left n p => exact absurd (show ("left" : Str) = "steps" from h) (by decide +kernel)
  | length n p => exact absurd (show ("length" : Str) = "steps" from h) (by decide +kernel)
theorem flt_mem {rs : List Row} {s : Str} {r : Row} (h : r ∈ rs.filter fun r => decide (kindS r = s)) : r ∈ rs ∧ kindS r = s := by
  obtain ⟨h1, h2⟩ := List.mem_filter.mp h
  exact ⟨h1, of_decide_eq_true h2⟩
theorem flt_len (rs : List Row) (s : Str) : (rs.filter fun r => decide (kindS r = s)).length ≤ rs.length := List.length_filter_le _ _
def tellR (u : Int) : Row → Str × Qp
  | .of n p => (n, p)
  | .steps n qs => (n, partAt qs u)
  | .left n p => (n, p)
  | .length n _ => (n, (0, 1))
theorem of_flt {u : Int} : ∀ rs : List Row, (rs.filter fun r => decide (kindS r = "of")).map (tellR u) = rs.filterMap ofN
  | [] => rfl
  | .of n p :: rs => by
    rw [List.filter_cons, if_pos (by show decide (("of" : Str) = "of") = true; decide +kernel), List.map_cons, of_flt rs]
    rfl
  | .steps n p :: rs => by
    rw [List.filter_cons, if_neg (by show ¬ decide (("steps" : Str) = "of") = true; decide +kernel), of_flt rs]
    rfl
  | .left n p :: rs => by
    rw [List.filter_cons, if_neg (by show ¬ decide (("left" : Str) = "of") = true; decide +kernel), of_flt rs]
    rfl
  | .length n p :: rs => by
    rw [List.filter_cons, if_neg (by show ¬ decide (("length" : Str) = "of") = true; decide +kernel), of_flt rs]
    rfl
theorem st_flt {u : Int} : ∀ rs : List Row, (rs.filter fun r => decide (kindS r = "steps")).map (tellR u) = rs.filterMap (stN u)
  | [] => rfl
  | .steps n p :: rs => by
    rw [List.filter_cons, if_pos (by show decide (("steps" : Str) = "steps") = true; decide +kernel), List.map_cons, st_flt rs]
    rfl
  | .of n p :: rs => by
    rw [List.filter_cons, if_neg (by show ¬ decide (("of" : Str) = "steps") = true; decide +kernel), st_flt rs]
    rfl
  | .left n p :: rs => by
    rw [List.filter_cons, if_neg (by show ¬ decide (("left" : Str) = "steps") = true; decide +kernel), st_flt rs]
    rfl
  | .length n p :: rs => by
    rw [List.filter_cons, if_neg (by show ¬ decide (("length" : Str) = "steps") = true; decide +kernel), st_flt rs]
    rfl
theorem tell_len {u : Int} : ∀ (rs : List Row) (r : Qp), (rs.filterMap ofN).length + (rs.filterMap (stN u)).length + (lefts rs r).1.length + (lenRows rs).length ≤ rs.length
  | [], r => Nat.le_refl _
  | .of n p :: rs, r => by
    have ih := tell_len (u := u) rs r
    have e : lenRows (.of n p :: rs) = lenRows rs := by
      unfold lenRows
      rw [List.filter_cons, if_neg (by show ¬ decide (("of" : Str) = "length") = true; decide +kernel)]
    have e2 : lefts (.of n p :: rs) r = lefts rs r := rfl
    have e3 : (Row.of n p :: rs).filterMap ofN = (n, p) :: rs.filterMap ofN := rfl
    have e4 : (Row.of n p :: rs).filterMap (stN u) = rs.filterMap (stN u) := rfl
    rw [e, e2, e3, e4, List.length_cons, List.length_cons]
    omega
  | .steps n p :: rs, r => by
    have ih := tell_len (u := u) rs r
    have e : lenRows (.steps n p :: rs) = lenRows rs := by
      unfold lenRows
      rw [List.filter_cons, if_neg (by show ¬ decide (("steps" : Str) = "length") = true; decide +kernel)]
    have e2 : lefts (.steps n p :: rs) r = lefts rs r := rfl
    have e3 : (Row.steps n p :: rs).filterMap ofN = rs.filterMap ofN := rfl
    have e4 : (Row.steps n p :: rs).filterMap (stN u) = (n, partAt p u) :: rs.filterMap (stN u) := rfl
    rw [e, e2, e3, e4, List.length_cons, List.length_cons]
    omega
  | .left n p :: rs, r => by
    have ih := tell_len (u := u) rs (subQ r (mulQ r p))
    have e : lenRows (.left n p :: rs) = lenRows rs := by
      unfold lenRows
      rw [List.filter_cons, if_neg (by show ¬ decide (("left" : Str) = "length") = true; decide +kernel)]
    have e2 : (lefts (.left n p :: rs) r).1 = (n, mulQ r p) :: (lefts rs (subQ r (mulQ r p))).1 := rfl
    have e3 : (Row.left n p :: rs).filterMap ofN = rs.filterMap ofN := rfl
    have e4 : (Row.left n p :: rs).filterMap (stN u) = rs.filterMap (stN u) := rfl
    rw [e, e2, e3, e4, List.length_cons, List.length_cons]
    omega
  | .length n p :: rs, r => by
    have ih := tell_len (u := u) rs r
    have e : lenRows (.length n p :: rs) = .length n p :: lenRows rs := by
      unfold lenRows
      rw [List.filter_cons, if_pos (by show decide (("length" : Str) = "length") = true; decide +kernel)]
    have e2 : lefts (.length n p :: rs) r = lefts rs r := rfl
    have e3 : (Row.length n p :: rs).filterMap ofN = rs.filterMap ofN := rfl
    have e4 : (Row.length n p :: rs).filterMap (stN u) = rs.filterMap (stN u) := rfl
    rw [e, e2, e3, e4, List.length_cons, List.length_cons]
    omega
def sp_Parting___init__ (C : Addr) : GF := fun ds w _ k => ∃ (M : List Cell) (nn : Option Nat) (rs : List Row) (u : Int), ds = [.rf M.length, .tup (rs.map rowD), .int u] ∧ w = ⟨M ++ [.ins C []], nn⟩ ∧ RowsOk rs 8 ∧ k .non ⟨M ++ [PI C M (restP rs u), PT (tellP rs u)], nn⟩
abbrev s_Parting___init__ : Stmt := inClass (topS 10) 0
theorem sc_Parting___init__ : FnScope ["self", "rows", "unit", "kind", "name", "part", "row"] ["self", "rows", "unit"] (defScope s_Parting___init__) := ⟨rfl, rfl, rfl, by decide +kernel, rfl, by decide +kernel, by decide +kernel⟩
def g_Parting___init__ (C_Parting : Addr) : GS := (gSeq (gSetF C_Parting (gVar 0) (gLcC (giSeq (gCall0 2 sp_rows_by (gaCons (gVar 1) (gaCons (gC (.str "of")) gaNil)))) (ggName 6) gYes (gTup (gaCons (gBin ixD (gVar 6) (gC (.int 1))) (gaCons (gBin ixD (gVar 6) (gC (.int 2))) gaNil))) [6]) "told")
  (gSeq (gDrop (gBM "list" mExtend (gFld C_Parting (gVar 0) "told") (gaCons (gLc (giSeq (gCall0 2 sp_rows_by (gaCons (gVar 1) (gaCons (gC (.str "steps")) gaNil)))) (ggName 6) gYes (gTup (gaCons (gBin ixD (gVar 6) (gC (.int 1))) (gaCons (gCall0 2 sp_part_at (gaCons (gBin ixD (gVar 6) (gC (.int 2))) (gaCons (gVar 2) gaNil))) gaNil))) [6]) gaNil)))
  (gSeq (gSetF C_Parting (gVar 0) (gCall0 2 sp_taken_from (gaCons (gCall0 1 sp_sum_of (gaCons (gLc (giSeq (gFld C_Parting (gVar 0) "told")) (ggTup 2 (ggCons (ggName 4) (ggCons (ggName 5) ggNil))) gYes (gVar 5) [4, 5]) gaNil)) (gaCons (gTup (gaCons (gC (.int 1)) (gaCons (gC (.int 1)) gaNil))) gaNil))) "rest")
  (gSeq (gFor (giSeq (gCall0 2 sp_rows_by (gaCons (gVar 1) (gaCons (gC (.str "left")) gaNil)))) (ggTup 3 (ggCons (ggName 3) (ggCons (ggName 4) (ggCons (ggName 5) ggNil)))) (gDrop (gMeth C_Parting 3 (sp_Parting_give C_Parting) "give" (gVar 0) (gaCons (gVar 4) (gaCons (gCall0 2 sp_product_of (gaCons (gFld C_Parting (gVar 0) "rest") (gaCons (gVar 5) gaNil))) gaNil)))))
  (gDrop (gMeth C_Parting 2 (sp_Parting_by_lengths C_Parting) "by_lengths" (gVar 0) (gaCons (gCall0 2 sp_rows_by (gaCons (gVar 1) (gaCons (gC (.str "length")) gaNil))) gaNil)))))))
theorem w_Parting___init__ {P : Program} {w : World} {K : PySem.W.Frag} {mg : Str → Option Value} {base : Heap} {C_Parting : Addr} (CL_Parting : ClsAt K mg "Parting" C_Parting ["told", "rest"]) (F_taken_from : FnAt P w K mg base CX0 3 "taken_from" 2 sp_taken_from) (F_rows_by : FnAt P w K mg base CX0 1 "rows_by" 2 sp_rows_by) (F_Parting_by_lengths : MtAt P w K mg base CX0 5 C_Parting "by_lengths" 2 (sp_Parting_by_lengths C_Parting)) (F_sum_of : FnAt P w K mg base CX0 3 "sum_of" 1 sp_sum_of) (F_Parting_give : MtAt P w K mg base CX0 4 C_Parting "give" 3 (sp_Parting_give C_Parting)) (F_product_of : FnAt P w K mg base CX0 3 "product_of" 2 sp_product_of) (F_part_at : FnAt P w K mg base CX0 1 "part_at" 2 sp_part_at) (T : InitAt K C_Parting "Parting.__init__" s_Parting___init__ ["self", "rows", "unit"]) (B : Blt mg) : InAt P w K mg base CX0 6 C_Parting 3 (sem0 7 (g_Parting___init__ C_Parting)) := by
  have nd := sc_Parting___init__.nd
  exact T.fn0 sc_Parting___init__ (fun f cdv A outer s H E hr => (dss_cons (ds_setF CL_Parting (by decide +kernel) (de_var 0) (de_lcC (own := [("row", 6)]) (us := [6]) rfl nd (di_seq (de_call0 F_rows_by hr (by rfl) (da_cons (de_var 1) (da_cons de_str da_nil)))) (blkOk_by (N := ["self", "rows", "unit", "kind", "name", "part", "row"]) (sc := defScope s_Parting___init__) (by decide +kernel)) (by decide) (fun _ _ _ _ _ => (dg_name (i := 6) nd rfl (by first | exact Or.inl rfl | exact Or.inr rfl))) (fun _ _ _ _ _ => dts_nil) (fun _ _ _ _ _ => (de_tup (da_cons (de_ix (de_var 6) de_int) (da_cons (de_ix (de_var 6) de_int) da_nil))))) (by rfl))
  (dss_cons (ds_expr (de_bm PySem.F.plainAttrs_list PySem.F.slot_list_extend (by rfl) mt_extend ok_extend (de_fld CL_Parting (by decide +kernel) (de_var 0)) (da_cons (de_lc (own := [("row", 6)]) (us := [6]) rfl nd (di_seq (de_call0 F_rows_by hr (by rfl) (da_cons (de_var 1) (da_cons de_str da_nil)))) (blkOk_by (N := ["self", "rows", "unit", "kind", "name", "part", "row"]) (sc := defScope s_Parting___init__) (by decide +kernel)) (by decide) (fun _ _ _ _ _ => (dg_name (i := 6) nd rfl (by first | exact Or.inl rfl | exact Or.inr rfl))) (fun _ _ _ _ _ => dts_nil) (fun _ _ _ _ _ => (de_tup (da_cons (de_ix (de_var 6) de_int) (da_cons (de_call0 F_part_at hr (by rfl) (da_cons (de_ix (de_var 6) de_int) (da_cons (de_var 2) da_nil))) da_nil))))) da_nil) (by rfl) (by rfl) (by rfl) (by rfl) (by rfl)))
  (dss_cons (ds_setF CL_Parting (by decide +kernel) (de_var 0) (de_call0 F_taken_from hr (by rfl) (da_cons (de_call0 F_sum_of hr (by rfl) (da_cons (de_lc (own := [("name", 4), ("part", 5)]) (us := [4, 5]) rfl nd (di_seq (de_fld CL_Parting (by decide +kernel) (de_var 0))) (blkOk_by (N := ["self", "rows", "unit", "kind", "name", "part", "row"]) (sc := defScope s_Parting___init__) (by decide +kernel)) (by decide) (fun _ _ _ _ _ => (dg_tup rfl (dgs_cons (dg_name (i := 4) nd rfl (by first | exact Or.inl rfl | exact Or.inr rfl)) (dgs_cons (dg_name (i := 5) nd rfl (by first | exact Or.inl rfl | exact Or.inr rfl)) dgs_nil)))) (fun _ _ _ _ _ => dts_nil) (fun _ _ _ _ _ => (de_var 5))) da_nil)) (da_cons (de_tup (da_cons de_int (da_cons de_int da_nil))) da_nil))) (by rfl))
  (dss_cons (ds_for PassesOwn.never rfl (di_seq (de_call0 F_rows_by hr (by rfl) (da_cons (de_var 1) (da_cons de_str da_nil)))) (dg_tup rfl (dgs_cons (dg_name (i := 3) nd rfl (by first | exact Or.inl rfl | exact Or.inr rfl)) (dgs_cons (dg_name (i := 4) nd rfl (by first | exact Or.inl rfl | exact Or.inr rfl)) (dgs_cons (dg_name (i := 5) nd rfl (by first | exact Or.inl rfl | exact Or.inr rfl)) dgs_nil)))) (dss_one (ds_expr (de_meth CL_Parting F_Parting_give hr (de_var 0) (da_cons (de_var 4) (da_cons (de_call0 F_product_of hr (by rfl) (da_cons (de_fld CL_Parting (by decide +kernel) (de_var 0)) (da_cons (de_var 5) da_nil))) da_nil)) (by decide) (by rfl) (by rfl) (by rfl)))))
  (dss_one (ds_expr (de_meth CL_Parting F_Parting_by_lengths hr (de_var 0) (da_cons (de_call0 F_rows_by hr (by rfl) (da_cons (de_var 1) (da_cons de_str da_nil))) da_nil) (by decide) (by rfl) (by rfl) (by rfl)))))))))

theorem v_Parting___init__ (C : Addr) : ∀ ds w kx k, sp_Parting___init__ C ds w kx k → sem0 7 (g_Parting___init__ C) ds w kx k := by
  rintro ds w kx k ⟨M, nn, rs, u, rfl, rfl, ⟨hl, hr⟩, hk⟩
  have e : rho 7 [D.rf M.length, D.tup (rs.map rowD), D.int u] = [some (.rf M.length), some (.tup (rs.map rowD)), some (.int u), none, none, none, none] := rfl
  simp only [g_Parting___init__, e, gFld, gMeth, gSetF, gLcC, rfK_r, sp_rows_by, sp_part_at, sem0, List.map_cons, List.map_nil, List.length_cons, List.length_nil, gSeq, gNext, gRet, gRetN, gIfS, gSet, gPar, gAsg, gDrop, gVar, gC, gBin, gUn, gB, gTru, gAnd, gOr, gNot, gAndV, gOrV, gNotV, gIf, gChain, gaNil, gaCons, DL.gTup, gLst, gCB, gCall0, gAug, addD_i, addD_s, addD_l, addD_t, subD_i, mulD_i, mulD_l, fdivD_i, modD_i, powD_i, ltD_i, ltD_s, leD_i, gtD_i, geD_i, isD_n, isnotD_n, isNonD_non, isNonD_bl, isNonD_int, isNonD_str, isNonD_lst, isNonD_tup, negD_i, iaddD_i, truD_non, truD_bl, truD_int, truD_str, truD_lst, truD_tup, someK_some, ixD_l, ixD_t, fAbs_i, fInt_i, fInt_b, fMin2_i, fLen_l, fLen_t, fLen_s, fList_l, fList_t, fTuple_l, fTuple_t, optBK_some, fIsi_non, fIsi_bl, fIsi_int, fIsi_str, fIsi_lst, fIsi_tup, List.getElem?_cons_zero, List.getElem?_cons_succ, List.set_cons_zero, List.set_cons_succ, DL.ggName, ggNil0, ggCons1, ggTup2, ggTup3, gFor, giSeq, gLc, gYes, wipeR, true_and, and_true, at_0, at_1, at_2, kit_int_int, kit_bool_int, kit_str_int, kit_non_int, kit_list_int, kit_tuple_int, kit_int_bool, kit_bool_bool, kit_str_bool, kit_non_bool, kit_list_bool, kit_tuple_bool, kit_int_str, kit_bool_str, kit_str_str, kit_non_str, kit_list_str, kit_tuple_str, kit_int_list, kit_bool_list, kit_str_list, kit_non_list, kit_list_list, kit_tuple_list, kit_int_tuple, kit_bool_tuple, kit_str_tuple, kit_non_tuple, kit_list_tuple, kit_tuple_tuple, eqD_i, neD_i, eqD_s, neD_s, eqD_f, neD_f, Nat.zero_add, Nat.reduceAdd, nc0, nc1, nc2, nc3, nc4, nc5, nc6, nc7, nc8, nc9, eq_self, decide_true, decide_false, Int.reduceEq, Int.reduceLT, Int.reduceLE, Int.reduceNeg, Bool.not_true, Bool.not_false, Bool.false_eq_true, if_true, if_false, ↓reduceIte, false_and, and_false, List.all_cons, List.all_nil, List.any_cons, List.any_nil, id_eq, Bool.and_true, Bool.true_and, Bool.or_false, Bool.false_or, Bool.and_false, Bool.false_and, gCut, eqD_b, neD_b, giZip, reduceCtorEq, Bool.true_eq_false, Bool.false_eq_true, gRevL, gSl, goNone, goSome, slD_l, ne_eq, not_false_eq_true, not_true_eq_false, gBM, isTy_l, isTy_s, new_at, new_set, isTy_new, cellK_new, append_new, popAt_new, gFrz_eq, frzK_new, fLen_new, fTuple_new, ixD_new, slA_l, slA_t, slA_new, addTD_t, addCD_l, mulCD_l, isbD_b, isnotbD_b, mSplitC_s, gLstC, gTr, ggSub, lstK_l, lstK_r, addLD_eq]
  have l1 := flt_len rs "of"
  have l2 := flt_len rs "steps"
  have l3 := flt_len rs "left"
  refine ⟨rs, _, rfl, by omega, lc_ty rowD (fun r => pairD (tellR u r)) _ trivial (by omega) (fun a ha k' hk' => ?_) ?_⟩
  · obtain ⟨n, p, rfl⟩ := kind_of (flt_mem ha).2
    simp only [row1_of, row2_of, sem0, List.map_cons, List.map_nil, List.length_cons, List.length_nil, gSeq, gNext, gRet, gRetN, gIfS, gSet, gPar, gAsg, gDrop, gVar, gC, gBin, gUn, gB, gTru, gAnd, gOr, gNot, gAndV, gOrV, gNotV, gIf, gChain, gaNil, gaCons, DL.gTup, gLst, gCB, gCall0, gAug, addD_i, addD_s, addD_l, addD_t, subD_i, mulD_i, mulD_l, fdivD_i, modD_i, powD_i, ltD_i, ltD_s, leD_i, gtD_i, geD_i, isD_n, isnotD_n, isNonD_non, isNonD_bl, isNonD_int, isNonD_str, isNonD_lst, isNonD_tup, negD_i, iaddD_i, truD_non, truD_bl, truD_int, truD_str, truD_lst, truD_tup, someK_some, ixD_l, ixD_t, fAbs_i, fInt_i, fInt_b, fMin2_i, fLen_l, fLen_t, fLen_s, fList_l, fList_t, fTuple_l, fTuple_t, optBK_some, fIsi_non, fIsi_bl, fIsi_int, fIsi_str, fIsi_lst, fIsi_tup, List.getElem?_cons_zero, List.getElem?_cons_succ, List.set_cons_zero, List.set_cons_succ, DL.ggName, ggNil0, ggCons1, ggTup2, ggTup3, gFor, giSeq, gLc, gYes, wipeR, true_and, and_true, at_0, at_1, at_2, kit_int_int, kit_bool_int, kit_str_int, kit_non_int, kit_list_int, kit_tuple_int, kit_int_bool, kit_bool_bool, kit_str_bool, kit_non_bool, kit_list_bool, kit_tuple_bool, kit_int_str, kit_bool_str, kit_str_str, kit_non_str, kit_list_str, kit_tuple_str, kit_int_list, kit_bool_list, kit_str_list, kit_non_list, kit_list_list, kit_tuple_list, kit_int_tuple, kit_bool_tuple, kit_str_tuple, kit_non_tuple, kit_list_tuple, kit_tuple_tuple, eqD_i, neD_i, eqD_s, neD_s, eqD_f, neD_f, Nat.zero_add, Nat.reduceAdd, nc0, nc1, nc2, nc3, nc4, nc5, nc6, nc7, nc8, nc9, eq_self, decide_true, decide_false, Int.reduceEq, Int.reduceLT, Int.reduceLE, Int.reduceNeg, Bool.not_true, Bool.not_false, Bool.false_eq_true, if_true, if_false, ↓reduceIte, false_and, and_false, List.all_cons, List.all_nil, List.any_cons, List.any_nil, id_eq, Bool.and_true, Bool.true_and, Bool.or_false, Bool.false_or, Bool.and_false, Bool.false_and, gCut, eqD_b, neD_b, giZip, reduceCtorEq, Bool.true_eq_false, Bool.false_eq_true, gRevL, gSl, goNone, goSome, slD_l, ne_eq, not_false_eq_true, not_true_eq_false, gBM, isTy_l, isTy_s, new_at, new_set, isTy_new, cellK_new, append_new, popAt_new, gFrz_eq, frzK_new, fLen_new, fTuple_new, ixD_new, slA_l, slA_t, slA_new, addTD_t, addCD_l, mulCD_l, isbD_b, isnotbD_b, mSplitC_s, gLstC, gTr, ggSub, lstK_l, lstK_r, addLD_eq]
    exact ⟨by decide, hk'⟩
  have e1 : ((rs.filter fun r => decide (kindS r = "of")).map fun r => pairD (tellR u r)) = (rs.filterMap ofN).map pairD := by rw [← of_flt (u := u), List.map_map]; rfl
  rw [e1]
  refine ⟨_, rfl, ?_⟩
  have eM : ∀ c : Cell, M ++ [Cell.ins C []] ++ [c] = M ++ [.ins C [], c] := fun c => by rw [List.append_assoc]; rfl
  have eL : (M ++ [Cell.ins C []]).length = M.length + 1 := by rw [List.length_append]; rfl
  rw [eM, eL]
  simp only [rfK_r, insK20, set20, put_told0, look_told1, isTy21, sem0, List.map_cons, List.map_nil, List.length_cons, List.length_nil, gSeq, gNext, gRet, gRetN, gIfS, gSet, gPar, gAsg, gDrop, gVar, gC, gBin, gUn, gB, gTru, gAnd, gOr, gNot, gAndV, gOrV, gNotV, gIf, gChain, gaNil, gaCons, DL.gTup, gLst, gCB, gCall0, gAug, addD_i, addD_s, addD_l, addD_t, subD_i, mulD_i, mulD_l, fdivD_i, modD_i, powD_i, ltD_i, ltD_s, leD_i, gtD_i, geD_i, isD_n, isnotD_n, isNonD_non, isNonD_bl, isNonD_int, isNonD_str, isNonD_lst, isNonD_tup, negD_i, iaddD_i, truD_non, truD_bl, truD_int, truD_str, truD_lst, truD_tup, someK_some, ixD_l, ixD_t, fAbs_i, fInt_i, fInt_b, fMin2_i, fLen_l, fLen_t, fLen_s, fList_l, fList_t, fTuple_l, fTuple_t, optBK_some, fIsi_non, fIsi_bl, fIsi_int, fIsi_str, fIsi_lst, fIsi_tup, List.getElem?_cons_zero, List.getElem?_cons_succ, List.set_cons_zero, List.set_cons_succ, DL.ggName, ggNil0, ggCons1, ggTup2, ggTup3, gFor, giSeq, gLc, gYes, wipeR, true_and, and_true, at_0, at_1, at_2, kit_int_int, kit_bool_int, kit_str_int, kit_non_int, kit_list_int, kit_tuple_int, kit_int_bool, kit_bool_bool, kit_str_bool, kit_non_bool, kit_list_bool, kit_tuple_bool, kit_int_str, kit_bool_str, kit_str_str, kit_non_str, kit_list_str, kit_tuple_str, kit_int_list, kit_bool_list, kit_str_list, kit_non_list, kit_list_list, kit_tuple_list, kit_int_tuple, kit_bool_tuple, kit_str_tuple, kit_non_tuple, kit_list_tuple, kit_tuple_tuple, eqD_i, neD_i, eqD_s, neD_s, eqD_f, neD_f, Nat.zero_add, Nat.reduceAdd, nc0, nc1, nc2, nc3, nc4, nc5, nc6, nc7, nc8, nc9, eq_self, decide_true, decide_false, Int.reduceEq, Int.reduceLT, Int.reduceLE, Int.reduceNeg, Bool.not_true, Bool.not_false, Bool.false_eq_true, if_true, if_false, ↓reduceIte, false_and, and_false, List.all_cons, List.all_nil, List.any_cons, List.any_nil, id_eq, Bool.and_true, Bool.true_and, Bool.or_false, Bool.false_or, Bool.and_false, Bool.false_and, gCut, eqD_b, neD_b, giZip, reduceCtorEq, Bool.true_eq_false, Bool.false_eq_true, gRevL, gSl, goNone, goSome, slD_l, ne_eq, not_false_eq_true, not_true_eq_false, gBM, isTy_l, isTy_s, new_at, new_set, isTy_new, cellK_new, append_new, popAt_new, gFrz_eq, frzK_new, fLen_new, fTuple_new, ixD_new, slA_l, slA_t, slA_new, addTD_t, addCD_l, mulCD_l, isbD_b, isnotbD_b, mSplitC_s, gLstC, gTr, ggSub, lstK_l, lstK_r, addLD_eq]
  refine ⟨by decide, rs, _, rfl, by omega, lc_ty rowD (fun r => pairD (tellR u r)) _ trivial (by omega) (fun a ha k' hk' => ?_) ?_⟩
  · obtain ⟨h1, h2⟩ := flt_mem ha
    obtain ⟨n, p, rfl⟩ := kind_st h2
    simp only [row1_st, row2_st, sp_part_at, sem0, List.map_cons, List.map_nil, List.length_cons, List.length_nil, gSeq, gNext, gRet, gRetN, gIfS, gSet, gPar, gAsg, gDrop, gVar, gC, gBin, gUn, gB, gTru, gAnd, gOr, gNot, gAndV, gOrV, gNotV, gIf, gChain, gaNil, gaCons, DL.gTup, gLst, gCB, gCall0, gAug, addD_i, addD_s, addD_l, addD_t, subD_i, mulD_i, mulD_l, fdivD_i, modD_i, powD_i, ltD_i, ltD_s, leD_i, gtD_i, geD_i, isD_n, isnotD_n, isNonD_non, isNonD_bl, isNonD_int, isNonD_str, isNonD_lst, isNonD_tup, negD_i, iaddD_i, truD_non, truD_bl, truD_int, truD_str, truD_lst, truD_tup, someK_some, ixD_l, ixD_t, fAbs_i, fInt_i, fInt_b, fMin2_i, fLen_l, fLen_t, fLen_s, fList_l, fList_t, fTuple_l, fTuple_t, optBK_some, fIsi_non, fIsi_bl, fIsi_int, fIsi_str, fIsi_lst, fIsi_tup, List.getElem?_cons_zero, List.getElem?_cons_succ, List.set_cons_zero, List.set_cons_succ, DL.ggName, ggNil0, ggCons1, ggTup2, ggTup3, gFor, giSeq, gLc, gYes, wipeR, true_and, and_true, at_0, at_1, at_2, kit_int_int, kit_bool_int, kit_str_int, kit_non_int, kit_list_int, kit_tuple_int, kit_int_bool, kit_bool_bool, kit_str_bool, kit_non_bool, kit_list_bool, kit_tuple_bool, kit_int_str, kit_bool_str, kit_str_str, kit_non_str, kit_list_str, kit_tuple_str, kit_int_list, kit_bool_list, kit_str_list, kit_non_list, kit_list_list, kit_tuple_list, kit_int_tuple, kit_bool_tuple, kit_str_tuple, kit_non_tuple, kit_list_tuple, kit_tuple_tuple, eqD_i, neD_i, eqD_s, neD_s, eqD_f, neD_f, Nat.zero_add, Nat.reduceAdd, nc0, nc1, nc2, nc3, nc4, nc5, nc6, nc7, nc8, nc9, eq_self, decide_true, decide_false, Int.reduceEq, Int.reduceLT, Int.reduceLE, Int.reduceNeg, Bool.not_true, Bool.not_false, Bool.false_eq_true, if_true, if_false, ↓reduceIte, false_and, and_false, List.all_cons, List.all_nil, List.any_cons, List.any_nil, id_eq, Bool.and_true, Bool.true_and, Bool.or_false, Bool.false_or, Bool.and_false, Bool.false_and, gCut, eqD_b, neD_b, giZip, reduceCtorEq, Bool.true_eq_false, Bool.false_eq_true, gRevL, gSl, goNone, goSome, slD_l, ne_eq, not_false_eq_true, not_true_eq_false, gBM, isTy_l, isTy_s, new_at, new_set, isTy_new, cellK_new, append_new, popAt_new, gFrz_eq, frzK_new, fLen_new, fTuple_new, ixD_new, slA_l, slA_t, slA_new, addTD_t, addCD_l, mulCD_l, isbD_b, isnotbD_b, mSplitC_s, gLstC, gTr, ggSub, lstK_l, lstK_r, addLD_eq]
    exact ⟨p, u, rfl, hr _ h1, by decide, hk'⟩
  have e2 : ((rs.filter fun r => decide (kindS r = "steps")).map fun r => pairD (tellR u r)) = (rs.filterMap (stN u)).map pairD := by rw [← st_flt (u := u), List.map_map]; rfl
  rw [e2]
  simp only [extend21, insK20, look_told1, at21, sem0, List.map_cons, List.map_nil, List.length_cons, List.length_nil, gSeq, gNext, gRet, gRetN, gIfS, gSet, gPar, gAsg, gDrop, gVar, gC, gBin, gUn, gB, gTru, gAnd, gOr, gNot, gAndV, gOrV, gNotV, gIf, gChain, gaNil, gaCons, DL.gTup, gLst, gCB, gCall0, gAug, addD_i, addD_s, addD_l, addD_t, subD_i, mulD_i, mulD_l, fdivD_i, modD_i, powD_i, ltD_i, ltD_s, leD_i, gtD_i, geD_i, isD_n, isnotD_n, isNonD_non, isNonD_bl, isNonD_int, isNonD_str, isNonD_lst, isNonD_tup, negD_i, iaddD_i, truD_non, truD_bl, truD_int, truD_str, truD_lst, truD_tup, someK_some, ixD_l, ixD_t, fAbs_i, fInt_i, fInt_b, fMin2_i, fLen_l, fLen_t, fLen_s, fList_l, fList_t, fTuple_l, fTuple_t, optBK_some, fIsi_non, fIsi_bl, fIsi_int, fIsi_str, fIsi_lst, fIsi_tup, List.getElem?_cons_zero, List.getElem?_cons_succ, List.set_cons_zero, List.set_cons_succ, DL.ggName, ggNil0, ggCons1, ggTup2, ggTup3, gFor, giSeq, gLc, gYes, wipeR, true_and, and_true, at_0, at_1, at_2, kit_int_int, kit_bool_int, kit_str_int, kit_non_int, kit_list_int, kit_tuple_int, kit_int_bool, kit_bool_bool, kit_str_bool, kit_non_bool, kit_list_bool, kit_tuple_bool, kit_int_str, kit_bool_str, kit_str_str, kit_non_str, kit_list_str, kit_tuple_str, kit_int_list, kit_bool_list, kit_str_list, kit_non_list, kit_list_list, kit_tuple_list, kit_int_tuple, kit_bool_tuple, kit_str_tuple, kit_non_tuple, kit_list_tuple, kit_tuple_tuple, eqD_i, neD_i, eqD_s, neD_s, eqD_f, neD_f, Nat.zero_add, Nat.reduceAdd, nc0, nc1, nc2, nc3, nc4, nc5, nc6, nc7, nc8, nc9, eq_self, decide_true, decide_false, Int.reduceEq, Int.reduceLT, Int.reduceLE, Int.reduceNeg, Bool.not_true, Bool.not_false, Bool.false_eq_true, if_true, if_false, ↓reduceIte, false_and, and_false, List.all_cons, List.all_nil, List.any_cons, List.any_nil, id_eq, Bool.and_true, Bool.true_and, Bool.or_false, Bool.false_or, Bool.and_false, Bool.false_and, gCut, eqD_b, neD_b, giZip, reduceCtorEq, Bool.true_eq_false, Bool.false_eq_true, gRevL, gSl, goNone, goSome, slD_l, ne_eq, not_false_eq_true, not_true_eq_false, gBM, isTy_l, isTy_s, new_at, new_set, isTy_new, cellK_new, append_new, popAt_new, gFrz_eq, frzK_new, fLen_new, fTuple_new, ixD_new, slA_l, slA_t, slA_new, addTD_t, addCD_l, mulCD_l, isbD_b, isnotbD_b, mSplitC_s, gLstC, gTr, ggSub, lstK_l, lstK_r, addLD_eq]
  rw [← List.map_append, show rs.filterMap ofN ++ rs.filterMap (stN u) = told0 rs u from rfl]
  have ht := told0_len rs u
  have hF := told0_ok (u := u) hr
  refine ⟨by rw [List.length_map, List.length_map]; exact le_sl (by have := List.length_filterMap_le ofN rs; have := List.length_filterMap_le (stN u) rs; omega), lc_ty pairD (fun x => fD x.2) (told0 rs u) at21 (by omega) (fun a _ k' hk' => ?_) ?_⟩
  · simp only [pair_tup, sem0, List.map_cons, List.map_nil, List.length_cons, List.length_nil, gSeq, gNext, gRet, gRetN, gIfS, gSet, gPar, gAsg, gDrop, gVar, gC, gBin, gUn, gB, gTru, gAnd, gOr, gNot, gAndV, gOrV, gNotV, gIf, gChain, gaNil, gaCons, DL.gTup, gLst, gCB, gCall0, gAug, addD_i, addD_s, addD_l, addD_t, subD_i, mulD_i, mulD_l, fdivD_i, modD_i, powD_i, ltD_i, ltD_s, leD_i, gtD_i, geD_i, isD_n, isnotD_n, isNonD_non, isNonD_bl, isNonD_int, isNonD_str, isNonD_lst, isNonD_tup, negD_i, iaddD_i, truD_non, truD_bl, truD_int, truD_str, truD_lst, truD_tup, someK_some, ixD_l, ixD_t, fAbs_i, fInt_i, fInt_b, fMin2_i, fLen_l, fLen_t, fLen_s, fList_l, fList_t, fTuple_l, fTuple_t, optBK_some, fIsi_non, fIsi_bl, fIsi_int, fIsi_str, fIsi_lst, fIsi_tup, List.getElem?_cons_zero, List.getElem?_cons_succ, List.set_cons_zero, List.set_cons_succ, DL.ggName, ggNil0, ggCons1, ggTup2, ggTup3, gFor, giSeq, gLc, gYes, wipeR, true_and, and_true, at_0, at_1, at_2, kit_int_int, kit_bool_int, kit_str_int, kit_non_int, kit_list_int, kit_tuple_int, kit_int_bool, kit_bool_bool, kit_str_bool, kit_non_bool, kit_list_bool, kit_tuple_bool, kit_int_str, kit_bool_str, kit_str_str, kit_non_str, kit_list_str, kit_tuple_str, kit_int_list, kit_bool_list, kit_str_list, kit_non_list, kit_list_list, kit_tuple_list, kit_int_tuple, kit_bool_tuple, kit_str_tuple, kit_non_tuple, kit_list_tuple, kit_tuple_tuple, eqD_i, neD_i, eqD_s, neD_s, eqD_f, neD_f, Nat.zero_add, Nat.reduceAdd, nc0, nc1, nc2, nc3, nc4, nc5, nc6, nc7, nc8, nc9, eq_self, decide_true, decide_false, Int.reduceEq, Int.reduceLT, Int.reduceLE, Int.reduceNeg, Bool.not_true, Bool.not_false, Bool.false_eq_true, if_true, if_false, ↓reduceIte, false_and, and_false, List.all_cons, List.all_nil, List.any_cons, List.any_nil, id_eq, Bool.and_true, Bool.true_and, Bool.or_false, Bool.false_or, Bool.and_false, Bool.false_and, gCut, eqD_b, neD_b, giZip, reduceCtorEq, Bool.true_eq_false, Bool.false_eq_true, gRevL, gSl, goNone, goSome, slD_l, ne_eq, not_false_eq_true, not_true_eq_false, gBM, isTy_l, isTy_s, new_at, new_set, isTy_new, cellK_new, append_new, popAt_new, gFrz_eq, frzK_new, fLen_new, fTuple_new, ixD_new, slA_l, slA_t, slA_new, addTD_t, addCD_l, mulCD_l, isbD_b, isnotbD_b, mSplitC_s, gLstC, gTr, ggSub, lstK_l, lstK_r, addLD_eq]
    exact hk'
  have e3 : ((told0 rs u).map fun x => fD x.2) = ((told0 rs u).map Prod.snd).map fD := by rw [List.map_map]; rfl
  rw [e3]
  have fs := fr_sum fun q hq => (hF q hq).1
  have ls := sum_lt rfl hF
  have ln : (12 + 1) * ((told0 rs u).map Prod.snd).length + 1 ≤ 1900 := by
    rw [List.length_map]
    have : 13 * (told0 rs u).length ≤ 13 * 16 := Nat.mul_le_mul_left _ (by omega)
    omega
  refine ⟨_, _, 12, rfl, ⟨rfl, hF, ?_⟩, by decide, sumQ ((told0 rs u).map Prod.snd), (1, 1), rfl, ⟨fs, ⟨by decide, by decide⟩, ls.mono ln, Lt2.mono (a := 1) ⟨by decide, by decide⟩ (by decide)⟩, ?_⟩
  · rw [List.length_map]
    have : 13 * ((told0 rs u).length + 1) ≤ 13 * 17 := Nat.mul_le_mul_left _ (by omega)
    omega
  obtain ⟨f0, lt0⟩ := rest0_ok (u := u) hr hl
  simp only [insK20, put_rest1, set20, sem0, List.map_cons, List.map_nil, List.length_cons, List.length_nil, gSeq, gNext, gRet, gRetN, gIfS, gSet, gPar, gAsg, gDrop, gVar, gC, gBin, gUn, gB, gTru, gAnd, gOr, gNot, gAndV, gOrV, gNotV, gIf, gChain, gaNil, gaCons, DL.gTup, gLst, gCB, gCall0, gAug, addD_i, addD_s, addD_l, addD_t, subD_i, mulD_i, mulD_l, fdivD_i, modD_i, powD_i, ltD_i, ltD_s, leD_i, gtD_i, geD_i, isD_n, isnotD_n, isNonD_non, isNonD_bl, isNonD_int, isNonD_str, isNonD_lst, isNonD_tup, negD_i, iaddD_i, truD_non, truD_bl, truD_int, truD_str, truD_lst, truD_tup, someK_some, ixD_l, ixD_t, fAbs_i, fInt_i, fInt_b, fMin2_i, fLen_l, fLen_t, fLen_s, fList_l, fList_t, fTuple_l, fTuple_t, optBK_some, fIsi_non, fIsi_bl, fIsi_int, fIsi_str, fIsi_lst, fIsi_tup, List.getElem?_cons_zero, List.getElem?_cons_succ, List.set_cons_zero, List.set_cons_succ, DL.ggName, ggNil0, ggCons1, ggTup2, ggTup3, gFor, giSeq, gLc, gYes, wipeR, true_and, and_true, at_0, at_1, at_2, kit_int_int, kit_bool_int, kit_str_int, kit_non_int, kit_list_int, kit_tuple_int, kit_int_bool, kit_bool_bool, kit_str_bool, kit_non_bool, kit_list_bool, kit_tuple_bool, kit_int_str, kit_bool_str, kit_str_str, kit_non_str, kit_list_str, kit_tuple_str, kit_int_list, kit_bool_list, kit_str_list, kit_non_list, kit_list_list, kit_tuple_list, kit_int_tuple, kit_bool_tuple, kit_str_tuple, kit_non_tuple, kit_list_tuple, kit_tuple_tuple, eqD_i, neD_i, eqD_s, neD_s, eqD_f, neD_f, Nat.zero_add, Nat.reduceAdd, nc0, nc1, nc2, nc3, nc4, nc5, nc6, nc7, nc8, nc9, eq_self, decide_true, decide_false, Int.reduceEq, Int.reduceLT, Int.reduceLE, Int.reduceNeg, Bool.not_true, Bool.not_false, Bool.false_eq_true, if_true, if_false, ↓reduceIte, false_and, and_false, List.all_cons, List.all_nil, List.any_cons, List.any_nil, id_eq, Bool.and_true, Bool.true_and, Bool.or_false, Bool.false_or, Bool.and_false, Bool.false_and, gCut, eqD_b, neD_b, giZip, reduceCtorEq, Bool.true_eq_false, Bool.false_eq_true, gRevL, gSl, goNone, goSome, slD_l, ne_eq, not_false_eq_true, not_true_eq_false, gBM, isTy_l, isTy_s, new_at, new_set, isTy_new, cellK_new, append_new, popAt_new, gFrz_eq, frzK_new, fLen_new, fTuple_new, ixD_new, slA_l, slA_t, slA_new, addTD_t, addCD_l, mulCD_l, isbD_b, isnotbD_b, mSplitC_s, gLstC, gTr, ggSub, lstK_l, lstK_r, addLD_eq]
  rw [show subQ (1, 1) (sumQ ((told0 rs u).map Prod.snd)) = rest0 rs u from rfl]
  have lrows : ∀ x ∈ rs.filter fun r => decide (kindS r = "left"), RowOk x ∧ ∃ n p, x = .left n p := fun x hx => by
    obtain ⟨h1, h2⟩ := flt_mem hx
    exact ⟨hr x h1, kind_left h2⟩
  refine ⟨by decide, rs, _, rfl, by omega, fun rem ρ w' => ∃ (ts : List Row) (q : Qp) (T : Told) (x3 x4 x5 : Option D), rem = ts.map rowD ∧ ρ = [some (.rf M.length), some (.tup (rs.map rowD)), some (.int u), x3, x4, x5, none] ∧ w' = ⟨M ++ [PI C M q, PT T], nn⟩ ∧
    (Fr q ∧ Lt2 (211 + 13 * (8 - ts.length)) q ∧ ts.length ≤ 8 ∧ T.length + ts.length ≤ 30) ∧ (∀ x ∈ ts, RowOk x ∧ ∃ n p, x = .left n p) ∧ T ++ (lefts ts q).1 = told0 rs u ++ (lefts rs (rest0 rs u)).1 ∧ (lefts ts q).2 = (lefts rs (rest0 rs u)).2,
    ⟨_, rest0 rs u, told0 rs u, none, none, none, rfl, rfl, rfl, ⟨f0, lt0.mono (by omega), by omega, by omega⟩, lrows, by rw [lefts_flt], by rw [lefts_flt]⟩, ?_, ?_⟩
  · rintro ρ w' ⟨ts, q, T, x3, x4, x5, h1, rfl, rfl, ⟨hq, lq, _, hT⟩, _, h2, h3⟩
    have : ts = [] := by simpa using h1.symm
    subst this
    refine ⟨trivial, ?_⟩
    simp only [gMeth, rfK_r, PI, insK20, look_by, sp_rows_by, sem0, List.map_cons, List.map_nil, List.length_cons, List.length_nil, gSeq, gNext, gRet, gRetN, gIfS, gSet, gPar, gAsg, gDrop, gVar, gC, gBin, gUn, gB, gTru, gAnd, gOr, gNot, gAndV, gOrV, gNotV, gIf, gChain, gaNil, gaCons, DL.gTup, gLst, gCB, gCall0, gAug, addD_i, addD_s, addD_l, addD_t, subD_i, mulD_i, mulD_l, fdivD_i, modD_i, powD_i, ltD_i, ltD_s, leD_i, gtD_i, geD_i, isD_n, isnotD_n, isNonD_non, isNonD_bl, isNonD_int, isNonD_str, isNonD_lst, isNonD_tup, negD_i, iaddD_i, truD_non, truD_bl, truD_int, truD_str, truD_lst, truD_tup, someK_some, ixD_l, ixD_t, fAbs_i, fInt_i, fInt_b, fMin2_i, fLen_l, fLen_t, fLen_s, fList_l, fList_t, fTuple_l, fTuple_t, optBK_some, fIsi_non, fIsi_bl, fIsi_int, fIsi_str, fIsi_lst, fIsi_tup, List.getElem?_cons_zero, List.getElem?_cons_succ, List.set_cons_zero, List.set_cons_succ, DL.ggName, ggNil0, ggCons1, ggTup2, ggTup3, gFor, giSeq, gLc, gYes, wipeR, true_and, and_true, at_0, at_1, at_2, kit_int_int, kit_bool_int, kit_str_int, kit_non_int, kit_list_int, kit_tuple_int, kit_int_bool, kit_bool_bool, kit_str_bool, kit_non_bool, kit_list_bool, kit_tuple_bool, kit_int_str, kit_bool_str, kit_str_str, kit_non_str, kit_list_str, kit_tuple_str, kit_int_list, kit_bool_list, kit_str_list, kit_non_list, kit_list_list, kit_tuple_list, kit_int_tuple, kit_bool_tuple, kit_str_tuple, kit_non_tuple, kit_list_tuple, kit_tuple_tuple, eqD_i, neD_i, eqD_s, neD_s, eqD_f, neD_f, Nat.zero_add, Nat.reduceAdd, nc0, nc1, nc2, nc3, nc4, nc5, nc6, nc7, nc8, nc9, eq_self, decide_true, decide_false, Int.reduceEq, Int.reduceLT, Int.reduceLE, Int.reduceNeg, Bool.not_true, Bool.not_false, Bool.false_eq_true, if_true, if_false, ↓reduceIte, false_and, and_false, List.all_cons, List.all_nil, List.any_cons, List.any_nil, id_eq, Bool.and_true, Bool.true_and, Bool.or_false, Bool.false_or, Bool.and_false, Bool.false_and, gCut, eqD_b, neD_b, giZip, reduceCtorEq, Bool.true_eq_false, Bool.false_eq_true, gRevL, gSl, goNone, goSome, slD_l, ne_eq, not_false_eq_true, not_true_eq_false, gBM, isTy_l, isTy_s, new_at, new_set, isTy_new, cellK_new, append_new, popAt_new, gFrz_eq, frzK_new, fLen_new, fTuple_new, ixD_new, slA_l, slA_t, slA_new, addTD_t, addCD_l, mulCD_l, isbD_b, isnotbD_b, mSplitC_s, gLstC, gTr, ggSub, lstK_l, lstK_r, addLD_eq]
    have h2 : T ++ [] = told0 rs u ++ (lefts rs (rest0 rs u)).1 := h2
    have h3 : q = (lefts rs (rest0 rs u)).2 := h3
    rw [List.append_nil] at h2
    have ll := flt_len rs "length"
    refine ⟨rs, _, rfl, by omega, M, nn, T, q, lenRows rs, rfl, rfl, ⟨hq, lq.mono (by simp), by show T.length + (rs.filter _).length ≤ 900; rw [List.length_nil] at hT; omega, by show (rs.filter _).length ≤ 8; omega, fun x hx => ?_⟩, ?_⟩
    · obtain ⟨g1, g2⟩ := flt_mem hx
      obtain ⟨s, l, rfl⟩ := kind_len g2
      exact ⟨s, l, rfl, (hr _ g1).1, (hr _ g1).2⟩
    · rw [h2, h3]
      exact hk
  · rintro z xs ρ w' ⟨ts, q, T, x3, x4, x5, h1, rfl, rfl, ⟨hq, lq, hl8, hT⟩, hts, h2, h3⟩
    cases ts with
    | nil => cases h1
    | cons a ts =>
      rw [List.map_cons] at h1
      injection h1 with h1 h1'
      subst h1
      subst h1'
      obtain ⟨hpo, s, p, rfl⟩ := hts a List.mem_cons_self
      have hp : Part p := hpo
      rw [List.length_cons] at hl8 hT lq
      obtain ⟨f1, g1, f2, g2⟩ := left_ok hq hp lq
      refine ⟨trivial, ?_⟩
      simp only [left_tup, gMeth, gFld, sp_product_of, rfK_r, PI, insK20, look_give, look_rest, sem0, List.map_cons, List.map_nil, List.length_cons, List.length_nil, gSeq, gNext, gRet, gRetN, gIfS, gSet, gPar, gAsg, gDrop, gVar, gC, gBin, gUn, gB, gTru, gAnd, gOr, gNot, gAndV, gOrV, gNotV, gIf, gChain, gaNil, gaCons, DL.gTup, gLst, gCB, gCall0, gAug, addD_i, addD_s, addD_l, addD_t, subD_i, mulD_i, mulD_l, fdivD_i, modD_i, powD_i, ltD_i, ltD_s, leD_i, gtD_i, geD_i, isD_n, isnotD_n, isNonD_non, isNonD_bl, isNonD_int, isNonD_str, isNonD_lst, isNonD_tup, negD_i, iaddD_i, truD_non, truD_bl, truD_int, truD_str, truD_lst, truD_tup, someK_some, ixD_l, ixD_t, fAbs_i, fInt_i, fInt_b, fMin2_i, fLen_l, fLen_t, fLen_s, fList_l, fList_t, fTuple_l, fTuple_t, optBK_some, fIsi_non, fIsi_bl, fIsi_int, fIsi_str, fIsi_lst, fIsi_tup, List.getElem?_cons_zero, List.getElem?_cons_succ, List.set_cons_zero, List.set_cons_succ, DL.ggName, ggNil0, ggCons1, ggTup2, ggTup3, gFor, giSeq, gLc, gYes, wipeR, true_and, and_true, at_0, at_1, at_2, kit_int_int, kit_bool_int, kit_str_int, kit_non_int, kit_list_int, kit_tuple_int, kit_int_bool, kit_bool_bool, kit_str_bool, kit_non_bool, kit_list_bool, kit_tuple_bool, kit_int_str, kit_bool_str, kit_str_str, kit_non_str, kit_list_str, kit_tuple_str, kit_int_list, kit_bool_list, kit_str_list, kit_non_list, kit_list_list, kit_tuple_list, kit_int_tuple, kit_bool_tuple, kit_str_tuple, kit_non_tuple, kit_list_tuple, kit_tuple_tuple, eqD_i, neD_i, eqD_s, neD_s, eqD_f, neD_f, Nat.zero_add, Nat.reduceAdd, nc0, nc1, nc2, nc3, nc4, nc5, nc6, nc7, nc8, nc9, eq_self, decide_true, decide_false, Int.reduceEq, Int.reduceLT, Int.reduceLE, Int.reduceNeg, Bool.not_true, Bool.not_false, Bool.false_eq_true, if_true, if_false, ↓reduceIte, false_and, and_false, List.all_cons, List.all_nil, List.any_cons, List.any_nil, id_eq, Bool.and_true, Bool.true_and, Bool.or_false, Bool.false_or, Bool.and_false, Bool.false_and, gCut, eqD_b, neD_b, giZip, reduceCtorEq, Bool.true_eq_false, Bool.false_eq_true, gRevL, gSl, goNone, goSome, slD_l, ne_eq, not_false_eq_true, not_true_eq_false, gBM, isTy_l, isTy_s, new_at, new_set, isTy_new, cellK_new, append_new, popAt_new, gFrz_eq, frzK_new, fLen_new, fTuple_new, ixD_new, slA_l, slA_t, slA_new, addTD_t, addCD_l, mulCD_l, isbD_b, isnotbD_b, mSplitC_s, gLstC, gTr, ggSub, lstK_l, lstK_r, addLD_eq]
      refine ⟨q, p, rfl, ⟨by have := hq.pos; omega, by have := hp.fr.pos; omega, lq.mono (by omega), hp.lt.mono (by decide)⟩, M, nn, T, q, s, mulQ q p, rfl, rfl, ⟨f2, hq, g2.mono (by omega), lq.mono (by omega), by omega⟩, ?_⟩
      refine ⟨ts, subQ q (mulQ q p), T ++ [(s, mulQ q p)], _, _, _, rfl, rfl, rfl, ⟨f1, g1.mono (by omega), by omega, by rw [List.length_append]; simp; omega⟩, fun x hx => hts x (List.mem_cons_of_mem _ hx), ?_, h3⟩
      rw [← h2, List.append_assoc]
      rfl
theorem ok_Parting___init__ {P : Program} {w : World} {K : PySem.W.Frag} {mg : Str → Option Value} {base : Heap} {C_Parting : Addr} (CL_Parting : ClsAt K mg "Parting" C_Parting ["told", "rest"]) (F_taken_from : FnAt P w K mg base CX0 3 "taken_from" 2 sp_taken_from) (F_rows_by : FnAt P w K mg base CX0 1 "rows_by" 2 sp_rows_by) (F_Parting_by_lengths : MtAt P w K mg base CX0 5 C_Parting "by_lengths" 2 (sp_Parting_by_lengths C_Parting)) (F_sum_of : FnAt P w K mg base CX0 3 "sum_of" 1 sp_sum_of) (F_Parting_give : MtAt P w K mg base CX0 4 C_Parting "give" 3 (sp_Parting_give C_Parting)) (F_product_of : FnAt P w K mg base CX0 3 "product_of" 2 sp_product_of) (F_part_at : FnAt P w K mg base CX0 1 "part_at" 2 sp_part_at) (T : InitAt K C_Parting "Parting.__init__" s_Parting___init__ ["self", "rows", "unit"]) (B : Blt mg) : InAt P w K mg base CX0 6 C_Parting 3 (sp_Parting___init__ C_Parting) := (w_Parting___init__ CL_Parting F_taken_from F_rows_by F_Parting_by_lengths F_sum_of F_Parting_give F_product_of F_part_at T B).imp (v_Parting___init__ C_Parting)


end LW

namespace LW
open PySem PySem.Spec PyProof.Rows L2 RZ DL

/-! ### the pairs of a parting -/
def nameParts (s : Str) (T : Told) : List Qp := (T.filter fun x => decide (x.1 = s) && decide (0 < x.2.1)).map Prod.snd
structure IsKeys (T : Told) (ys : List Str) : Prop where
  srt : sortedS ys = true
  nd : ys.Nodup
  mem : ∀ s, s ∈ ys ↔ ∃ p, (s, p) ∈ T ∧ 0 < p.1
def pairsOf (ys : List Str) (T : Told) : Told := ys.map fun s => (s, sumQ (nameParts s T))
theorem np_app (s : Str) (T U : Told) : nameParts s (T ++ U) = nameParts s T ++ nameParts s U := by
  unfold nameParts
  rw [List.filter_append, List.map_append]
theorem np_same {s : Str} {p : Qp} (h : 0 < p.1) : nameParts s [(s, p)] = [p] := by
  unfold nameParts
  simp [h]
theorem np_off {s t : Str} {p : Qp} (h : ¬ (t = s ∧ 0 < p.1)) : nameParts s [(t, p)] = [] := by
  unfold nameParts
  rw [List.filter_cons, if_neg ?_]
  · rfl
  · rw [Bool.and_eq_true, decide_eq_true_eq, decide_eq_true_eq]
    exact h
theorem np_mem {s : Str} {T : Told} {p : Qp} (h : p ∈ nameParts s T) : (s, p) ∈ T ∧ 0 < p.1 := by
  obtain ⟨x, hx, rfl⟩ := List.mem_map.mp h
  obtain ⟨h1, h2⟩ := List.mem_filter.mp hx
  rw [Bool.and_eq_true, decide_eq_true_eq, decide_eq_true_eq] at h2
  obtain ⟨h2, h3⟩ := h2
  refine ⟨?_, h3⟩
  rw [← h2]
  exact h1
theorem np_len (s : Str) (T : Told) : (nameParts s T).length ≤ T.length := by
  unfold nameParts
  rw [List.length_map]
  exact List.length_filter_le _ _
theorem np_nil {s : Str} {T : Told} (h : ¬ ∃ p, (s, p) ∈ T ∧ 0 < p.1) : nameParts s T = [] := by
  cases e : nameParts s T with
  | nil => rfl
  | cons p r => exact absurd ⟨p, np_mem (by rw [e]; exact List.mem_cons_self)⟩ h
structure DInv (Dn : List (Str × Nat)) (Cs : List Cell) (dn : Told) : Prop where
  nd : (Dn.map Prod.fst).Nodup
  nj : (Dn.map Prod.snd).Nodup
  cell : ∀ x ∈ Dn, Cs[x.2]? = some (.lst ((nameParts x.1 dn).map fD))
  keys : ∀ s, s ∈ Dn.map Prod.fst ↔ ∃ p, (s, p) ∈ dn ∧ 0 < p.1
  len : Dn.length ≤ dn.length
theorem uniq_fst : ∀ {Dn : List (Str × Nat)}, (Dn.map Prod.fst).Nodup → ∀ {s : Str} {i j : Nat}, (s, i) ∈ Dn → (s, j) ∈ Dn → i = j
  | [], _, _, _, _, h, _ => nomatch h
  | x :: Dn, nd, s, i, j, h1, h2 => by
    rw [List.map_cons, List.nodup_cons] at nd
    rcases List.mem_cons.mp h1 with h1 | h1
    · rcases List.mem_cons.mp h2 with h2 | h2
      · rw [← h1] at h2
        cases h2
        rfl
      · exact absurd (List.mem_map.mpr ⟨_, h2, by rw [← h1]⟩) nd.1
    · rcases List.mem_cons.mp h2 with h2 | h2
      · exact absurd (List.mem_map.mpr ⟨_, h1, by rw [← h2]⟩) nd.1
      · exact uniq_fst nd.2 h1 h2
theorem uniq_snd : ∀ {Dn : List (Str × Nat)}, (Dn.map Prod.snd).Nodup → ∀ {s t : Str} {i : Nat}, (s, i) ∈ Dn → (t, i) ∈ Dn → s = t
  | [], _, _, _, _, h, _ => nomatch h
  | x :: Dn, nd, s, t, i, h1, h2 => by
    rw [List.map_cons, List.nodup_cons] at nd
    rcases List.mem_cons.mp h1 with h1 | h1
    · rcases List.mem_cons.mp h2 with h2 | h2
      · rw [← h1] at h2
        cases h2
        rfl
      · exact absurd (List.mem_map.mpr ⟨_, h2, by rw [← h1]⟩) nd.1
    · rcases List.mem_cons.mp h2 with h2 | h2
      · exact absurd (List.mem_map.mpr ⟨_, h1, by rw [← h2]⟩) nd.1
      · exact uniq_snd nd.2 h1 h2
theorem DInv.nil {Cs : List Cell} : DInv [] Cs [] := ⟨List.nodup_nil, List.nodup_nil, (by intro x hx; cases hx), (by intro s; simp), Nat.le_refl _⟩
theorem DInv.skip {Dn : List (Str × Nat)} {Cs : List Cell} {dn : Told} {s : Str} {p : Qp} (h : DInv Dn Cs dn) (hp : ¬ 0 < p.1) : DInv Dn Cs (dn ++ [(s, p)]) := by
  refine ⟨h.nd, h.nj, fun x hx => ?_, fun t => ?_, by rw [List.length_append]; have := h.len; omega⟩
  · rw [np_app, np_off fun z => hp z.2, List.append_nil]
    exact h.cell x hx
  · rw [h.keys t]
    refine ⟨fun ⟨q, h1, h2⟩ => ⟨q, List.mem_append_left _ h1, h2⟩, fun ⟨q, h1, h2⟩ => ?_⟩
    rcases List.mem_append.mp h1 with h1 | h1
    · exact ⟨q, h1, h2⟩
    · rw [List.mem_singleton] at h1
      cases h1
      exact absurd h2 hp
theorem DInv.keys' {Dn : List (Str × Nat)} {Cs : List Cell} {dn : Told} (h : DInv Dn Cs dn) {s : Str} {p : Qp} (hp : 0 < p.1) (Dn' : List (Str × Nat)) (e : ∀ t, t ∈ Dn'.map Prod.fst ↔ t ∈ Dn.map Prod.fst ∨ t = s) : ∀ t, t ∈ Dn'.map Prod.fst ↔ ∃ q, (t, q) ∈ dn ++ [(s, p)] ∧ 0 < q.1 := fun t => by
  rw [e t, h.keys t]
  constructor
  · rintro (⟨q, h1, h2⟩ | rfl)
    · exact ⟨q, List.mem_append_left _ h1, h2⟩
    · exact ⟨p, by simp, hp⟩
  · rintro ⟨q, h1, h2⟩
    rcases List.mem_append.mp h1 with h1 | h1
    · exact .inl ⟨q, h1, h2⟩
    · rw [List.mem_singleton] at h1
      cases h1
      exact .inr rfl
theorem DInv.old {Dn : List (Str × Nat)} {Cs : List Cell} {dn : Told} {s : Str} {p : Qp} {j : Nat} (h : DInv Dn Cs dn) (hp : 0 < p.1) (hj : (s, j) ∈ Dn) : DInv Dn ((Cs ++ [Cell.lst []]).set j (Cell.lst ((nameParts s dn).map fD ++ [fD p]))) (dn ++ [(s, p)]) := by
  have hjl : j < Cs.length := (List.getElem?_eq_some_iff.mp (h.cell _ hj)).1
  refine ⟨h.nd, h.nj, fun x hx => ?_, h.keys' hp Dn fun t => ⟨.inl, fun z => z.elim id fun z => by rw [z]; exact List.mem_map.mpr ⟨_, hj, rfl⟩⟩, by rw [List.length_append]; have := h.len; omega⟩
  obtain ⟨t, i⟩ := x
  have hil : i < Cs.length := (List.getElem?_eq_some_iff.mp (h.cell _ hx)).1
  by_cases hi : i = j
  · subst hi
    have ht : t = s := uniq_snd h.nj hx hj
    subst ht
    rw [List.getElem?_set_self (by rw [List.length_append]; omega), np_app, np_same hp, List.map_append]
    rfl
  · rw [List.getElem?_set_ne (Ne.symm hi), List.getElem?_append_left hil, h.cell _ hx, np_app]
    have hts : ¬ t = s := fun z => hi (uniq_fst h.nd (z ▸ hx) hj)
    rw [np_off fun z => hts z.1.symm, List.append_nil]
theorem DInv.new {Dn : List (Str × Nat)} {Cs : List Cell} {dn : Told} {s : Str} {p : Qp} (h : DInv Dn Cs dn) (hp : 0 < p.1) (hs : s ∉ Dn.map Prod.fst) : DInv (Dn ++ [(s, Cs.length)]) (Cs ++ [.lst [fD p]]) (dn ++ [(s, p)]) := by
  have lt : ∀ x ∈ Dn, x.2 < Cs.length := fun x hx => (List.getElem?_eq_some_iff.mp (h.cell _ hx)).1
  refine ⟨?_, ?_, fun x hx => ?_, h.keys' hp _ fun t => by rw [List.map_append, List.mem_append]; simp, by rw [List.length_append, List.length_append]; have := h.len; simp; omega⟩
  · rw [List.map_append, List.nodup_append]
    refine ⟨h.nd, by simp, fun a ha b hb z => ?_⟩
    have hb : b = s := by simpa using hb
    exact hs (by rw [← hb, ← z]; exact ha)
  · rw [List.map_append, List.nodup_append]
    refine ⟨h.nj, by simp, fun a ha b hb z => ?_⟩
    have hb : b = Cs.length := by simpa using hb
    obtain ⟨x, hx, rfl⟩ := List.mem_map.mp ha
    have := lt x hx
    omega
  · rcases List.mem_append.mp hx with hx | hx
    · have hts : ¬ s = x.1 := fun z => hs (List.mem_map.mpr ⟨x, hx, z.symm⟩)
      rw [List.getElem?_append_left (lt x hx), np_app, np_off fun z => hts z.1, List.append_nil]
      exact h.cell x hx
    · rw [List.mem_singleton] at hx
      subst hx
      rw [List.getElem?_append_right (Nat.le_refl _), Nat.sub_self, np_app, np_same hp, np_nil fun z => hs ((h.keys s).mpr z)]
      rfl
/-! the dict's cell and the lists behind it -/
section
variable {w : Wd} {k : KD} {B Cs : List Cell} {n : Option Nat} {c c' : Cell} {kvs : List (Key × D)}
theorem atB : (B ++ c :: Cs)[B.length]? = some c := by simp
theorem atC {j : Nat} : (B ++ c :: Cs)[B.length + 1 + j]? = Cs[j]? := by
  rw [List.getElem?_append_right (by omega), show B.length + 1 + j - B.length = j + 1 by omega]
  rfl
theorem setB : (B ++ c :: Cs).set B.length c' = B ++ c' :: Cs := by
  rw [List.set_append_right (h := Nat.le_refl _), Nat.sub_self]
  rfl
theorem setC {j : Nat} : (B ++ c :: Cs).set (B.length + 1 + j) c' = B ++ c :: Cs.set j c' := by
  rw [List.set_append_right (h := by omega), show B.length + 1 + j - B.length = j + 1 by omega]
  rfl
theorem dkK_B {f : List (Key × D) → Prop} : dkK B.length ⟨B ++ .dk kvs :: Cs, n⟩ f = f kvs := by
  unfold dkK
  simp only [atB]
theorem cell_C {j : Nat} {xs : List D} {f : List D → Prop} (h : Cs[j]? = some (.lst xs)) : cellK (B.length + 1 + j) ⟨B ++ c :: Cs, n⟩ f = f xs := by
  unfold cellK
  simp only [atC, h]
end
def dkv (b : Nat) (Dn : List (Str × Nat)) : List (Key × D) := Dn.map fun x => (Sum.inr x.1, .rf (b + 1 + x.2))
theorem dkv_get {b : Nat} : ∀ {Dn : List (Str × Nat)} {s : Str} {j : Nat}, (Dn.map Prod.fst).Nodup → (s, j) ∈ Dn → valD (dkv b Dn) (Sum.inr s) = some (.rf (b + 1 + j))
  | (t, i) :: Dn, s, j, nd, h => by
    rw [List.map_cons, List.nodup_cons] at nd
    show ((List.find? (fun kv => decide (kv.1 = (Sum.inr s : Key))) ((Sum.inr t, D.rf (b + 1 + i)) :: dkv b Dn)).map (·.2)) = _
    rw [List.find?_cons]
    rcases List.mem_cons.mp h with h | h
    · cases h
      rw [decide_eq_true rfl]
      rfl
    · have : ¬ t = s := fun z => nd.1 (by rw [z]; exact List.mem_map.mpr ⟨_, h, rfl⟩)
      rw [decide_eq_false fun z => this (Sum.inr.inj z)]
      exact dkv_get nd.2 h
theorem dkv_none {b : Nat} : ∀ {Dn : List (Str × Nat)} {s : Str}, s ∉ Dn.map Prod.fst → valD (dkv b Dn) (Sum.inr s) = none
  | [], _, _ => rfl
  | (t, i) :: Dn, s, h => by
    rw [List.map_cons, List.mem_cons, not_or] at h
    show ((List.find? (fun kv => decide (kv.1 = (Sum.inr s : Key))) ((Sum.inr t, D.rf (b + 1 + i)) :: dkv b Dn)).map (·.2)) = _
    rw [List.find?_cons, decide_eq_false fun z => h.1 (Sum.inr.inj z).symm]
    exact dkv_none h.2
theorem dkv_put {b : Nat} {Dn : List (Str × Nat)} {s : Str} {i : Nat} (h : s ∉ Dn.map Prod.fst) : putD (dkv b Dn) (Sum.inr s) (.rf (b + 1 + i)) = dkv b (Dn ++ [(s, i)]) := by
  unfold putD
  rw [if_neg]
  · unfold dkv
    rw [List.map_append]
    rfl
  · rw [List.any_eq_true]
    rintro ⟨x, hx, e⟩
    obtain ⟨y, hy, rfl⟩ := List.mem_map.mp hx
    have e : (Sum.inr y.1 : Key) = Sum.inr s := of_decide_eq_true e
    exact h (by rw [← Sum.inr.inj e]; exact List.mem_map.mpr ⟨y, hy, rfl⟩)
theorem dkv_keys {b : Nat} (Dn : List (Str × Nat)) : (dkv b Dn).map (·.1) = (Dn.map Prod.fst).map Sum.inr := by
  unfold dkv
  rw [List.map_map, List.map_map]
  rfl
def sp_Parting_pairs (C : Addr) : GF := fun ds w _ k => ∃ (M : List Cell) (nn : Option Nat) (T : Told) (r : Qp) (a : Nat), ds = [.rf M.length] ∧ w = ⟨M ++ [PI C M r, PT T], nn⟩ ∧ ((∀ x ∈ T, Fr x.2 ∧ Lt2 a x.2) ∧ a ≤ 4000 ∧ (a + 1) * (T.length + 1) ≤ 3990 ∧ T.length ≤ 60) ∧
  ∀ ys R, IsKeys T ys → k (.rf (M ++ R).length) ⟨M ++ R ++ [.lst ((pairsOf ys T).map pairD)], nn⟩
abbrev s_Parting_pairs : Stmt := inClass (topS 10) 3
theorem sc_Parting_pairs : FnScope ["self", "by_name", "name", "part"] ["self"] (defScope s_Parting_pairs) := ⟨rfl, rfl, rfl, by decide +kernel, rfl, by decide +kernel, by decide +kernel⟩
def g_Parting_pairs (C_Parting : Addr) : GS := (gSeq (gSet 1 gDNew)
  (gSeq (gFor (giSeq (gFld C_Parting (gVar 0) "told")) (ggTup 2 (ggCons (ggName 2) (ggCons (ggName 3) ggNil))) (gIfS (gTru (gCall0 2 sp_is_less (gaCons (gTup (gaCons (gC (.int 0)) (gaCons (gC (.int 1)) gaNil))) (gaCons (gVar 3) gaNil)))) (gDrop (gBM "list" mAppend (gDSetd (gVar 1) (gVar 2) (gLstC gaNil)) (gaCons (gVar 3) gaNil))) gNext))
  (gRet (gLcC (giSeq (gCB fSortD (gaCons (gVar 1) gaNil))) (ggName 2) gYes (gTup (gaCons (gVar 2) (gaCons (gCall0 1 sp_sum_of (gaCons (gDGet (gVar 1) (gVar 2)) gaNil)) gaNil))) [2]))))
theorem w_Parting_pairs {P : Program} {w : World} {K : PySem.W.Frag} {mg : Str → Option Value} {base : Heap} {C_Parting : Addr} (CL_Parting : ClsAt K mg "Parting" C_Parting ["told", "rest"]) (F_is_less : FnAt P w K mg base CX0 1 "is_less" 2 sp_is_less) (F_sum_of : FnAt P w K mg base CX0 3 "sum_of" 1 sp_sum_of) (T : MethAt K C_Parting "pairs" "Parting.pairs" s_Parting_pairs ["self"]) (B : Blt mg) : MtAt P w K mg base CX0 4 C_Parting "pairs" 1 (sem0 4 (g_Parting_pairs C_Parting)) := by
  have nd := sc_Parting_pairs.nd
  exact T.fn0 sc_Parting_pairs (fun f cdv A outer s H E hr => (dss_cons (ds_set (i := 1) nd rfl (by first | exact Or.inl rfl | exact Or.inr rfl) de_dnew)
  (dss_cons (ds_for PassesOwn.never rfl (di_seq (de_fld CL_Parting (by decide +kernel) (de_var 0))) (dg_tup rfl (dgs_cons (dg_name (i := 2) nd rfl (by first | exact Or.inl rfl | exact Or.inr rfl)) (dgs_cons (dg_name (i := 3) nd rfl (by first | exact Or.inl rfl | exact Or.inr rfl)) dgs_nil))) (dss_one (ds_if (dt_truth (de_call0 F_is_less hr (by rfl) (da_cons (de_tup (da_cons de_int (da_cons de_int da_nil))) (da_cons (de_var 3) da_nil)))) (dss_one (ds_expr (de_bm PySem.F.plainAttrs_list PySem.F.slot_list_append (by rfl) mt_append ok_append (de_dsetd (de_var 1) (de_var 2) (de_lstC da_nil)) (da_cons (de_var 3) da_nil) (by rfl) (by rfl) (by rfl) (by rfl) (by rfl)))) dss_nil)))
  (dss_one (ds_ret (de_lcC (own := [("name", 2)]) (us := [2]) rfl nd (di_seq (de_sortD B rfl (by rfl) (da_cons (de_var 1) da_nil))) (blkOk_by (N := ["self", "by_name", "name", "part"]) (sc := defScope s_Parting_pairs) (by decide +kernel)) (by decide) (fun _ _ _ _ _ => (dg_name (i := 2) nd rfl (by first | exact Or.inl rfl | exact Or.inr rfl))) (fun _ _ _ _ _ => dts_nil) (fun _ _ _ _ _ => (de_tup (da_cons (de_var 2) (da_cons (de_call0 F_sum_of hr (by rfl) (da_cons (de_dget (hu_of hr) (de_var 1) (de_var 2)) da_nil)) da_nil))))))))))

theorem v_Parting_pairs (C : Addr) : ∀ ds w kx k, sp_Parting_pairs C ds w kx k → sem0 4 (g_Parting_pairs C) ds w kx k := by
  rintro ds w kx k ⟨M, nn, T, r, a, rfl, rfl, ⟨hT, ha4, hsz, hTl⟩, hk⟩
  have e : rho 4 [D.rf M.length] = [some (.rf M.length), none, none, none] := rfl
  simp only [g_Parting_pairs, e, gFld, gDNew, gLcC, rfK_r, sp_is_less, sem0, List.map_cons, List.map_nil, List.length_cons, List.length_nil, gSeq, gNext, gRet, gRetN, gIfS, gSet, gPar, gAsg, gDrop, gVar, gC, gBin, gUn, gB, gTru, gAnd, gOr, gNot, gAndV, gOrV, gNotV, gIf, gChain, gaNil, gaCons, DL.gTup, gLst, gCB, gCall0, gAug, addD_i, addD_s, addD_l, addD_t, subD_i, mulD_i, mulD_l, fdivD_i, modD_i, powD_i, ltD_i, ltD_s, leD_i, gtD_i, geD_i, isD_n, isnotD_n, isNonD_non, isNonD_bl, isNonD_int, isNonD_str, isNonD_lst, isNonD_tup, negD_i, iaddD_i, truD_non, truD_bl, truD_int, truD_str, truD_lst, truD_tup, someK_some, ixD_l, ixD_t, fAbs_i, fInt_i, fInt_b, fMin2_i, fLen_l, fLen_t, fLen_s, fList_l, fList_t, fTuple_l, fTuple_t, optBK_some, fIsi_non, fIsi_bl, fIsi_int, fIsi_str, fIsi_lst, fIsi_tup, List.getElem?_cons_zero, List.getElem?_cons_succ, List.set_cons_zero, List.set_cons_succ, DL.ggName, ggNil0, ggCons1, ggTup2, ggTup3, gFor, giSeq, gLc, gYes, wipeR, true_and, and_true, at_0, at_1, at_2, kit_int_int, kit_bool_int, kit_str_int, kit_non_int, kit_list_int, kit_tuple_int, kit_int_bool, kit_bool_bool, kit_str_bool, kit_non_bool, kit_list_bool, kit_tuple_bool, kit_int_str, kit_bool_str, kit_str_str, kit_non_str, kit_list_str, kit_tuple_str, kit_int_list, kit_bool_list, kit_str_list, kit_non_list, kit_list_list, kit_tuple_list, kit_int_tuple, kit_bool_tuple, kit_str_tuple, kit_non_tuple, kit_list_tuple, kit_tuple_tuple, eqD_i, neD_i, eqD_s, neD_s, eqD_f, neD_f, Nat.zero_add, Nat.reduceAdd, nc0, nc1, nc2, nc3, nc4, nc5, nc6, nc7, nc8, nc9, eq_self, decide_true, decide_false, Int.reduceEq, Int.reduceLT, Int.reduceLE, Int.reduceNeg, Bool.not_true, Bool.not_false, Bool.false_eq_true, if_true, if_false, ↓reduceIte, false_and, and_false, List.all_cons, List.all_nil, List.any_cons, List.any_nil, id_eq, Bool.and_true, Bool.true_and, Bool.or_false, Bool.false_or, Bool.and_false, Bool.false_and, gCut, eqD_b, neD_b, giZip, reduceCtorEq, Bool.true_eq_false, Bool.false_eq_true, gRevL, gSl, goNone, goSome, slD_l, ne_eq, not_false_eq_true, not_true_eq_false, gBM, isTy_l, isTy_s, new_at, new_set, isTy_new, cellK_new, append_new, popAt_new, gFrz_eq, frzK_new, fLen_new, fTuple_new, ixD_new, slA_l, slA_t, slA_new, addTD_t, addCD_l, mulCD_l, isbD_b, isnotbD_b, mSplitC_s, gLstC, gTr, ggSub, lstK_l, lstK_r, addLD_eq]
  have eI : ∀ f, insK C M.length ⟨M ++ [PI C M r, PT T] ++ [.dk []], nn⟩ f = f [("told", .rf (M.length + 1)), ("rest", fD r)] := fun f => by
    unfold insK
    rw [List.append_assoc]
    simp only [List.cons_append, List.nil_append, atB, PI, true_and]
  rw [eI, look_told]
  obtain ⟨B, hB⟩ : ∃ B, B = M ++ [PI C M r, PT T] := ⟨_, rfl⟩
  have hB1 : B[M.length + 1]? = some (PT T) := by rw [hB]; exact at21
  have hBl : M.length + 1 < B.length := (List.getElem?_eq_some_iff.mp hB1).1
  have hBc : ∀ (c : Cell) (Cs : List Cell), (B ++ c :: Cs)[M.length + 1]? = some (PT T) := fun c Cs => by rw [List.getElem?_append_left hBl]; exact hB1
  rw [← hB]
  simp only [sem0, List.map_cons, List.map_nil, List.length_cons, List.length_nil, gSeq, gNext, gRet, gRetN, gIfS, gSet, gPar, gAsg, gDrop, gVar, gC, gBin, gUn, gB, gTru, gAnd, gOr, gNot, gAndV, gOrV, gNotV, gIf, gChain, gaNil, gaCons, DL.gTup, gLst, gCB, gCall0, gAug, addD_i, addD_s, addD_l, addD_t, subD_i, mulD_i, mulD_l, fdivD_i, modD_i, powD_i, ltD_i, ltD_s, leD_i, gtD_i, geD_i, isD_n, isnotD_n, isNonD_non, isNonD_bl, isNonD_int, isNonD_str, isNonD_lst, isNonD_tup, negD_i, iaddD_i, truD_non, truD_bl, truD_int, truD_str, truD_lst, truD_tup, someK_some, ixD_l, ixD_t, fAbs_i, fInt_i, fInt_b, fMin2_i, fLen_l, fLen_t, fLen_s, fList_l, fList_t, fTuple_l, fTuple_t, optBK_some, fIsi_non, fIsi_bl, fIsi_int, fIsi_str, fIsi_lst, fIsi_tup, List.getElem?_cons_zero, List.getElem?_cons_succ, List.set_cons_zero, List.set_cons_succ, DL.ggName, ggNil0, ggCons1, ggTup2, ggTup3, gFor, giSeq, gLc, gYes, wipeR, true_and, and_true, at_0, at_1, at_2, kit_int_int, kit_bool_int, kit_str_int, kit_non_int, kit_list_int, kit_tuple_int, kit_int_bool, kit_bool_bool, kit_str_bool, kit_non_bool, kit_list_bool, kit_tuple_bool, kit_int_str, kit_bool_str, kit_str_str, kit_non_str, kit_list_str, kit_tuple_str, kit_int_list, kit_bool_list, kit_str_list, kit_non_list, kit_list_list, kit_tuple_list, kit_int_tuple, kit_bool_tuple, kit_str_tuple, kit_non_tuple, kit_list_tuple, kit_tuple_tuple, eqD_i, neD_i, eqD_s, neD_s, eqD_f, neD_f, Nat.zero_add, Nat.reduceAdd, nc0, nc1, nc2, nc3, nc4, nc5, nc6, nc7, nc8, nc9, eq_self, decide_true, decide_false, Int.reduceEq, Int.reduceLT, Int.reduceLE, Int.reduceNeg, Bool.not_true, Bool.not_false, Bool.false_eq_true, if_true, if_false, ↓reduceIte, false_and, and_false, List.all_cons, List.all_nil, List.any_cons, List.any_nil, id_eq, Bool.and_true, Bool.true_and, Bool.or_false, Bool.false_or, Bool.and_false, Bool.false_and, gCut, eqD_b, neD_b, giZip, reduceCtorEq, Bool.true_eq_false, Bool.false_eq_true, gRevL, gSl, goNone, goSome, slD_l, ne_eq, not_false_eq_true, not_true_eq_false, gBM, isTy_l, isTy_s, new_at, new_set, isTy_new, cellK_new, append_new, popAt_new, gFrz_eq, frzK_new, fLen_new, fTuple_new, ixD_new, slA_l, slA_t, slA_new, addTD_t, addCD_l, mulCD_l, isbD_b, isnotbD_b, mSplitC_s, gLstC, gTr, ggSub, lstK_l, lstK_r, addLD_eq]
  have hBe : (B ++ [Cell.dk []])[M.length + 1]? = some (.lst (T.map pairD)) := hBc _ _
  simp only [hBe]
  refine ⟨fun rem ρ w' => ∃ (dn ts : Told) (Dn : List (Str × Nat)) (Cs : List Cell) (x2 x3 : Option D), T = dn ++ ts ∧ rem = ts.map pairD ∧ ρ = [some (.rf M.length), some (.rf B.length), x2, x3] ∧ w' = ⟨B ++ .dk (dkv B.length Dn) :: Cs, nn⟩ ∧ DInv Dn Cs dn, ⟨[], T, [], [], none, none, rfl, rfl, rfl, rfl, .nil⟩, ?_, ?_⟩
  · rintro ρ w' ⟨dn, ts, Dn, Cs, x2, x3, h1, h2, rfl, rfl, hD⟩
    have : ts = [] := by simpa using h2.symm
    subst this
    rw [List.append_nil] at h1
    subst h1
    refine ⟨hBc _ _, ?_⟩
    simp only [gLcC, fSortD, dkK_B, sem0, List.map_cons, List.map_nil, List.length_cons, List.length_nil, gSeq, gNext, gRet, gRetN, gIfS, gSet, gPar, gAsg, gDrop, gVar, gC, gBin, gUn, gB, gTru, gAnd, gOr, gNot, gAndV, gOrV, gNotV, gIf, gChain, gaNil, gaCons, DL.gTup, gLst, gCB, gCall0, gAug, addD_i, addD_s, addD_l, addD_t, subD_i, mulD_i, mulD_l, fdivD_i, modD_i, powD_i, ltD_i, ltD_s, leD_i, gtD_i, geD_i, isD_n, isnotD_n, isNonD_non, isNonD_bl, isNonD_int, isNonD_str, isNonD_lst, isNonD_tup, negD_i, iaddD_i, truD_non, truD_bl, truD_int, truD_str, truD_lst, truD_tup, someK_some, ixD_l, ixD_t, fAbs_i, fInt_i, fInt_b, fMin2_i, fLen_l, fLen_t, fLen_s, fList_l, fList_t, fTuple_l, fTuple_t, optBK_some, fIsi_non, fIsi_bl, fIsi_int, fIsi_str, fIsi_lst, fIsi_tup, List.getElem?_cons_zero, List.getElem?_cons_succ, List.set_cons_zero, List.set_cons_succ, DL.ggName, ggNil0, ggCons1, ggTup2, ggTup3, gFor, giSeq, gLc, gYes, wipeR, true_and, and_true, at_0, at_1, at_2, kit_int_int, kit_bool_int, kit_str_int, kit_non_int, kit_list_int, kit_tuple_int, kit_int_bool, kit_bool_bool, kit_str_bool, kit_non_bool, kit_list_bool, kit_tuple_bool, kit_int_str, kit_bool_str, kit_str_str, kit_non_str, kit_list_str, kit_tuple_str, kit_int_list, kit_bool_list, kit_str_list, kit_non_list, kit_list_list, kit_tuple_list, kit_int_tuple, kit_bool_tuple, kit_str_tuple, kit_non_tuple, kit_list_tuple, kit_tuple_tuple, eqD_i, neD_i, eqD_s, neD_s, eqD_f, neD_f, Nat.zero_add, Nat.reduceAdd, nc0, nc1, nc2, nc3, nc4, nc5, nc6, nc7, nc8, nc9, eq_self, decide_true, decide_false, Int.reduceEq, Int.reduceLT, Int.reduceLE, Int.reduceNeg, Bool.not_true, Bool.not_false, Bool.false_eq_true, if_true, if_false, ↓reduceIte, false_and, and_false, List.all_cons, List.all_nil, List.any_cons, List.any_nil, id_eq, Bool.and_true, Bool.true_and, Bool.or_false, Bool.false_or, Bool.and_false, Bool.false_and, gCut, eqD_b, neD_b, giZip, reduceCtorEq, Bool.true_eq_false, Bool.false_eq_true, gRevL, gSl, goNone, goSome, slD_l, ne_eq, not_false_eq_true, not_true_eq_false, gBM, isTy_l, isTy_s, new_at, new_set, isTy_new, cellK_new, append_new, popAt_new, gFrz_eq, frzK_new, fLen_new, fTuple_new, ixD_new, slA_l, slA_t, slA_new, addTD_t, addCD_l, mulCD_l, isbD_b, isnotbD_b, mSplitC_s, gLstC, gTr, ggSub, lstK_l, lstK_r, addLD_eq]
    have hlen := hD.len
    refine ⟨Dn.map Prod.fst, dkv_keys Dn, by rw [List.length_map]; omega, fun ys hp hs => ?_⟩
    have hK : IsKeys T ys := ⟨hs, hp.nodup_iff.mpr hD.nd, fun s => by rw [hp.mem_iff]; exact hD.keys s⟩
    have hyl : ys.length ≤ 60 := by rw [hp.length_eq, List.length_map]; omega
    refine lc_ty D.str (fun s => pairD (s, sumQ (nameParts s T))) ys trivial (by omega) (fun s hys k' hk' => ?_) ?_
    · have hs2 : s ∈ Dn.map Prod.fst := hp.mem_iff.mp hys
      obtain ⟨⟨s', j⟩, hj, rfl⟩ := List.mem_map.mp hs2
      simp only [gDGet, rfK_r, keyK, keyD, dkK_B, dkv_get hD.nd hj, sp_sum_of, sem0, List.map_cons, List.map_nil, List.length_cons, List.length_nil, gSeq, gNext, gRet, gRetN, gIfS, gSet, gPar, gAsg, gDrop, gVar, gC, gBin, gUn, gB, gTru, gAnd, gOr, gNot, gAndV, gOrV, gNotV, gIf, gChain, gaNil, gaCons, DL.gTup, gLst, gCB, gCall0, gAug, addD_i, addD_s, addD_l, addD_t, subD_i, mulD_i, mulD_l, fdivD_i, modD_i, powD_i, ltD_i, ltD_s, leD_i, gtD_i, geD_i, isD_n, isnotD_n, isNonD_non, isNonD_bl, isNonD_int, isNonD_str, isNonD_lst, isNonD_tup, negD_i, iaddD_i, truD_non, truD_bl, truD_int, truD_str, truD_lst, truD_tup, someK_some, ixD_l, ixD_t, fAbs_i, fInt_i, fInt_b, fMin2_i, fLen_l, fLen_t, fLen_s, fList_l, fList_t, fTuple_l, fTuple_t, optBK_some, fIsi_non, fIsi_bl, fIsi_int, fIsi_str, fIsi_lst, fIsi_tup, List.getElem?_cons_zero, List.getElem?_cons_succ, List.set_cons_zero, List.set_cons_succ, DL.ggName, ggNil0, ggCons1, ggTup2, ggTup3, gFor, giSeq, gLc, gYes, wipeR, true_and, and_true, at_0, at_1, at_2, kit_int_int, kit_bool_int, kit_str_int, kit_non_int, kit_list_int, kit_tuple_int, kit_int_bool, kit_bool_bool, kit_str_bool, kit_non_bool, kit_list_bool, kit_tuple_bool, kit_int_str, kit_bool_str, kit_str_str, kit_non_str, kit_list_str, kit_tuple_str, kit_int_list, kit_bool_list, kit_str_list, kit_non_list, kit_list_list, kit_tuple_list, kit_int_tuple, kit_bool_tuple, kit_str_tuple, kit_non_tuple, kit_list_tuple, kit_tuple_tuple, eqD_i, neD_i, eqD_s, neD_s, eqD_f, neD_f, Nat.zero_add, Nat.reduceAdd, nc0, nc1, nc2, nc3, nc4, nc5, nc6, nc7, nc8, nc9, eq_self, decide_true, decide_false, Int.reduceEq, Int.reduceLT, Int.reduceLE, Int.reduceNeg, Bool.not_true, Bool.not_false, Bool.false_eq_true, if_true, if_false, ↓reduceIte, false_and, and_false, List.all_cons, List.all_nil, List.any_cons, List.any_nil, id_eq, Bool.and_true, Bool.true_and, Bool.or_false, Bool.false_or, Bool.and_false, Bool.false_and, gCut, eqD_b, neD_b, giZip, reduceCtorEq, Bool.true_eq_false, Bool.false_eq_true, gRevL, gSl, goNone, goSome, slD_l, ne_eq, not_false_eq_true, not_true_eq_false, gBM, isTy_l, isTy_s, new_at, new_set, isTy_new, cellK_new, append_new, popAt_new, gFrz_eq, frzK_new, fLen_new, fTuple_new, ixD_new, slA_l, slA_t, slA_new, addTD_t, addCD_l, mulCD_l, isbD_b, isnotbD_b, mSplitC_s, gLstC, gTr, ggSub, lstK_l, lstK_r, addLD_eq]
      refine ⟨_, nameParts s' T, a, rfl, ⟨?_, fun p hpm => ?_, ?_⟩, by decide, hk'⟩
      · show cellK _ _ _
        rw [cell_C (hD.cell _ hj)]
      · exact hT _ (np_mem hpm).1
      · exact Nat.le_trans (Nat.mul_le_mul_left _ (Nat.succ_le_succ (np_len s' T))) hsz
    · refine ⟨_, rfl, ?_⟩
      have eM : B ++ Cell.dk (dkv B.length Dn) :: Cs = M ++ ([PI C M r, PT T] ++ Cell.dk (dkv B.length Dn) :: Cs) := by rw [hB, List.append_assoc]
      have ep : (ys.map fun s => pairD (s, sumQ (nameParts s T))) = (pairsOf ys T).map pairD := by unfold pairsOf; rw [List.map_map]; rfl
      rw [ep, eM]
      exact hk ys _ hK
  · rintro z xs ρ w' ⟨dn, ts, Dn, Cs, x2, x3, h1, h2, rfl, rfl, hD⟩
    cases ts with
    | nil => cases h2
    | cons q ts =>
      rw [List.map_cons] at h2
      injection h2 with h2 h2'
      subst h2
      subst h2'
      obtain ⟨s, p⟩ := q
      have hq := hT (s, p) (by rw [h1]; simp)
      refine ⟨hBc _ _, ?_⟩
      simp only [pair_tup, sp_is_less, sem0, List.map_cons, List.map_nil, List.length_cons, List.length_nil, gSeq, gNext, gRet, gRetN, gIfS, gSet, gPar, gAsg, gDrop, gVar, gC, gBin, gUn, gB, gTru, gAnd, gOr, gNot, gAndV, gOrV, gNotV, gIf, gChain, gaNil, gaCons, DL.gTup, gLst, gCB, gCall0, gAug, addD_i, addD_s, addD_l, addD_t, subD_i, mulD_i, mulD_l, fdivD_i, modD_i, powD_i, ltD_i, ltD_s, leD_i, gtD_i, geD_i, isD_n, isnotD_n, isNonD_non, isNonD_bl, isNonD_int, isNonD_str, isNonD_lst, isNonD_tup, negD_i, iaddD_i, truD_non, truD_bl, truD_int, truD_str, truD_lst, truD_tup, someK_some, ixD_l, ixD_t, fAbs_i, fInt_i, fInt_b, fMin2_i, fLen_l, fLen_t, fLen_s, fList_l, fList_t, fTuple_l, fTuple_t, optBK_some, fIsi_non, fIsi_bl, fIsi_int, fIsi_str, fIsi_lst, fIsi_tup, List.getElem?_cons_zero, List.getElem?_cons_succ, List.set_cons_zero, List.set_cons_succ, DL.ggName, ggNil0, ggCons1, ggTup2, ggTup3, gFor, giSeq, gLc, gYes, wipeR, true_and, and_true, at_0, at_1, at_2, kit_int_int, kit_bool_int, kit_str_int, kit_non_int, kit_list_int, kit_tuple_int, kit_int_bool, kit_bool_bool, kit_str_bool, kit_non_bool, kit_list_bool, kit_tuple_bool, kit_int_str, kit_bool_str, kit_str_str, kit_non_str, kit_list_str, kit_tuple_str, kit_int_list, kit_bool_list, kit_str_list, kit_non_list, kit_list_list, kit_tuple_list, kit_int_tuple, kit_bool_tuple, kit_str_tuple, kit_non_tuple, kit_list_tuple, kit_tuple_tuple, eqD_i, neD_i, eqD_s, neD_s, eqD_f, neD_f, Nat.zero_add, Nat.reduceAdd, nc0, nc1, nc2, nc3, nc4, nc5, nc6, nc7, nc8, nc9, eq_self, decide_true, decide_false, Int.reduceEq, Int.reduceLT, Int.reduceLE, Int.reduceNeg, Bool.not_true, Bool.not_false, Bool.false_eq_true, if_true, if_false, ↓reduceIte, false_and, and_false, List.all_cons, List.all_nil, List.any_cons, List.any_nil, id_eq, Bool.and_true, Bool.true_and, Bool.or_false, Bool.false_or, Bool.and_false, Bool.false_and, gCut, eqD_b, neD_b, giZip, reduceCtorEq, Bool.true_eq_false, Bool.false_eq_true, gRevL, gSl, goNone, goSome, slD_l, ne_eq, not_false_eq_true, not_true_eq_false, gBM, isTy_l, isTy_s, new_at, new_set, isTy_new, cellK_new, append_new, popAt_new, gFrz_eq, frzK_new, fLen_new, fTuple_new, ixD_new, slA_l, slA_t, slA_new, addTD_t, addCD_l, mulCD_l, isbD_b, isnotbD_b, mSplitC_s, gLstC, gTr, ggSub, lstK_l, lstK_r, addLD_eq]
      refine ⟨by decide, (0, 1), p, rfl, ⟨Lt2.mono (a := 1) ⟨by decide, by decide⟩ (by decide), hq.2.mono ha4⟩, ?_⟩
      have el : lessQ (0, 1) p = decide (0 < p.1) := by
        unfold lessQ
        rw [Int.zero_mul, Int.mul_one]
      rw [el]
      have hlen := hD.len
      have hdn : dn.length ≤ 60 := by
        have : T.length = dn.length + (ts.length + 1) := by rw [h1]; simp
        omega
      refine ite2 (fun hp => ?_) (fun hp => ?_)
      · have hp : 0 < p.1 := of_decide_eq_true hp
        simp only [gDSetd, rfK_r, dkK_B, sem0, List.map_cons, List.map_nil, List.length_cons, List.length_nil, gSeq, gNext, gRet, gRetN, gIfS, gSet, gPar, gAsg, gDrop, gVar, gC, gBin, gUn, gB, gTru, gAnd, gOr, gNot, gAndV, gOrV, gNotV, gIf, gChain, gaNil, gaCons, DL.gTup, gLst, gCB, gCall0, gAug, addD_i, addD_s, addD_l, addD_t, subD_i, mulD_i, mulD_l, fdivD_i, modD_i, powD_i, ltD_i, ltD_s, leD_i, gtD_i, geD_i, isD_n, isnotD_n, isNonD_non, isNonD_bl, isNonD_int, isNonD_str, isNonD_lst, isNonD_tup, negD_i, iaddD_i, truD_non, truD_bl, truD_int, truD_str, truD_lst, truD_tup, someK_some, ixD_l, ixD_t, fAbs_i, fInt_i, fInt_b, fMin2_i, fLen_l, fLen_t, fLen_s, fList_l, fList_t, fTuple_l, fTuple_t, optBK_some, fIsi_non, fIsi_bl, fIsi_int, fIsi_str, fIsi_lst, fIsi_tup, List.getElem?_cons_zero, List.getElem?_cons_succ, List.set_cons_zero, List.set_cons_succ, DL.ggName, ggNil0, ggCons1, ggTup2, ggTup3, gFor, giSeq, gLc, gYes, wipeR, true_and, and_true, at_0, at_1, at_2, kit_int_int, kit_bool_int, kit_str_int, kit_non_int, kit_list_int, kit_tuple_int, kit_int_bool, kit_bool_bool, kit_str_bool, kit_non_bool, kit_list_bool, kit_tuple_bool, kit_int_str, kit_bool_str, kit_str_str, kit_non_str, kit_list_str, kit_tuple_str, kit_int_list, kit_bool_list, kit_str_list, kit_non_list, kit_list_list, kit_tuple_list, kit_int_tuple, kit_bool_tuple, kit_str_tuple, kit_non_tuple, kit_list_tuple, kit_tuple_tuple, eqD_i, neD_i, eqD_s, neD_s, eqD_f, neD_f, Nat.zero_add, Nat.reduceAdd, nc0, nc1, nc2, nc3, nc4, nc5, nc6, nc7, nc8, nc9, eq_self, decide_true, decide_false, Int.reduceEq, Int.reduceLT, Int.reduceLE, Int.reduceNeg, Bool.not_true, Bool.not_false, Bool.false_eq_true, if_true, if_false, ↓reduceIte, false_and, and_false, List.all_cons, List.all_nil, List.any_cons, List.any_nil, id_eq, Bool.and_true, Bool.true_and, Bool.or_false, Bool.false_or, Bool.and_false, Bool.false_and, gCut, eqD_b, neD_b, giZip, reduceCtorEq, Bool.true_eq_false, Bool.false_eq_true, gRevL, gSl, goNone, goSome, slD_l, ne_eq, not_false_eq_true, not_true_eq_false, gBM, isTy_l, isTy_s, new_at, new_set, isTy_new, cellK_new, append_new, popAt_new, gFrz_eq, frzK_new, fLen_new, fTuple_new, ixD_new, slA_l, slA_t, slA_new, addTD_t, addCD_l, mulCD_l, isbD_b, isnotbD_b, mSplitC_s, gLstC, gTr, ggSub, lstK_l, lstK_r, addLD_eq]
        have eC : ∀ c : Cell, B ++ Cell.dk (dkv B.length Dn) :: Cs ++ [c] = B ++ Cell.dk (dkv B.length Dn) :: (Cs ++ [c]) := fun c => by rw [List.append_assoc]; rfl
        have eN : (B ++ Cell.dk (dkv B.length Dn) :: Cs).length = B.length + 1 + Cs.length := by rw [List.length_append, List.length_cons]; omega
        rw [eC, eN]
        simp only [keyK, keyD, dkK_B, sem0, List.map_cons, List.map_nil, List.length_cons, List.length_nil, gSeq, gNext, gRet, gRetN, gIfS, gSet, gPar, gAsg, gDrop, gVar, gC, gBin, gUn, gB, gTru, gAnd, gOr, gNot, gAndV, gOrV, gNotV, gIf, gChain, gaNil, gaCons, DL.gTup, gLst, gCB, gCall0, gAug, addD_i, addD_s, addD_l, addD_t, subD_i, mulD_i, mulD_l, fdivD_i, modD_i, powD_i, ltD_i, ltD_s, leD_i, gtD_i, geD_i, isD_n, isnotD_n, isNonD_non, isNonD_bl, isNonD_int, isNonD_str, isNonD_lst, isNonD_tup, negD_i, iaddD_i, truD_non, truD_bl, truD_int, truD_str, truD_lst, truD_tup, someK_some, ixD_l, ixD_t, fAbs_i, fInt_i, fInt_b, fMin2_i, fLen_l, fLen_t, fLen_s, fList_l, fList_t, fTuple_l, fTuple_t, optBK_some, fIsi_non, fIsi_bl, fIsi_int, fIsi_str, fIsi_lst, fIsi_tup, List.getElem?_cons_zero, List.getElem?_cons_succ, List.set_cons_zero, List.set_cons_succ, DL.ggName, ggNil0, ggCons1, ggTup2, ggTup3, gFor, giSeq, gLc, gYes, wipeR, true_and, and_true, at_0, at_1, at_2, kit_int_int, kit_bool_int, kit_str_int, kit_non_int, kit_list_int, kit_tuple_int, kit_int_bool, kit_bool_bool, kit_str_bool, kit_non_bool, kit_list_bool, kit_tuple_bool, kit_int_str, kit_bool_str, kit_str_str, kit_non_str, kit_list_str, kit_tuple_str, kit_int_list, kit_bool_list, kit_str_list, kit_non_list, kit_list_list, kit_tuple_list, kit_int_tuple, kit_bool_tuple, kit_str_tuple, kit_non_tuple, kit_list_tuple, kit_tuple_tuple, eqD_i, neD_i, eqD_s, neD_s, eqD_f, neD_f, Nat.zero_add, Nat.reduceAdd, nc0, nc1, nc2, nc3, nc4, nc5, nc6, nc7, nc8, nc9, eq_self, decide_true, decide_false, Int.reduceEq, Int.reduceLT, Int.reduceLE, Int.reduceNeg, Bool.not_true, Bool.not_false, Bool.false_eq_true, if_true, if_false, ↓reduceIte, false_and, and_false, List.all_cons, List.all_nil, List.any_cons, List.any_nil, id_eq, Bool.and_true, Bool.true_and, Bool.or_false, Bool.false_or, Bool.and_false, Bool.false_and, gCut, eqD_b, neD_b, giZip, reduceCtorEq, Bool.true_eq_false, Bool.false_eq_true, gRevL, gSl, goNone, goSome, slD_l, ne_eq, not_false_eq_true, not_true_eq_false, gBM, isTy_l, isTy_s, new_at, new_set, isTy_new, cellK_new, append_new, popAt_new, gFrz_eq, frzK_new, fLen_new, fTuple_new, ixD_new, slA_l, slA_t, slA_new, addTD_t, addCD_l, mulCD_l, isbD_b, isnotbD_b, mSplitC_s, gLstC, gTr, ggSub, lstK_l, lstK_r, addLD_eq]
        refine ⟨by decide, by unfold dkv; rw [List.length_map]; exact lt_sl (by omega), ?_⟩
        by_cases hs : s ∈ Dn.map Prod.fst
        · obtain ⟨⟨s', j⟩, hj, rfl⟩ := List.mem_map.mp hs
          rw [dkv_get hD.nd hj]
          have hjl : j < Cs.length := (List.getElem?_eq_some_iff.mp (hD.cell _ hj)).1
          have hc : (Cs ++ [Cell.lst []])[j]? = some (.lst ((nameParts s' dn).map fD)) := by rw [List.getElem?_append_left hjl]; exact hD.cell _ hj
          refine ⟨?_, ?_⟩
          · unfold isTy
            simp only [atC, hc]
          · show cellK _ _ _
            rw [cell_C hc]
            refine ⟨lt_sl (by rw [List.length_map]; have := np_len s' dn; omega), dn ++ [(s', p)], ts, Dn, _, _, _, by rw [h1]; simp, rfl, rfl, ?_, hD.old hp hj⟩
            simp only [setC]
        · rw [dkv_none hs]
          simp only [setB, dkv_put hs]
          have hc : (Cs ++ [Cell.lst []])[Cs.length]? = some (.lst []) := by simp
          refine ⟨?_, ?_⟩
          · unfold isTy
            simp only [atC, hc]
          · show cellK _ _ _
            rw [cell_C hc]
            refine ⟨by decide, dn ++ [(s, p)], ts, Dn ++ [(s, Cs.length)], Cs ++ [.lst [fD p]], _, _, by rw [h1]; simp, rfl, rfl, ?_, hD.new hp hs⟩
            simp only [setC]
            rw [show (Cs ++ [Cell.lst []]).set Cs.length (Cell.lst ([] ++ [fD p])) = Cs ++ [.lst [fD p]] by rw [new_set]; rfl]
      · have hp : ¬ 0 < p.1 := fun z => hp (decide_eq_true z)
        exact ⟨dn ++ [(s, p)], ts, Dn, Cs, _, _, by rw [h1]; simp, rfl, rfl, rfl, hD.skip hp⟩
theorem ok_Parting_pairs {P : Program} {w : World} {K : PySem.W.Frag} {mg : Str → Option Value} {base : Heap} {C_Parting : Addr} (CL_Parting : ClsAt K mg "Parting" C_Parting ["told", "rest"]) (F_is_less : FnAt P w K mg base CX0 1 "is_less" 2 sp_is_less) (F_sum_of : FnAt P w K mg base CX0 3 "sum_of" 1 sp_sum_of) (T : MethAt K C_Parting "pairs" "Parting.pairs" s_Parting_pairs ["self"]) (B : Blt mg) : MtAt P w K mg base CX0 4 C_Parting "pairs" 1 (sp_Parting_pairs C_Parting) := (w_Parting_pairs CL_Parting F_is_less F_sum_of T B).imp (v_Parting_pairs C_Parting)


end LW

namespace LW
open PySem PySem.Spec PyProof.Rows L2 RZ DL

theorem tell_ok {rs : List Row} {u : Int} (h : ∀ r ∈ rs, RowOk r) (hl : rs.length ≤ 8) : (∀ x ∈ tellP rs u, Fr x.2 ∧ Lt2 343 x.2) ∧ (tellP rs u).length ≤ 8 := by
  obtain ⟨f0, l0⟩ := rest0_ok (u := u) h hl
  obtain ⟨f1, l1, h1⟩ := lefts_ok (m := 8) h f0 l0 hl
  constructor
  · intro x hx
    rcases List.mem_append.mp hx with hx | hx
    · rcases List.mem_append.mp hx with hx | hx
      · have := told0_ok (u := u) h x.2 (List.mem_map.mpr ⟨x, hx, rfl⟩)
        exact ⟨this.1, this.2.mono (by decide)⟩
      · exact ⟨(h1 x hx).1, (h1 x hx).2.mono (by decide)⟩
    · obtain ⟨y, hy, rfl⟩ := List.mem_map.mp hx
      have hL : ∀ z ∈ lenRows rs, IsLen z := fun z hz => by
        obtain ⟨g1, g2⟩ := flt_mem hz
        obtain ⟨s, l, rfl⟩ := kind_len g2
        exact ⟨s, l, rfl, (h _ g1).1, (h _ g1).2⟩
      obtain ⟨s, l, rfl, g1, g2⟩ := hL y hy
      obtain ⟨c1, c2⟩ := tot_bd hL
      have ll := flt_len rs "length"
      have lpos : 0 < (lenRows rs).length := List.length_pos_of_mem hy
      have ll : (lenRows rs).length ≤ rs.length := ll
      have e0 : totR (lenRows rs) ≠ 0 := by omega
      have p1 := f1.pos
      have b0 : (lefts rs (rest0 rs u)).2.2 * totR (lenRows rs) ≠ 0 := Int.mul_ne_zero (by omega) e0
      have lt : (totR (lenRows rs)).natAbs < 2 ^ 13 := Nat.lt_of_le_of_lt (show (totR (lenRows rs)).natAbs ≤ 8000 by omega) (by decide)
      have lr : Lt2 330 (lefts rs (rest0 rs u)).2 := l1.mono (by decide)
      exact ⟨fr_norm b0, norm_lt (a := 343) b0 (wide_lt (b := 13) lr.1 (Nat.lt_of_le_of_lt (show l.natAbs ≤ 8000 by omega) (by decide))) (wide_lt lr.2 lt)⟩
  · have := tell_len (u := u) rs (rest0 rs u)
    unfold tellP told0
    rw [List.length_append, List.length_append, List.length_append]
    have e : (lensE (lefts rs (rest0 rs u)).2 (totR (lenRows rs)) (lenRows rs)).length = (lenRows rs).length := by unfold lensE; rw [List.length_map]
    rw [e]
    omega
def sp_parts_at : GF := fun ds w _ k => ∃ (rs : List Row) (u : Int), ds = [.tup (rs.map rowD), .int u] ∧ RowsOk rs 8 ∧ ∀ ys R, IsKeys (tellP rs u) ys → k (.rf (w.M ++ R).length) ⟨w.M ++ R ++ [.lst ((pairsOf ys (tellP rs u)).map pairD)], w.n⟩
abbrev s_parts_at : Stmt := topS 11
theorem sc_parts_at : FnScope ["rows", "unit"] ["rows", "unit"] (defScope s_parts_at) := ⟨rfl, rfl, rfl, by decide +kernel, rfl, by decide +kernel, by decide +kernel⟩
def g_parts_at (C_Parting : Addr) : GS := (gRet (gMeth C_Parting 1 (sp_Parting_pairs C_Parting) "pairs" (gMake C_Parting 3 (sp_Parting___init__ C_Parting) (gaCons (gVar 0) (gaCons (gVar 1) gaNil))) gaNil))
theorem w_parts_at {P : Program} {w : World} {K : PySem.W.Frag} {mg : Str → Option Value} {base : Heap} (T : DefAt K mg "parts_at" s_parts_at ["rows", "unit"]) (B : Blt mg) {C_Parting : Addr} (CL_Parting : ClsAt K mg "Parting" C_Parting ["told", "rest"]) (F_Parting_pairs : MtAt P w K mg base CX0 4 C_Parting "pairs" 1 (sp_Parting_pairs C_Parting)) (F_Parting___init__ : InAt P w K mg base CX0 6 C_Parting 3 (sp_Parting___init__ C_Parting)) : FnAt P w K mg base CX0 8 "parts_at" 2 (sem0 2 (g_parts_at C_Parting)) := by
  have nd := sc_parts_at.nd
  exact T.fn0 sc_parts_at (fun f cdv A outer s H E hr => (dss_one (ds_ret (de_meth0 CL_Parting F_Parting_pairs hr (de_make CL_Parting F_Parting___init__ hr (by rfl) (da_cons (de_var 0) (da_cons (de_var 1) da_nil))) (by decide) (by rfl)))))

theorem v_parts_at (C : Addr) : ∀ ds w kx k, sp_parts_at ds w kx k → sem0 2 (g_parts_at C) ds w kx k := by
  rintro ds w kx k ⟨rs, u, rfl, hr, hk⟩
  have e : rho 2 [D.tup (rs.map rowD), D.int u] = [some (.tup (rs.map rowD)), some (.int u)] := rfl
  obtain ⟨t1, t2⟩ := tell_ok (u := u) hr.ok hr.len
  simp only [g_parts_at, e, gMeth, gMake, rfK_r, sp_Parting___init__, sem0, List.map_cons, List.map_nil, List.length_cons, List.length_nil, gSeq, gNext, gRet, gRetN, gIfS, gSet, gPar, gAsg, gDrop, gVar, gC, gBin, gUn, gB, gTru, gAnd, gOr, gNot, gAndV, gOrV, gNotV, gIf, gChain, gaNil, gaCons, DL.gTup, gLst, gCB, gCall0, gAug, addD_i, addD_s, addD_l, addD_t, subD_i, mulD_i, mulD_l, fdivD_i, modD_i, powD_i, ltD_i, ltD_s, leD_i, gtD_i, geD_i, isD_n, isnotD_n, isNonD_non, isNonD_bl, isNonD_int, isNonD_str, isNonD_lst, isNonD_tup, negD_i, iaddD_i, truD_non, truD_bl, truD_int, truD_str, truD_lst, truD_tup, someK_some, ixD_l, ixD_t, fAbs_i, fInt_i, fInt_b, fMin2_i, fLen_l, fLen_t, fLen_s, fList_l, fList_t, fTuple_l, fTuple_t, optBK_some, fIsi_non, fIsi_bl, fIsi_int, fIsi_str, fIsi_lst, fIsi_tup, List.getElem?_cons_zero, List.getElem?_cons_succ, List.set_cons_zero, List.set_cons_succ, DL.ggName, ggNil0, ggCons1, ggTup2, ggTup3, gFor, giSeq, gLc, gYes, wipeR, true_and, and_true, at_0, at_1, at_2, kit_int_int, kit_bool_int, kit_str_int, kit_non_int, kit_list_int, kit_tuple_int, kit_int_bool, kit_bool_bool, kit_str_bool, kit_non_bool, kit_list_bool, kit_tuple_bool, kit_int_str, kit_bool_str, kit_str_str, kit_non_str, kit_list_str, kit_tuple_str, kit_int_list, kit_bool_list, kit_str_list, kit_non_list, kit_list_list, kit_tuple_list, kit_int_tuple, kit_bool_tuple, kit_str_tuple, kit_non_tuple, kit_list_tuple, kit_tuple_tuple, eqD_i, neD_i, eqD_s, neD_s, eqD_f, neD_f, Nat.zero_add, Nat.reduceAdd, nc0, nc1, nc2, nc3, nc4, nc5, nc6, nc7, nc8, nc9, eq_self, decide_true, decide_false, Int.reduceEq, Int.reduceLT, Int.reduceLE, Int.reduceNeg, Bool.not_true, Bool.not_false, Bool.false_eq_true, if_true, if_false, ↓reduceIte, false_and, and_false, List.all_cons, List.all_nil, List.any_cons, List.any_nil, id_eq, Bool.and_true, Bool.true_and, Bool.or_false, Bool.false_or, Bool.and_false, Bool.false_and, gCut, eqD_b, neD_b, giZip, reduceCtorEq, Bool.true_eq_false, Bool.false_eq_true, gRevL, gSl, goNone, goSome, slD_l, ne_eq, not_false_eq_true, not_true_eq_false, gBM, isTy_l, isTy_s, new_at, new_set, isTy_new, cellK_new, append_new, popAt_new, gFrz_eq, frzK_new, fLen_new, fTuple_new, ixD_new, slA_l, slA_t, slA_new, addTD_t, addCD_l, mulCD_l, isbD_b, isnotbD_b, mSplitC_s, gLstC, gTr, ggSub, lstK_l, lstK_r, addLD_eq]
  refine ⟨w.M, w.n, rs, u, rfl, rfl, hr, ?_⟩
  simp only [PI, insK20, look_pairs, rfK_r, sem0, List.map_cons, List.map_nil, List.length_cons, List.length_nil, gSeq, gNext, gRet, gRetN, gIfS, gSet, gPar, gAsg, gDrop, gVar, gC, gBin, gUn, gB, gTru, gAnd, gOr, gNot, gAndV, gOrV, gNotV, gIf, gChain, gaNil, gaCons, DL.gTup, gLst, gCB, gCall0, gAug, addD_i, addD_s, addD_l, addD_t, subD_i, mulD_i, mulD_l, fdivD_i, modD_i, powD_i, ltD_i, ltD_s, leD_i, gtD_i, geD_i, isD_n, isnotD_n, isNonD_non, isNonD_bl, isNonD_int, isNonD_str, isNonD_lst, isNonD_tup, negD_i, iaddD_i, truD_non, truD_bl, truD_int, truD_str, truD_lst, truD_tup, someK_some, ixD_l, ixD_t, fAbs_i, fInt_i, fInt_b, fMin2_i, fLen_l, fLen_t, fLen_s, fList_l, fList_t, fTuple_l, fTuple_t, optBK_some, fIsi_non, fIsi_bl, fIsi_int, fIsi_str, fIsi_lst, fIsi_tup, List.getElem?_cons_zero, List.getElem?_cons_succ, List.set_cons_zero, List.set_cons_succ, DL.ggName, ggNil0, ggCons1, ggTup2, ggTup3, gFor, giSeq, gLc, gYes, wipeR, true_and, and_true, at_0, at_1, at_2, kit_int_int, kit_bool_int, kit_str_int, kit_non_int, kit_list_int, kit_tuple_int, kit_int_bool, kit_bool_bool, kit_str_bool, kit_non_bool, kit_list_bool, kit_tuple_bool, kit_int_str, kit_bool_str, kit_str_str, kit_non_str, kit_list_str, kit_tuple_str, kit_int_list, kit_bool_list, kit_str_list, kit_non_list, kit_list_list, kit_tuple_list, kit_int_tuple, kit_bool_tuple, kit_str_tuple, kit_non_tuple, kit_list_tuple, kit_tuple_tuple, eqD_i, neD_i, eqD_s, neD_s, eqD_f, neD_f, Nat.zero_add, Nat.reduceAdd, nc0, nc1, nc2, nc3, nc4, nc5, nc6, nc7, nc8, nc9, eq_self, decide_true, decide_false, Int.reduceEq, Int.reduceLT, Int.reduceLE, Int.reduceNeg, Bool.not_true, Bool.not_false, Bool.false_eq_true, if_true, if_false, ↓reduceIte, false_and, and_false, List.all_cons, List.all_nil, List.any_cons, List.any_nil, id_eq, Bool.and_true, Bool.true_and, Bool.or_false, Bool.false_or, Bool.and_false, Bool.false_and, gCut, eqD_b, neD_b, giZip, reduceCtorEq, Bool.true_eq_false, Bool.false_eq_true, gRevL, gSl, goNone, goSome, slD_l, ne_eq, not_false_eq_true, not_true_eq_false, gBM, isTy_l, isTy_s, new_at, new_set, isTy_new, cellK_new, append_new, popAt_new, gFrz_eq, frzK_new, fLen_new, fTuple_new, ixD_new, slA_l, slA_t, slA_new, addTD_t, addCD_l, mulCD_l, isbD_b, isnotbD_b, mSplitC_s, gLstC, gTr, ggSub, lstK_l, lstK_r, addLD_eq]
  exact ⟨w.M, w.n, tellP rs u, restP rs u, 343, rfl, rfl, ⟨t1, by decide, Nat.le_trans (Nat.mul_le_mul_left _ (Nat.succ_le_succ t2)) (by decide), by omega⟩, hk⟩
theorem ok_parts_at {P : Program} {w : World} {K : PySem.W.Frag} {mg : Str → Option Value} {base : Heap} (T : DefAt K mg "parts_at" s_parts_at ["rows", "unit"]) (B : Blt mg) {C_Parting : Addr} (CL_Parting : ClsAt K mg "Parting" C_Parting ["told", "rest"]) (F_Parting_pairs : MtAt P w K mg base CX0 4 C_Parting "pairs" 1 (sp_Parting_pairs C_Parting)) (F_Parting___init__ : InAt P w K mg base CX0 6 C_Parting 3 (sp_Parting___init__ C_Parting)) : FnAt P w K mg base CX0 8 "parts_at" 2 sp_parts_at := (w_parts_at T B CL_Parting F_Parting_pairs F_Parting___init__).imp (v_parts_at C_Parting)


end LW

namespace LW
open PySem PySem.Spec PyProof.Rows L2 RZ DL

/-! ### the law's own parting -/
def ofst (u : Int) : Row → Option (Str × Qp)
  | .of n p => some (n, p)
  | .steps n qs => some (n, partAt qs u)
  | _ => none
theorem told_perm (u : Int) : ∀ rs : List Row, (rs.filterMap (ofst u)).Perm (told0 rs u)
  | [] => .refl _
  | .of n p :: rs => (told_perm u rs).cons _
  | .steps n qs :: rs => by
    show ((n, partAt qs u) :: rs.filterMap (ofst u)).Perm (rs.filterMap ofN ++ (n, partAt qs u) :: rs.filterMap (stN u))
    exact ((told_perm u rs).cons _).trans List.perm_middle.symm
  | .left n p :: rs => told_perm u rs
  | .length n p :: rs => told_perm u rs
theorem Pb_perm {xs ys : List Qp} (h : xs.Perm ys) : Pb xs = Pb ys ∧ Nt xs = Nt ys := by
  induction h with
  | nil => exact ⟨rfl, rfl⟩
  | cons x _ ih => exact ⟨by show x.2 * _ = x.2 * _; rw [ih.1], by show x.1 * _ + x.2 * _ = x.1 * _ + x.2 * _; rw [ih.1, ih.2]⟩
  | swap x y l =>
    refine ⟨?_, ?_⟩
    · show y.2 * (x.2 * Pb l) = x.2 * (y.2 * Pb l)
      ac_rfl
    · show y.1 * (x.2 * Pb l) + y.2 * (x.1 * Pb l + x.2 * Nt l) = x.1 * (y.2 * Pb l) + x.2 * (y.1 * Pb l + y.2 * Nt l)
      rw [Int.mul_add, Int.mul_add]
      have e1 : y.1 * (x.2 * Pb l) = x.2 * (y.1 * Pb l) := by ac_rfl
      have e2 : y.2 * (x.1 * Pb l) = x.1 * (y.2 * Pb l) := by ac_rfl
      have e3 : y.2 * (x.2 * Nt l) = x.2 * (y.2 * Nt l) := by ac_rfl
      rw [e1, e2, e3]
      omega
  | trans _ _ ih1 ih2 => exact ⟨ih1.1.trans ih2.1, ih1.2.trans ih2.2⟩
theorem sumQ_perm {xs ys : List Qp} (h : xs.Perm ys) : sumQ xs = sumQ ys := by
  unfold sumQ
  rw [(Pb_perm h).1, (Pb_perm h).2]
def negQ (x : Qp) : Qp := (-x.1, x.2)
theorem fr_neg {x : Qp} (h : Fr x) : Fr (negQ x) := ⟨h.pos, by show Int.gcd (-x.1) x.2 = 1; rw [Int.neg_gcd]; exact h.cop⟩
theorem Pb_neg : ∀ xs : List Qp, Pb (xs.map negQ) = Pb xs ∧ Nt (xs.map negQ) = - Nt xs
  | [] => ⟨rfl, rfl⟩
  | x :: xs => by
    obtain ⟨h1, h2⟩ := Pb_neg xs
    refine ⟨?_, ?_⟩
    · show x.2 * Pb (xs.map negQ) = x.2 * Pb xs
      rw [h1]
    · show -x.1 * Pb (xs.map negQ) + x.2 * Nt (xs.map negQ) = -(x.1 * Pb xs + x.2 * Nt xs)
      rw [h1, h2, Int.neg_mul, Int.mul_neg]
      omega
theorem sum_negs {y : Qp} {xs : List Qp} (hy : Fr y) (h : ∀ x ∈ xs, Fr x) : sumQ (y :: xs.map negQ) = subQ y (sumQ xs) := by
  have b := Pb_ne h
  have h2 := hy.pos
  have e : subQ y (sumQ xs) = subQ (norm y.1 y.2) (norm (Nt xs) (Pb xs)) := by rw [norm_self hy]; rfl
  rw [e, sub_norm (by omega) b]
  obtain ⟨h3, h4⟩ := Pb_neg xs
  show norm (y.1 * Pb (xs.map negQ) + y.2 * Nt (xs.map negQ)) (y.2 * Pb (xs.map negQ)) = _
  rw [h3, h4, Int.mul_comm (Pb xs) y.2, Int.mul_neg, Int.mul_comm (Nt xs) y.2]
  congr 1
theorem sum_neg1 {y x : Qp} (hy : Fr y) (hx : Fr x) : sumQ [y, negQ x] = subQ y x := by
  have := sum_negs (xs := [x]) hy (fun z hz => by rw [List.mem_singleton.mp hz]; exact hx)
  rw [sumQ_one hx] at this
  exact this
/-- what the law's own parting tells, in its order -/
def tellL (rs : List Row) (u : Int) : Told := rs.filterMap (ofst u) ++ (lefts rs (rest0 rs u)).1 ++ lensE (lefts rs (rest0 rs u)).2 (totR (lenRows rs)) (lenRows rs)
theorem tell_perm (rs : List Row) (u : Int) : (tellL rs u).Perm (tellP rs u) := ((told_perm u rs).append_right _).append_right _
theorem np_perm {T U : Told} (h : T.Perm U) (s : Str) : sumQ (nameParts s T) = sumQ (nameParts s U) := sumQ_perm ((h.filter _).map _)
theorem keys_perm {T U : Told} {ys : List Str} (h : T.Perm U) (k : IsKeys T ys) : IsKeys U ys := ⟨k.srt, k.nd, fun s => by
  rw [k.mem s]
  exact ⟨fun ⟨p, h1, h2⟩ => ⟨p, h.mem_iff.mp h1, h2⟩, fun ⟨p, h1, h2⟩ => ⟨p, h.mem_iff.mpr h1, h2⟩⟩⟩
theorem pairs_perm {T U : Told} (h : T.Perm U) (ys : List Str) : pairsOf ys T = pairsOf ys U := by
  unfold pairsOf
  exact List.map_congr_left fun s _ => by rw [np_perm h s]
/-! sorted lists of texts -/
theorem lt_cot : ∀ (c b a : List Nat), PySem.Spec.ltCps c a = true → PySem.Spec.ltCps c b = true ∨ PySem.Spec.ltCps b a = true
  | [], [], a, h => .inr h
  | [], _ :: _, _, _ => .inl rfl
  | _ :: _, _, [], h => nomatch h
  | _ :: _, [], _ :: _, _ => .inr rfl
  | c :: cs, b :: bs, a :: as, h => by
    simp only [PySem.Spec.ltCps, Bool.or_eq_true, Bool.and_eq_true, decide_eq_true_eq, beq_iff_eq] at h ⊢
    by_cases h1 : c < b
    · exact .inl (.inl h1)
    · by_cases h2 : b < a
      · exact .inr (.inl h2)
      · rcases h with h | ⟨h3, h4⟩
        · omega
        · rcases lt_cot cs bs as h4 with h5 | h5
          · exact .inl (.inr ⟨by omega, h5⟩)
          · exact .inr (.inr ⟨by omega, h5⟩)
theorem lt_anti : ∀ (a b : List Nat), PySem.Spec.ltCps a b = false → PySem.Spec.ltCps b a = false → a = b
  | [], [], _, _ => rfl
  | [], _ :: _, h, _ => nomatch h
  | _ :: _, [], _, h => nomatch h
  | a :: as, b :: bs, h1, h2 => by
    simp only [PySem.Spec.ltCps, Bool.or_eq_false_iff, Bool.and_eq_false_iff, decide_eq_false_iff_not, beq_eq_false_iff_ne] at h1 h2
    have e : a = b := by omega
    subst e
    rw [lt_anti as bs (by rcases h1.2 with h | h; exact absurd rfl h; exact h) (by rcases h2.2 with h | h; exact absurd rfl h; exact h)]
def leS (a b : Str) : Prop := PySem.Spec.ltCps b.cps.toList a.cps.toList = false
theorem leS_anti {a b : Str} (h1 : leS a b) (h2 : leS b a) : a = b := by
  have e := lt_anti _ _ h2 h1
  obtain ⟨x⟩ := a
  obtain ⟨y⟩ := b
  congr 1
  exact Array.toList_inj.mp e
theorem leS_trans {a b c : Str} (h1 : leS a b) (h2 : leS b c) : leS a c := by
  unfold leS at *
  cases e : PySem.Spec.ltCps c.cps.toList a.cps.toList with
  | false => rfl
  | true =>
    rcases lt_cot _ b.cps.toList _ e with h | h
    · rw [h2] at h; cases h
    · rw [h1] at h; cases h
theorem rising_pw : ∀ (r : List Str) (p : Str), risingS p r = true → (p :: r).Pairwise leS
  | [], p, _ => by simp
  | x :: r, p, h => by
    have h : (!PySem.Spec.ltCps x.cps.toList p.cps.toList && risingS x r) = true := h
    rw [Bool.and_eq_true, Bool.not_eq_true'] at h
    have ih := rising_pw r x h.2
    rw [List.pairwise_cons] at ih ⊢
    refine ⟨fun y hy => ?_, List.pairwise_cons.mpr ih⟩
    rcases List.mem_cons.mp hy with rfl | hy
    · exact h.1
    · exact leS_trans h.1 (ih.1 y hy)
theorem sorted_pw {l : List Str} (h : sortedS l = true) : l.Pairwise leS := by
  cases l with
  | nil => exact .nil
  | cons x r => exact rising_pw r x h
theorem uniq_sorted : ∀ {xs ys : List Str}, xs.Pairwise leS → ys.Pairwise leS → xs.Perm ys → xs = ys
  | [], ys, _, _, h => h.nil_eq.symm ▸ rfl
  | x :: xs, [], _, _, h => absurd h.length_eq (by simp)
  | x :: xs, y :: ys, h1, h2, h => by
    rw [List.pairwise_cons] at h1 h2
    have e : x = y := by
      have hx : x ∈ y :: ys := h.mem_iff.mp List.mem_cons_self
      have hy : y ∈ x :: xs := h.mem_iff.mpr List.mem_cons_self
      rcases List.mem_cons.mp hx with e | hx
      · exact e
      · rcases List.mem_cons.mp hy with e | hy
        · exact e.symm
        · exact leS_anti (h1.1 y hy) (h2.1 x hx)
    subst e
    rw [uniq_sorted h1.2 h2.2 h.cons_inv]
theorem keys_uniq {T : Told} {xs ys : List Str} (h1 : IsKeys T xs) (h2 : IsKeys T ys) : xs = ys := by
  refine uniq_sorted (sorted_pw h1.srt) (sorted_pw h2.srt) ?_
  rw [List.perm_ext_iff_of_nodup h1.nd h2.nd]
  exact fun s => (h1.mem s).trans (h2.mem s).symm

def StepOk (xs : List Qp) : Prop := ∀ ys z zs, xs = ys ++ z :: zs → (∀ x ∈ ys, Fr x) ∧ Fr z ∧ ∃ c d, Lt2 c (sumQ ys) ∧ Lt2 d z ∧ c + d + 1 ≤ 3990
theorem step_frb {xs : List Qp} {a : Nat} (hF : FrB a xs) (hz : (a + 1) * (xs.length + 1) ≤ 3990) : StepOk xs := by
  rintro ys z zs rfl
  have hy : FrB a ys := fun q hq => hF q (List.mem_append_left _ hq)
  obtain ⟨fz, lz⟩ := hF z (by simp)
  refine ⟨fun q hq => (hy q hq).1, fz, _, a, sum_lt rfl hy, lz, ?_⟩
  have h1 : (a + 1) * (ys.length + 1 + 1) ≤ (a + 1) * ((ys ++ z :: zs).length + 1) := Nat.mul_le_mul_left _ (by simp)
  rw [Nat.mul_succ, Nat.mul_succ] at h1
  omega
theorem step_two {x y : Qp} {a b : Nat} (hx : Fr x) (hy : Fr y) (lx : Lt2 a x) (ly : Lt2 b y) (h : a + b ≤ 3900) : StepOk [x, y] := by
  intro ys z zs e
  cases ys with
  | nil =>
    injection e with e1 e2
    subst e1
    exact ⟨(fun _ h => nomatch h), hx, 1, a, by rw [sumQ_nil]; exact ⟨by decide, by decide⟩, lx, by omega⟩
  | cons w ys =>
    injection e with e1 e2
    subst e1
    cases ys with
    | nil =>
      injection e2 with e2 e3
      subst e2
      exact ⟨fun q hq => by rw [List.mem_singleton.mp hq]; exact hx, hy, a, b, by rw [sumQ_one hx]; exact lx, ly, by omega⟩
    | cons v ys =>
      injection e2 with e2 e3
      have := congrArg List.length e3
      simp at this
theorem sum_two {x y : Qp} : sumQ [x, y] = norm (x.1 * y.2 + y.1 * x.2) (x.2 * y.2) := by
  show norm (x.1 * (y.2 * 1) + x.2 * (y.1 * 1 + y.2 * 0)) (x.2 * (y.2 * 1)) = _
  rw [Int.mul_one, Int.mul_one, Int.mul_zero, Int.add_zero, Int.mul_comm x.2 y.1]
def sp__law_sum : GF := fun ds w _ k => ∃ (xs : List Qp), ds = [.lst (xs.map fD)] ∧ StepOk xs ∧ k (fD (sumQ xs)) w
abbrev s__law_sum : Stmt := topS 18
theorem sc__law_sum : FnScope ["_law_parts", "_law_top", "_law_below", "_law_one", "_law_other"] ["_law_parts"] (defScope s__law_sum) := ⟨rfl, rfl, rfl, by decide +kernel, rfl, by decide +kernel, by decide +kernel⟩
def g__law_sum : GS := (gSeq (gAsg (gTup (gaCons (gC (.int 0)) (gaCons (gC (.int 1)) gaNil))) (ggTup 2 (ggCons (ggName 1) (ggCons (ggName 2) ggNil))))
  (gSeq (gFor (giSeq (gVar 0)) (ggTup 2 (ggCons (ggName 3) (ggCons (ggName 4) ggNil))) (gAsg (gCall0 2 sp__law_lowest (gaCons (gBin addD (gBin mulD (gVar 1) (gVar 4)) (gBin mulD (gVar 3) (gVar 2))) (gaCons (gBin mulD (gVar 2) (gVar 4)) gaNil))) (ggTup 2 (ggCons (ggName 1) (ggCons (ggName 2) ggNil)))))
  (gRet (gTup (gaCons (gVar 1) (gaCons (gVar 2) gaNil))))))
theorem w__law_sum {P : Program} {w : World} {K : PySem.W.Frag} {mg : Str → Option Value} {base : Heap} (T : DefAt K mg "_law_sum" s__law_sum ["_law_parts"]) (B : Blt mg) (F__law_lowest : FnAt P w K mg base CX0 1 "_law_lowest" 2 sp__law_lowest) : FnAt P w K mg base CX0 2 "_law_sum" 1 (sem0 5 g__law_sum) := by
  have nd := sc__law_sum.nd
  exact T.fn0 sc__law_sum (fun f cdv A outer s H E hr => (dss_cons (ds_asg (de_tup (da_cons de_int (da_cons de_int da_nil))) (dg_tup rfl (dgs_cons (dg_name (i := 1) nd rfl (by first | exact Or.inl rfl | exact Or.inr rfl)) (dgs_cons (dg_name (i := 2) nd rfl (by first | exact Or.inl rfl | exact Or.inr rfl)) dgs_nil))))
  (dss_cons (ds_for PassesOwn.never rfl (di_seq (de_var 0)) (dg_tup rfl (dgs_cons (dg_name (i := 3) nd rfl (by first | exact Or.inl rfl | exact Or.inr rfl)) (dgs_cons (dg_name (i := 4) nd rfl (by first | exact Or.inl rfl | exact Or.inr rfl)) dgs_nil))) (dss_one (ds_asg (de_call0 F__law_lowest hr (by rfl) (da_cons (de_add (de_mul (de_var 1) (de_var 4)) (de_mul (de_var 3) (de_var 2))) (da_cons (de_mul (de_var 2) (de_var 4)) da_nil))) (dg_tup rfl (dgs_cons (dg_name (i := 1) nd rfl (by first | exact Or.inl rfl | exact Or.inr rfl)) (dgs_cons (dg_name (i := 2) nd rfl (by first | exact Or.inl rfl | exact Or.inr rfl)) dgs_nil))))))
  (dss_one (ds_ret (de_tup (da_cons (de_var 1) (da_cons (de_var 2) da_nil))))))))

theorem v__law_sum : ∀ ds w kx k, sp__law_sum ds w kx k → sem0 5 g__law_sum ds w kx k := by
  rintro ds w kx k ⟨xs, rfl, hS, hk⟩
  have e : rho 5 [D.lst (xs.map fD)] = [some (.lst (xs.map fD)), none, none, none, none] := rfl
  simp only [g__law_sum, e, sp__law_lowest, sem0, List.map_cons, List.map_nil, List.length_cons, List.length_nil, gSeq, gNext, gRet, gRetN, gIfS, gSet, gPar, gAsg, gDrop, gVar, gC, gBin, gUn, gB, gTru, gAnd, gOr, gNot, gAndV, gOrV, gNotV, gIf, gChain, gaNil, gaCons, DL.gTup, gLst, gCB, gCall0, gAug, addD_i, addD_s, addD_l, addD_t, subD_i, mulD_i, mulD_l, fdivD_i, modD_i, powD_i, ltD_i, ltD_s, leD_i, gtD_i, geD_i, isD_n, isnotD_n, isNonD_non, isNonD_bl, isNonD_int, isNonD_str, isNonD_lst, isNonD_tup, negD_i, iaddD_i, truD_non, truD_bl, truD_int, truD_str, truD_lst, truD_tup, someK_some, ixD_l, ixD_t, fAbs_i, fInt_i, fInt_b, fMin2_i, fLen_l, fLen_t, fLen_s, fList_l, fList_t, fTuple_l, fTuple_t, optBK_some, fIsi_non, fIsi_bl, fIsi_int, fIsi_str, fIsi_lst, fIsi_tup, List.getElem?_cons_zero, List.getElem?_cons_succ, List.set_cons_zero, List.set_cons_succ, DL.ggName, ggNil0, ggCons1, ggTup2, ggTup3, gFor, giSeq, gLc, gYes, wipeR, true_and, and_true, at_0, at_1, at_2, kit_int_int, kit_bool_int, kit_str_int, kit_non_int, kit_list_int, kit_tuple_int, kit_int_bool, kit_bool_bool, kit_str_bool, kit_non_bool, kit_list_bool, kit_tuple_bool, kit_int_str, kit_bool_str, kit_str_str, kit_non_str, kit_list_str, kit_tuple_str, kit_int_list, kit_bool_list, kit_str_list, kit_non_list, kit_list_list, kit_tuple_list, kit_int_tuple, kit_bool_tuple, kit_str_tuple, kit_non_tuple, kit_list_tuple, kit_tuple_tuple, eqD_i, neD_i, eqD_s, neD_s, eqD_f, neD_f, Nat.zero_add, Nat.reduceAdd, nc0, nc1, nc2, nc3, nc4, nc5, nc6, nc7, nc8, nc9, eq_self, decide_true, decide_false, Int.reduceEq, Int.reduceLT, Int.reduceLE, Int.reduceNeg, Bool.not_true, Bool.not_false, Bool.false_eq_true, if_true, if_false, ↓reduceIte, false_and, and_false, List.all_cons, List.all_nil, List.any_cons, List.any_nil, id_eq, Bool.and_true, Bool.true_and, Bool.or_false, Bool.false_or, Bool.and_false, Bool.false_and, gCut, eqD_b, neD_b, giZip, reduceCtorEq, Bool.true_eq_false, Bool.false_eq_true, gRevL, gSl, goNone, goSome, slD_l, ne_eq, not_false_eq_true, not_true_eq_false, gBM, isTy_l, isTy_s, new_at, new_set, isTy_new, cellK_new, append_new, popAt_new, gFrz_eq, frzK_new, fLen_new, fTuple_new, ixD_new, slA_l, slA_t, slA_new, addTD_t, addCD_l, mulCD_l, isbD_b, isnotbD_b, mSplitC_s, gLstC, gTr, ggSub, lstK_l, lstK_r, addLD_eq]
  refine ⟨by decide, fun rem ρ w' => w' = w ∧ ∃ ys zs a b, xs = ys ++ zs ∧ rem = zs.map fD ∧ ρ = [some (.lst (xs.map fD)), some (.int (sumQ ys).1), some (.int (sumQ ys).2), a, b], ⟨rfl, [], xs, none, none, rfl, rfl, by rw [sumQ_nil]⟩, ?_, ?_⟩
  · rintro ρ w' ⟨rfl, ys, zs, a, b, e1, e2, rfl⟩
    have : zs = [] := by simpa using e2.symm
    subst this
    rw [List.append_nil] at e1
    subst e1
    refine ⟨trivial, ?_⟩
    simp only [sem0, List.map_cons, List.map_nil, List.length_cons, List.length_nil, gSeq, gNext, gRet, gRetN, gIfS, gSet, gPar, gAsg, gDrop, gVar, gC, gBin, gUn, gB, gTru, gAnd, gOr, gNot, gAndV, gOrV, gNotV, gIf, gChain, gaNil, gaCons, DL.gTup, gLst, gCB, gCall0, gAug, addD_i, addD_s, addD_l, addD_t, subD_i, mulD_i, mulD_l, fdivD_i, modD_i, powD_i, ltD_i, ltD_s, leD_i, gtD_i, geD_i, isD_n, isnotD_n, isNonD_non, isNonD_bl, isNonD_int, isNonD_str, isNonD_lst, isNonD_tup, negD_i, iaddD_i, truD_non, truD_bl, truD_int, truD_str, truD_lst, truD_tup, someK_some, ixD_l, ixD_t, fAbs_i, fInt_i, fInt_b, fMin2_i, fLen_l, fLen_t, fLen_s, fList_l, fList_t, fTuple_l, fTuple_t, optBK_some, fIsi_non, fIsi_bl, fIsi_int, fIsi_str, fIsi_lst, fIsi_tup, List.getElem?_cons_zero, List.getElem?_cons_succ, List.set_cons_zero, List.set_cons_succ, DL.ggName, ggNil0, ggCons1, ggTup2, ggTup3, gFor, giSeq, gLc, gYes, wipeR, true_and, and_true, at_0, at_1, at_2, kit_int_int, kit_bool_int, kit_str_int, kit_non_int, kit_list_int, kit_tuple_int, kit_int_bool, kit_bool_bool, kit_str_bool, kit_non_bool, kit_list_bool, kit_tuple_bool, kit_int_str, kit_bool_str, kit_str_str, kit_non_str, kit_list_str, kit_tuple_str, kit_int_list, kit_bool_list, kit_str_list, kit_non_list, kit_list_list, kit_tuple_list, kit_int_tuple, kit_bool_tuple, kit_str_tuple, kit_non_tuple, kit_list_tuple, kit_tuple_tuple, eqD_i, neD_i, eqD_s, neD_s, eqD_f, neD_f, Nat.zero_add, Nat.reduceAdd, nc0, nc1, nc2, nc3, nc4, nc5, nc6, nc7, nc8, nc9, eq_self, decide_true, decide_false, Int.reduceEq, Int.reduceLT, Int.reduceLE, Int.reduceNeg, Bool.not_true, Bool.not_false, Bool.false_eq_true, if_true, if_false, ↓reduceIte, false_and, and_false, List.all_cons, List.all_nil, List.any_cons, List.any_nil, id_eq, Bool.and_true, Bool.true_and, Bool.or_false, Bool.false_or, Bool.and_false, Bool.false_and, gCut, eqD_b, neD_b, giZip, reduceCtorEq, Bool.true_eq_false, Bool.false_eq_true, gRevL, gSl, goNone, goSome, slD_l, ne_eq, not_false_eq_true, not_true_eq_false, gBM, isTy_l, isTy_s, new_at, new_set, isTy_new, cellK_new, append_new, popAt_new, gFrz_eq, frzK_new, fLen_new, fTuple_new, ixD_new, slA_l, slA_t, slA_new, addTD_t, addCD_l, mulCD_l, isbD_b, isnotbD_b, mSplitC_s, gLstC, gTr, ggSub, lstK_l, lstK_r, addLD_eq]
    exact ⟨by decide, hk⟩
  · rintro x rem ρ w' ⟨rfl, ys, zs, a0, b0, e1, e2, rfl⟩
    cases zs with
    | nil => cases e2
    | cons z zs =>
      rw [List.map_cons] at e2
      injection e2 with e2 e3
      subst e2
      subst e3
      obtain ⟨hy, fz, c, d, ly, lz, hcd⟩ := hS ys z zs e1
      subst e1
      have fy := fr_sum hy
      refine ⟨trivial, ?_⟩
      simp only [ixD_f0, ixD_f1, ggTup_f, fIsi_f, fLen_f, eqD_ff, neD_ff, sem0, List.map_cons, List.map_nil, List.length_cons, List.length_nil, gSeq, gNext, gRet, gRetN, gIfS, gSet, gPar, gAsg, gDrop, gVar, gC, gBin, gUn, gB, gTru, gAnd, gOr, gNot, gAndV, gOrV, gNotV, gIf, gChain, gaNil, gaCons, DL.gTup, gLst, gCB, gCall0, gAug, addD_i, addD_s, addD_l, addD_t, subD_i, mulD_i, mulD_l, fdivD_i, modD_i, powD_i, ltD_i, ltD_s, leD_i, gtD_i, geD_i, isD_n, isnotD_n, isNonD_non, isNonD_bl, isNonD_int, isNonD_str, isNonD_lst, isNonD_tup, negD_i, iaddD_i, truD_non, truD_bl, truD_int, truD_str, truD_lst, truD_tup, someK_some, ixD_l, ixD_t, fAbs_i, fInt_i, fInt_b, fMin2_i, fLen_l, fLen_t, fLen_s, fList_l, fList_t, fTuple_l, fTuple_t, optBK_some, fIsi_non, fIsi_bl, fIsi_int, fIsi_str, fIsi_lst, fIsi_tup, List.getElem?_cons_zero, List.getElem?_cons_succ, List.set_cons_zero, List.set_cons_succ, DL.ggName, ggNil0, ggCons1, ggTup2, ggTup3, gFor, giSeq, gLc, gYes, wipeR, true_and, and_true, at_0, at_1, at_2, kit_int_int, kit_bool_int, kit_str_int, kit_non_int, kit_list_int, kit_tuple_int, kit_int_bool, kit_bool_bool, kit_str_bool, kit_non_bool, kit_list_bool, kit_tuple_bool, kit_int_str, kit_bool_str, kit_str_str, kit_non_str, kit_list_str, kit_tuple_str, kit_int_list, kit_bool_list, kit_str_list, kit_non_list, kit_list_list, kit_tuple_list, kit_int_tuple, kit_bool_tuple, kit_str_tuple, kit_non_tuple, kit_list_tuple, kit_tuple_tuple, eqD_i, neD_i, eqD_s, neD_s, eqD_f, neD_f, Nat.zero_add, Nat.reduceAdd, nc0, nc1, nc2, nc3, nc4, nc5, nc6, nc7, nc8, nc9, eq_self, decide_true, decide_false, Int.reduceEq, Int.reduceLT, Int.reduceLE, Int.reduceNeg, Bool.not_true, Bool.not_false, Bool.false_eq_true, if_true, if_false, ↓reduceIte, false_and, and_false, List.all_cons, List.all_nil, List.any_cons, List.any_nil, id_eq, Bool.and_true, Bool.true_and, Bool.or_false, Bool.false_or, Bool.and_false, Bool.false_and, gCut, eqD_b, neD_b, giZip, reduceCtorEq, Bool.true_eq_false, Bool.false_eq_true, gRevL, gSl, goNone, goSome, slD_l, ne_eq, not_false_eq_true, not_true_eq_false, gBM, isTy_l, isTy_s, new_at, new_set, isTy_new, cellK_new, append_new, popAt_new, gFrz_eq, frzK_new, fLen_new, fTuple_new, ixD_new, slA_l, slA_t, slA_new, addTD_t, addCD_l, mulCD_l, isbD_b, isnotbD_b, mSplitC_s, gLstC, gTr, ggSub, lstK_l, lstK_r, addLD_eq]
      have m1 := mulx_ok ly.1 lz.2 (by omega)
      have m2 := mulx_ok lz.1 ly.2 (by omega)
      have m3 := mulx_ok ly.2 lz.2 (by omega)
      have n0 : (sumQ ys).2 * z.2 ≠ 0 := Int.mul_ne_zero (by have := fy.pos; omega) (by have := fz.pos; omega)
      have b1 := wide_lt ly.1 lz.2
      have b2 := wide_lt lz.1 ly.2
      rw [Nat.add_comm d] at b2
      refine ⟨m1, m2, m3, _, _, rfl, ⟨n0, nat_mono (wide_lt ly.2 lz.2) (by omega), nat_mono (add_lt b1 b2) (by omega)⟩, ?_⟩
      rw [sumQ_snoc hy fz]
      simp only [ixD_f0, ixD_f1, ggTup_f, fIsi_f, fLen_f, eqD_ff, neD_ff, sem0, List.map_cons, List.map_nil, List.length_cons, List.length_nil, gSeq, gNext, gRet, gRetN, gIfS, gSet, gPar, gAsg, gDrop, gVar, gC, gBin, gUn, gB, gTru, gAnd, gOr, gNot, gAndV, gOrV, gNotV, gIf, gChain, gaNil, gaCons, DL.gTup, gLst, gCB, gCall0, gAug, addD_i, addD_s, addD_l, addD_t, subD_i, mulD_i, mulD_l, fdivD_i, modD_i, powD_i, ltD_i, ltD_s, leD_i, gtD_i, geD_i, isD_n, isnotD_n, isNonD_non, isNonD_bl, isNonD_int, isNonD_str, isNonD_lst, isNonD_tup, negD_i, iaddD_i, truD_non, truD_bl, truD_int, truD_str, truD_lst, truD_tup, someK_some, ixD_l, ixD_t, fAbs_i, fInt_i, fInt_b, fMin2_i, fLen_l, fLen_t, fLen_s, fList_l, fList_t, fTuple_l, fTuple_t, optBK_some, fIsi_non, fIsi_bl, fIsi_int, fIsi_str, fIsi_lst, fIsi_tup, List.getElem?_cons_zero, List.getElem?_cons_succ, List.set_cons_zero, List.set_cons_succ, DL.ggName, ggNil0, ggCons1, ggTup2, ggTup3, gFor, giSeq, gLc, gYes, wipeR, true_and, and_true, at_0, at_1, at_2, kit_int_int, kit_bool_int, kit_str_int, kit_non_int, kit_list_int, kit_tuple_int, kit_int_bool, kit_bool_bool, kit_str_bool, kit_non_bool, kit_list_bool, kit_tuple_bool, kit_int_str, kit_bool_str, kit_str_str, kit_non_str, kit_list_str, kit_tuple_str, kit_int_list, kit_bool_list, kit_str_list, kit_non_list, kit_list_list, kit_tuple_list, kit_int_tuple, kit_bool_tuple, kit_str_tuple, kit_non_tuple, kit_list_tuple, kit_tuple_tuple, eqD_i, neD_i, eqD_s, neD_s, eqD_f, neD_f, Nat.zero_add, Nat.reduceAdd, nc0, nc1, nc2, nc3, nc4, nc5, nc6, nc7, nc8, nc9, eq_self, decide_true, decide_false, Int.reduceEq, Int.reduceLT, Int.reduceLE, Int.reduceNeg, Bool.not_true, Bool.not_false, Bool.false_eq_true, if_true, if_false, ↓reduceIte, false_and, and_false, List.all_cons, List.all_nil, List.any_cons, List.any_nil, id_eq, Bool.and_true, Bool.true_and, Bool.or_false, Bool.false_or, Bool.and_false, Bool.false_and, gCut, eqD_b, neD_b, giZip, reduceCtorEq, Bool.true_eq_false, Bool.false_eq_true, gRevL, gSl, goNone, goSome, slD_l, ne_eq, not_false_eq_true, not_true_eq_false, gBM, isTy_l, isTy_s, new_at, new_set, isTy_new, cellK_new, append_new, popAt_new, gFrz_eq, frzK_new, fLen_new, fTuple_new, ixD_new, slA_l, slA_t, slA_new, addTD_t, addCD_l, mulCD_l, isbD_b, isnotbD_b, mSplitC_s, gLstC, gTr, ggSub, lstK_l, lstK_r, addLD_eq]
      exact ⟨ys ++ [z], zs, ⟨_, _, by simp, rfl, rfl⟩⟩
theorem ok__law_sum {P : Program} {w : World} {K : PySem.W.Frag} {mg : Str → Option Value} {base : Heap} (T : DefAt K mg "_law_sum" s__law_sum ["_law_parts"]) (B : Blt mg) (F__law_lowest : FnAt P w K mg base CX0 1 "_law_lowest" 2 sp__law_lowest) : FnAt P w K mg base CX0 2 "_law_sum" 1 sp__law_sum := (w__law_sum T B F__law_lowest).imp v__law_sum


def sp__law_times : GF := fun ds w _ k => ∃ x y : Qp, ds = [fD x, fD y] ∧ (x.2 ≠ 0 ∧ y.2 ≠ 0 ∧ Lt2 1900 x ∧ Lt2 1900 y) ∧ k (fD (mulQ x y)) w
abbrev s__law_times : Stmt := topS 19
theorem sc__law_times : FnScope ["_law_one", "_law_other"] ["_law_one", "_law_other"] (defScope s__law_times) := ⟨rfl, rfl, rfl, by decide +kernel, rfl, by decide +kernel, by decide +kernel⟩
def g__law_times : GS := (gRet (gCall0 2 sp__law_lowest (gaCons (gBin mulD (gBin ixD (gVar 0) (gC (.int 0))) (gBin ixD (gVar 1) (gC (.int 0)))) (gaCons (gBin mulD (gBin ixD (gVar 0) (gC (.int 1))) (gBin ixD (gVar 1) (gC (.int 1)))) gaNil))))
theorem w__law_times {P : Program} {w : World} {K : PySem.W.Frag} {mg : Str → Option Value} {base : Heap} (T : DefAt K mg "_law_times" s__law_times ["_law_one", "_law_other"]) (B : Blt mg) (F__law_lowest : FnAt P w K mg base CX0 1 "_law_lowest" 2 sp__law_lowest) : FnAt P w K mg base CX0 2 "_law_times" 2 (sem0 2 g__law_times) := by
  have nd := sc__law_times.nd
  exact T.fn0 sc__law_times (fun f cdv A outer s H E hr => (dss_one (ds_ret (de_call0 F__law_lowest hr (by rfl) (da_cons (de_mul (de_ix (de_var 0) de_int) (de_ix (de_var 1) de_int)) (da_cons (de_mul (de_ix (de_var 0) de_int) (de_ix (de_var 1) de_int)) da_nil))))))

theorem v__law_times : ∀ ds w kx k, sp__law_times ds w kx k → sem0 2 g__law_times ds w kx k := by
  rintro ds w kx k ⟨x, y, rfl, ⟨hx, hy, lx, ly⟩, hk⟩
  have e : rho 2 [fD x, fD y] = [some (fD x), some (fD y)] := rfl
  simp only [g__law_times, e, sp__law_lowest, ixD_f0, ixD_f1, ggTup_f, fIsi_f, fLen_f, eqD_ff, neD_ff, sem0, List.map_cons, List.map_nil, List.length_cons, List.length_nil, gSeq, gNext, gRet, gRetN, gIfS, gSet, gPar, gAsg, gDrop, gVar, gC, gBin, gUn, gB, gTru, gAnd, gOr, gNot, gAndV, gOrV, gNotV, gIf, gChain, gaNil, gaCons, DL.gTup, gLst, gCB, gCall0, gAug, addD_i, addD_s, addD_l, addD_t, subD_i, mulD_i, mulD_l, fdivD_i, modD_i, powD_i, ltD_i, ltD_s, leD_i, gtD_i, geD_i, isD_n, isnotD_n, isNonD_non, isNonD_bl, isNonD_int, isNonD_str, isNonD_lst, isNonD_tup, negD_i, iaddD_i, truD_non, truD_bl, truD_int, truD_str, truD_lst, truD_tup, someK_some, ixD_l, ixD_t, fAbs_i, fInt_i, fInt_b, fMin2_i, fLen_l, fLen_t, fLen_s, fList_l, fList_t, fTuple_l, fTuple_t, optBK_some, fIsi_non, fIsi_bl, fIsi_int, fIsi_str, fIsi_lst, fIsi_tup, List.getElem?_cons_zero, List.getElem?_cons_succ, List.set_cons_zero, List.set_cons_succ, DL.ggName, ggNil0, ggCons1, ggTup2, ggTup3, gFor, giSeq, gLc, gYes, wipeR, true_and, and_true, at_0, at_1, at_2, kit_int_int, kit_bool_int, kit_str_int, kit_non_int, kit_list_int, kit_tuple_int, kit_int_bool, kit_bool_bool, kit_str_bool, kit_non_bool, kit_list_bool, kit_tuple_bool, kit_int_str, kit_bool_str, kit_str_str, kit_non_str, kit_list_str, kit_tuple_str, kit_int_list, kit_bool_list, kit_str_list, kit_non_list, kit_list_list, kit_tuple_list, kit_int_tuple, kit_bool_tuple, kit_str_tuple, kit_non_tuple, kit_list_tuple, kit_tuple_tuple, eqD_i, neD_i, eqD_s, neD_s, eqD_f, neD_f, Nat.zero_add, Nat.reduceAdd, nc0, nc1, nc2, nc3, nc4, nc5, nc6, nc7, nc8, nc9, eq_self, decide_true, decide_false, Int.reduceEq, Int.reduceLT, Int.reduceLE, Int.reduceNeg, Bool.not_true, Bool.not_false, Bool.false_eq_true, if_true, if_false, ↓reduceIte, false_and, and_false, List.all_cons, List.all_nil, List.any_cons, List.any_nil, id_eq, Bool.and_true, Bool.true_and, Bool.or_false, Bool.false_or, Bool.and_false, Bool.false_and, gCut, eqD_b, neD_b, giZip, reduceCtorEq, Bool.true_eq_false, Bool.false_eq_true, gRevL, gSl, goNone, goSome, slD_l, ne_eq, not_false_eq_true, not_true_eq_false, gBM, isTy_l, isTy_s, new_at, new_set, isTy_new, cellK_new, append_new, popAt_new, gFrz_eq, frzK_new, fLen_new, fTuple_new, ixD_new, slA_l, slA_t, slA_new, addTD_t, addCD_l, mulCD_l, isbD_b, isnotbD_b, mSplitC_s, gLstC, gTr, ggSub, lstK_l, lstK_r, addLD_eq]
  exact ⟨mulx_ok lx.1 ly.1 (by decide), mulx_ok lx.2 ly.2 (by decide), _, _, rfl, ⟨Int.mul_ne_zero hx hy, nat_mono (wide_lt lx.2 ly.2) (by decide), nat_mono (wide_lt lx.1 ly.1) (by decide)⟩, hk⟩
theorem ok__law_times {P : Program} {w : World} {K : PySem.W.Frag} {mg : Str → Option Value} {base : Heap} (T : DefAt K mg "_law_times" s__law_times ["_law_one", "_law_other"]) (B : Blt mg) (F__law_lowest : FnAt P w K mg base CX0 1 "_law_lowest" 2 sp__law_lowest) : FnAt P w K mg base CX0 2 "_law_times" 2 sp__law_times := (w__law_times T B F__law_lowest).imp v__law_times




end LW

namespace LW
open PySem PySem.Spec PyProof.Rows L2 RZ DL

def restLw (rs : List Row) (u : Int) : Qp := if 0 < totR (lenRows rs) then (0, 1) else (lefts rs (rest0 rs u)).2
def dkT (ks : List Str) (T : Told) : List (Key × D) := ks.map fun s => (Sum.inr s, fD (sumQ (nameParts s T)))
structure KeysL (T : Told) (ks : List Str) : Prop where
  nd : ks.Nodup
  mem : ∀ s, s ∈ ks ↔ ∃ p, (s, p) ∈ T ∧ 0 < p.1
def sp__law_parted : GF := fun ds w _ k => ∃ (rs : List Row) (u : Int), ds = [.tup (rs.map rowD), .int u] ∧ RowsOk rs 8 ∧ ∀ ks, KeysL (tellL rs u) ks → ks.length ≤ 8 → k (.tup [.rf (w.M.length + 1), fD (restLw rs u)]) ⟨w.M ++ [PT (tellL rs u), .dk (dkT ks (tellL rs u))], w.n⟩
theorem ofst_snoc (u : Int) (dn : List Row) (a : Row) : (dn ++ [a]).filterMap (ofst u) = dn.filterMap (ofst u) ++ (ofN a).toList ++ (stN u a).toList := by
  rw [List.filterMap_append]
  cases a <;> simp [ofst, ofN, stN]
def partIn (u : Int) (r : Rate) : Bool := match r.1 with
  | none => true
  | some up => decide (u < up)
theorem first_part {u : Int} : ∀ {qs : List Rate}, (∃ q, (none, q) ∈ qs) → ∃ x r, qs.filter (partIn u) = x :: r ∧ x.2 = partAt qs u
  | [], ⟨q, h⟩ => nomatch h
  | (none, p) :: qs, _ => ⟨(none, p), qs.filter (partIn u), by rw [List.filter_cons, if_pos (by rfl)], rfl⟩
  | (some up, p) :: qs, ⟨q, h⟩ => by
    by_cases hu : u < up
    · refine ⟨(some up, p), qs.filter (partIn u), by rw [List.filter_cons, if_pos (show partIn u (some up, p) = true from decide_eq_true hu)], ?_⟩
      show p = if u < up then p else partAt qs u
      rw [if_pos hu]
    · obtain ⟨x, r, h1, h2⟩ := first_part (u := u) (qs := qs) ⟨q, by rcases List.mem_cons.mp h with h | h; cases h; exact h⟩
      refine ⟨x, r, by rw [List.filter_cons, if_neg (show ¬ partIn u (some up, p) = true by rw [show partIn u (some up, p) = decide (u < up) from rfl, decide_eq_false hu]; decide)]; exact h1, ?_⟩
      rw [h2]
      show partAt qs u = if u < up then p else partAt qs u
      rw [if_neg hu]
theorem lefts_other {a : Row} {ts : List Row} {q : Qp} (h : kindS a ≠ "left") : lefts (a :: ts) q = lefts ts q := by
  cases a with
  | left n p => exact absurd rfl h
  | _ => rfl
theorem dkK21 {M : List Cell} {a : Cell} {kvs : List (Key × D)} {n : Option Nat} {f : List (Key × D) → Prop} : dkK (M.length + 1) ⟨M ++ [a, .dk kvs], n⟩ f = f kvs := by
  unfold dkK
  simp only [at21]
theorem dkT_val {T : Told} : ∀ {ks : List Str} {s : Str}, valD (dkT ks T) (Sum.inr s) = if s ∈ ks then some (fD (sumQ (nameParts s T))) else none
  | [], _ => rfl
  | t :: ks, s => by
    show ((List.find? (fun kv => decide (kv.1 = (Sum.inr s : Key))) ((Sum.inr t, fD (sumQ (nameParts t T))) :: dkT ks T)).map (·.2)) = _
    rw [List.find?_cons]
    by_cases h : t = s
    · subst h
      rw [decide_eq_true rfl, if_pos List.mem_cons_self]
      rfl
    · rw [decide_eq_false fun z => h (Sum.inr.inj z)]
      show valD (dkT ks T) (Sum.inr s) = _
      rw [dkT_val]
      by_cases hs : s ∈ ks
      · rw [if_pos hs, if_pos (List.mem_cons_of_mem _ hs)]
      · rw [if_neg hs, if_neg fun z => (List.mem_cons.mp z).elim (fun z => h z.symm) hs]
theorem dkT_get {T : Told} {ks : List Str} {s : Str} (h : KeysL T ks) : (valD (dkT ks T) (Sum.inr s)).getD (.tup [.int 0, .int 1]) = fD (sumQ (nameParts s T)) := by
  rw [dkT_val]
  by_cases hs : s ∈ ks
  · rw [if_pos hs]
    rfl
  · rw [if_neg hs, np_nil fun z => hs ((h.mem s).mpr z), sumQ_nil]
    rfl
theorem dkT_off {T : Told} {ks : List Str} {s : Str} {p : Qp} (h : ¬ 0 < p.1) : dkT ks T = dkT ks (T ++ [(s, p)]) := by
  unfold dkT
  exact List.map_congr_left fun t _ => by rw [np_app, np_off fun z => h z.2, List.append_nil]
theorem dkT_put {T : Told} {ks : List Str} {s : Str} {p : Qp} (h : KeysL T ks) (hp : 0 < p.1) : ∃ ks', putD (dkT ks T) (Sum.inr s) (fD (sumQ (nameParts s (T ++ [(s, p)])))) = dkT ks' (T ++ [(s, p)]) ∧ KeysL (T ++ [(s, p)]) ks' ∧ ks'.length ≤ ks.length + 1 := by
  have any : ((dkT ks T).any fun kv => decide (kv.1 = (Sum.inr s : Key))) = decide (s ∈ ks) := by
    unfold dkT
    rw [List.any_map, Bool.eq_iff_iff, List.any_eq_true, decide_eq_true_eq]
    exact ⟨fun ⟨x, hx, e⟩ => by rw [← Sum.inr.inj (of_decide_eq_true e)]; exact hx, fun z => ⟨s, z, decide_eq_true rfl⟩⟩
  have mem : ∀ ks' : List Str, (∀ t, t ∈ ks' ↔ t ∈ ks ∨ t = s) → ∀ t, t ∈ ks' ↔ ∃ q, (t, q) ∈ T ++ [(s, p)] ∧ 0 < q.1 := fun ks' e t => by
    rw [e t, h.mem t]
    constructor
    · rintro (⟨q, h1, h2⟩ | rfl)
      · exact ⟨q, List.mem_append_left _ h1, h2⟩
      · exact ⟨p, by simp, hp⟩
    · rintro ⟨q, h1, h2⟩
      rcases List.mem_append.mp h1 with h1 | h1
      · exact .inl ⟨q, h1, h2⟩
      · rw [List.mem_singleton] at h1
        cases h1
        exact .inr rfl
  have off : ∀ t, t ≠ s → nameParts t (T ++ [(s, p)]) = nameParts t T := fun t ht => by rw [np_app, np_off fun z => ht z.1.symm, List.append_nil]
  unfold putD
  rw [any]
  by_cases hs : s ∈ ks
  · rw [decide_eq_true hs, if_pos rfl]
    refine ⟨ks, ?_, ⟨h.nd, mem ks fun t => ⟨.inl, fun z => z.elim id fun z => by rw [z]; exact hs⟩⟩, Nat.le_succ _⟩
    unfold dkT
    rw [List.map_map]
    refine List.map_congr_left fun t _ => ?_
    show (if (Sum.inr t : Key) = Sum.inr s then ((Sum.inr t : Key), fD (sumQ (nameParts s (T ++ [(s, p)])))) else (Sum.inr t, fD (sumQ (nameParts t T)))) = _
    by_cases ht : t = s
    · subst ht
      rw [if_pos rfl]
    · rw [if_neg fun z => ht (Sum.inr.inj z), off t ht]
  · rw [decide_eq_false hs, if_neg (by decide)]
    refine ⟨ks ++ [s], ?_, ⟨?_, mem _ fun t => by rw [List.mem_append, List.mem_singleton]⟩, by rw [List.length_append]; exact Nat.le_refl _⟩
    · unfold dkT
      rw [List.map_append]
      congr 1
      exact List.map_congr_left fun t ht => by rw [off t fun z => hs (z ▸ ht)]
    · rw [List.nodup_append]
      refine ⟨h.nd, by simp, fun a ha b hb z => ?_⟩
      have hb : b = s := by simpa using hb
      exact hs (by rw [← hb, ← z]; exact ha)
abbrev s__law_parted : Stmt := topS 24
theorem sc__law_parted : FnScope ["_law_rows_here", "_law_unit", "_law_told", "_law_lengths", "_law_row_here", "_law_left", "_law_found", "_law_name", "_law_part_here", "_law_upto"] ["_law_rows_here", "_law_unit"] (defScope s__law_parted) := ⟨rfl, rfl, rfl, by decide +kernel, rfl, by decide +kernel, by decide +kernel⟩
def g__law_parted : GS := (gSeq (gSet 2 (gLstC gaNil))
  (gSeq (gSet 3 (gCB fSum (gaCons (gLc (giSeq (gVar 0)) (ggName 4) (gB (gBin eqD (gBin ixD (gVar 4) (gC (.int 0))) (gC (.str "length")))) (gBin ixD (gVar 4) (gC (.int 2))) [4]) gaNil)))
  (gSeq (gFor (giSeq (gVar 0)) (ggName 4) (gCut (gIfS (gB (gBin eqD (gBin ixD (gVar 4) (gC (.int 0))) (gC (.str "of")))) (gDrop (gBM "list" mAppend (gVar 2) (gaCons (gTup (gaCons (gBin ixD (gVar 4) (gC (.int 1))) (gaCons (gBin ixD (gVar 4) (gC (.int 2))) gaNil))) gaNil))) gNext)
  (gIfS (gB (gBin eqD (gBin ixD (gVar 4) (gC (.int 0))) (gC (.str "steps")))) (gDrop (gBM "list" mAppend (gVar 2) (gaCons (gTup (gaCons (gBin ixD (gVar 4) (gC (.int 1))) (gaCons (gBin ixD (gLc (giSeq (gBin ixD (gVar 4) (gC (.int 2)))) (ggTup 2 (ggCons (ggName 9) (ggCons (ggName 8) ggNil))) (gOr (gB (gBin isD (gVar 9) (gC .non))) (gB (gBin ltD (gVar 1) (gVar 9)))) (gVar 8) [9, 8]) (gC (.int 0))) gaNil))) gaNil))) gNext)))
  (gSeq (gSet 5 (gCall0 1 sp__law_sum (gaCons (gBin addD (gLst (gaCons (gTup (gaCons (gC (.int 1)) (gaCons (gC (.int 1)) gaNil))) gaNil)) (gLc (giSeq (gVar 2)) (ggTup 2 (ggCons (ggName 7) (ggCons (ggName 8) ggNil))) gYes (gTup (gaCons (gUn negD (gBin ixD (gVar 8) (gC (.int 0)))) (gaCons (gBin ixD (gVar 8) (gC (.int 1))) gaNil))) [7, 8])) gaNil)))
  (gSeq (gFor (giSeq (gVar 0)) (ggName 4) (gIfS (gB (gBin eqD (gBin ixD (gVar 4) (gC (.int 0))) (gC (.str "left")))) (gSeq (gDrop (gBM "list" mAppend (gVar 2) (gaCons (gTup (gaCons (gBin ixD (gVar 4) (gC (.int 1))) (gaCons (gCall0 2 sp__law_times (gaCons (gVar 5) (gaCons (gBin ixD (gVar 4) (gC (.int 2))) gaNil))) gaNil))) gaNil)))
  (gSet 5 (gCall0 1 sp__law_sum (gaCons (gLst (gaCons (gVar 5) (gaCons (gTup (gaCons (gUn negD (gBin ixD (gBin ixD (gBin ixD (gVar 2) (gUn negD (gC (.int 1)))) (gC (.int 1))) (gC (.int 0)))) (gaCons (gBin ixD (gBin ixD (gBin ixD (gVar 2) (gUn negD (gC (.int 1)))) (gC (.int 1))) (gC (.int 1))) gaNil))) gaNil))) gaNil)))) gNext))
  (gSeq (gFor (giSeq (gVar 0)) (ggName 4) (gIfS (gB (gBin eqD (gBin ixD (gVar 4) (gC (.int 0))) (gC (.str "length")))) (gDrop (gBM "list" mAppend (gVar 2) (gaCons (gTup (gaCons (gBin ixD (gVar 4) (gC (.int 1))) (gaCons (gCall0 2 sp__law_times (gaCons (gVar 5) (gaCons (gTup (gaCons (gBin ixD (gVar 4) (gC (.int 2))) (gaCons (gVar 3) gaNil))) gaNil))) gaNil))) gaNil))) gNext))
  (gSeq (gSet 6 gDNew)
  (gSeq (gFor (giSeq (gVar 2)) (ggTup 2 (ggCons (ggName 7) (ggCons (ggName 8) ggNil))) (gIfS (gB (gBin gtD (gBin ixD (gVar 8) (gC (.int 0))) (gC (.int 0)))) (gAsg (gCall0 1 sp__law_sum (gaCons (gLst (gaCons (gDGet2 (gVar 6) (gVar 7) (gTup (gaCons (gC (.int 0)) (gaCons (gC (.int 1)) gaNil)))) (gaCons (gVar 8) gaNil))) gaNil)) (ggDPut (gVar 6) (gVar 7))) gNext))
  (gRet (gTup (gaCons (gVar 6) (gaCons (gIf (gB (gBin gtD (gVar 3) (gC (.int 0)))) (gTup (gaCons (gC (.int 0)) (gaCons (gC (.int 1)) gaNil))) (gVar 5)) gaNil))))))))))))
theorem w__law_parted {P : Program} {w : World} {K : PySem.W.Frag} {mg : Str → Option Value} {base : Heap} (T : DefAt K mg "_law_parted" s__law_parted ["_law_rows_here", "_law_unit"]) (B : Blt mg) (F__law_sum : FnAt P w K mg base CX0 2 "_law_sum" 1 sp__law_sum) (F__law_times : FnAt P w K mg base CX0 2 "_law_times" 2 sp__law_times) : FnAt P w K mg base CX0 3 "_law_parted" 2 (sem0 10 g__law_parted) := by
  have nd := sc__law_parted.nd
  exact T.fn0 sc__law_parted (fun f cdv A outer s H E hr => (dss_cons (ds_set (i := 2) nd rfl (by first | exact Or.inl rfl | exact Or.inr rfl) (de_lstC da_nil))
  (dss_cons (ds_set (i := 3) nd rfl (by first | exact Or.inl rfl | exact Or.inr rfl) (de_sum B rfl (by rfl) (da_cons (de_lc (own := [("_law_row_here", 4)]) (us := [4]) rfl nd (di_seq (de_var 0)) (blkOk_by (N := ["_law_rows_here", "_law_unit", "_law_told", "_law_lengths", "_law_row_here", "_law_left", "_law_found", "_law_name", "_law_part_here", "_law_upto"]) (sc := defScope s__law_parted) (by decide +kernel)) (by decide) (fun _ _ _ _ _ => (dg_name (i := 4) nd rfl (by first | exact Or.inl rfl | exact Or.inr rfl))) (fun _ _ _ _ _ => (dts_one (dt_eq hr (de_ix (de_var 4) de_int) de_str))) (fun _ _ _ _ _ => (de_ix (de_var 4) de_int))) da_nil)))
  (dss_cons (ds_for PassesOwn.never rfl (di_seq (de_var 0)) (dg_name (i := 4) nd rfl (by first | exact Or.inl rfl | exact Or.inr rfl)) (dss_cut (ds_if (dt_eq hr (de_ix (de_var 4) de_int) de_str) (dss_one (ds_expr (de_bm PySem.F.plainAttrs_list PySem.F.slot_list_append (by rfl) mt_append ok_append (de_var 2) (da_cons (de_tup (da_cons (de_ix (de_var 4) de_int) (da_cons (de_ix (de_var 4) de_int) da_nil))) da_nil) (by rfl) (by rfl) (by rfl) (by rfl) (by rfl)))) dss_nil)
  (dss_one (ds_if (dt_eq hr (de_ix (de_var 4) de_int) de_str) (dss_one (ds_expr (de_bm PySem.F.plainAttrs_list PySem.F.slot_list_append (by rfl) mt_append ok_append (de_var 2) (da_cons (de_tup (da_cons (de_ix (de_var 4) de_int) (da_cons (de_ix (de_lc (own := [("_law_upto", 9), ("_law_part_here", 8)]) (us := [9, 8]) rfl nd (di_seq (de_ix (de_var 4) de_int)) (blkOk_by (N := ["_law_rows_here", "_law_unit", "_law_told", "_law_lengths", "_law_row_here", "_law_left", "_law_found", "_law_name", "_law_part_here", "_law_upto"]) (sc := defScope s__law_parted) (by decide +kernel)) (by decide) (fun _ _ _ _ _ => (dg_tup rfl (dgs_cons (dg_name (i := 9) nd rfl (by first | exact Or.inl rfl | exact Or.inr rfl)) (dgs_cons (dg_name (i := 8) nd rfl (by first | exact Or.inl rfl | exact Or.inr rfl)) dgs_nil)))) (fun _ _ _ _ _ => (dts_one (dt_w (dw_or (dt_is (de_var 9) de_non) (dw_or1 (dt_lt (de_var 1) (de_var 9))))))) (fun _ _ _ _ _ => (de_var 8))) de_int) da_nil))) da_nil) (by rfl) (by rfl) (by rfl) (by rfl) (by rfl)))) dss_nil))))
  (dss_cons (ds_set (i := 5) nd rfl (by first | exact Or.inl rfl | exact Or.inr rfl) (de_call0 F__law_sum hr (by rfl) (da_cons (de_add (de_lst (da_cons (de_tup (da_cons de_int (da_cons de_int da_nil))) da_nil)) (de_lc (own := [("_law_name", 7), ("_law_part_here", 8)]) (us := [7, 8]) rfl nd (di_seq (de_var 2)) (blkOk_by (N := ["_law_rows_here", "_law_unit", "_law_told", "_law_lengths", "_law_row_here", "_law_left", "_law_found", "_law_name", "_law_part_here", "_law_upto"]) (sc := defScope s__law_parted) (by decide +kernel)) (by decide) (fun _ _ _ _ _ => (dg_tup rfl (dgs_cons (dg_name (i := 7) nd rfl (by first | exact Or.inl rfl | exact Or.inr rfl)) (dgs_cons (dg_name (i := 8) nd rfl (by first | exact Or.inl rfl | exact Or.inr rfl)) dgs_nil)))) (fun _ _ _ _ _ => dts_nil) (fun _ _ _ _ _ => (de_tup (da_cons (de_neg (de_ix (de_var 8) de_int)) (da_cons (de_ix (de_var 8) de_int) da_nil)))))) da_nil)))
  (dss_cons (ds_for PassesOwn.never rfl (di_seq (de_var 0)) (dg_name (i := 4) nd rfl (by first | exact Or.inl rfl | exact Or.inr rfl)) (dss_one (ds_if (dt_eq hr (de_ix (de_var 4) de_int) de_str) (dss_cons (ds_expr (de_bm PySem.F.plainAttrs_list PySem.F.slot_list_append (by rfl) mt_append ok_append (de_var 2) (da_cons (de_tup (da_cons (de_ix (de_var 4) de_int) (da_cons (de_call0 F__law_times hr (by rfl) (da_cons (de_var 5) (da_cons (de_ix (de_var 4) de_int) da_nil))) da_nil))) da_nil) (by rfl) (by rfl) (by rfl) (by rfl) (by rfl)))
  (dss_one (ds_set (i := 5) nd rfl (by first | exact Or.inl rfl | exact Or.inr rfl) (de_call0 F__law_sum hr (by rfl) (da_cons (de_lst (da_cons (de_var 5) (da_cons (de_tup (da_cons (de_neg (de_ix (de_ix (de_ix (de_var 2) (de_neg de_int)) de_int) de_int)) (da_cons (de_ix (de_ix (de_ix (de_var 2) (de_neg de_int)) de_int) de_int) da_nil))) da_nil))) da_nil))))) dss_nil)))
  (dss_cons (ds_for PassesOwn.never rfl (di_seq (de_var 0)) (dg_name (i := 4) nd rfl (by first | exact Or.inl rfl | exact Or.inr rfl)) (dss_one (ds_if (dt_eq hr (de_ix (de_var 4) de_int) de_str) (dss_one (ds_expr (de_bm PySem.F.plainAttrs_list PySem.F.slot_list_append (by rfl) mt_append ok_append (de_var 2) (da_cons (de_tup (da_cons (de_ix (de_var 4) de_int) (da_cons (de_call0 F__law_times hr (by rfl) (da_cons (de_var 5) (da_cons (de_tup (da_cons (de_ix (de_var 4) de_int) (da_cons (de_var 3) da_nil))) da_nil))) da_nil))) da_nil) (by rfl) (by rfl) (by rfl) (by rfl) (by rfl)))) dss_nil)))
  (dss_cons (ds_set (i := 6) nd rfl (by first | exact Or.inl rfl | exact Or.inr rfl) de_dnew)
  (dss_cons (ds_for PassesOwn.never rfl (di_seq (de_var 2)) (dg_tup rfl (dgs_cons (dg_name (i := 7) nd rfl (by first | exact Or.inl rfl | exact Or.inr rfl)) (dgs_cons (dg_name (i := 8) nd rfl (by first | exact Or.inl rfl | exact Or.inr rfl)) dgs_nil))) (dss_one (ds_if (dt_gt (de_ix (de_var 8) de_int) de_int) (dss_one (ds_asg (de_call0 F__law_sum hr (by rfl) (da_cons (de_lst (da_cons (de_dget2 (hu_of hr) (de_var 6) (de_var 7) (de_tup (da_cons de_int (da_cons de_int da_nil)))) (da_cons (de_var 8) da_nil))) da_nil)) (dg_dput (E := E0) (hu_of hr) (de_var 6) (de_var 7)))) dss_nil)))
  (dss_one (ds_ret (de_tup (da_cons (de_var 6) (da_cons (de_ifExp (dt_gt (de_var 3) de_int) (de_tup (da_cons de_int (da_cons de_int da_nil))) (de_var 5)) da_nil))))))))))))))

theorem v__law_parted : ∀ ds w kx k, sp__law_parted ds w kx k → sem0 10 g__law_parted ds w kx k := by
  rintro ds w kx k ⟨rs, u, rfl, ⟨hl, hr⟩, hk⟩
  have e : rho 10 [D.tup (rs.map rowD), D.int u] = [some (.tup (rs.map rowD)), some (.int u), none, none, none, none, none, none, none, none] := rfl
  simp only [g__law_parted, e, gDNew, sem0, List.map_cons, List.map_nil, List.length_cons, List.length_nil, gSeq, gNext, gRet, gRetN, gIfS, gSet, gPar, gAsg, gDrop, gVar, gC, gBin, gUn, gB, gTru, gAnd, gOr, gNot, gAndV, gOrV, gNotV, gIf, gChain, gaNil, gaCons, DL.gTup, gLst, gCB, gCall0, gAug, addD_i, addD_s, addD_l, addD_t, subD_i, mulD_i, mulD_l, fdivD_i, modD_i, powD_i, ltD_i, ltD_s, leD_i, gtD_i, geD_i, isD_n, isnotD_n, isNonD_non, isNonD_bl, isNonD_int, isNonD_str, isNonD_lst, isNonD_tup, negD_i, iaddD_i, truD_non, truD_bl, truD_int, truD_str, truD_lst, truD_tup, someK_some, ixD_l, ixD_t, fAbs_i, fInt_i, fInt_b, fMin2_i, fLen_l, fLen_t, fLen_s, fList_l, fList_t, fTuple_l, fTuple_t, optBK_some, fIsi_non, fIsi_bl, fIsi_int, fIsi_str, fIsi_lst, fIsi_tup, List.getElem?_cons_zero, List.getElem?_cons_succ, List.set_cons_zero, List.set_cons_succ, DL.ggName, ggNil0, ggCons1, ggTup2, ggTup3, gFor, giSeq, gLc, gYes, wipeR, true_and, and_true, at_0, at_1, at_2, kit_int_int, kit_bool_int, kit_str_int, kit_non_int, kit_list_int, kit_tuple_int, kit_int_bool, kit_bool_bool, kit_str_bool, kit_non_bool, kit_list_bool, kit_tuple_bool, kit_int_str, kit_bool_str, kit_str_str, kit_non_str, kit_list_str, kit_tuple_str, kit_int_list, kit_bool_list, kit_str_list, kit_non_list, kit_list_list, kit_tuple_list, kit_int_tuple, kit_bool_tuple, kit_str_tuple, kit_non_tuple, kit_list_tuple, kit_tuple_tuple, eqD_i, neD_i, eqD_s, neD_s, eqD_f, neD_f, Nat.zero_add, Nat.reduceAdd, nc0, nc1, nc2, nc3, nc4, nc5, nc6, nc7, nc8, nc9, eq_self, decide_true, decide_false, Int.reduceEq, Int.reduceLT, Int.reduceLE, Int.reduceNeg, Bool.not_true, Bool.not_false, Bool.false_eq_true, if_true, if_false, ↓reduceIte, false_and, and_false, List.all_cons, List.all_nil, List.any_cons, List.any_nil, id_eq, Bool.and_true, Bool.true_and, Bool.or_false, Bool.false_or, Bool.and_false, Bool.false_and, gCut, eqD_b, neD_b, giZip, reduceCtorEq, Bool.true_eq_false, Bool.false_eq_true, gRevL, gSl, goNone, goSome, slD_l, ne_eq, not_false_eq_true, not_true_eq_false, gBM, isTy_l, isTy_s, new_at, new_set, isTy_new, cellK_new, append_new, popAt_new, gFrz_eq, frzK_new, fLen_new, fTuple_new, ixD_new, slA_l, slA_t, slA_new, addTD_t, addCD_l, mulCD_l, isbD_b, isnotbD_b, mSplitC_s, gLstC, gTr, ggSub, lstK_l, lstK_r, addLD_eq]
  refine ⟨by decide, lc_tyf rowD (fun r => .int (lenR r)) (fun r => decide (kindS r = "length")) rs trivial (by omega) (fun a ha A B h1 h2 => ?_) ?_⟩
  · simp only [row0, sem0, List.map_cons, List.map_nil, List.length_cons, List.length_nil, gSeq, gNext, gRet, gRetN, gIfS, gSet, gPar, gAsg, gDrop, gVar, gC, gBin, gUn, gB, gTru, gAnd, gOr, gNot, gAndV, gOrV, gNotV, gIf, gChain, gaNil, gaCons, DL.gTup, gLst, gCB, gCall0, gAug, addD_i, addD_s, addD_l, addD_t, subD_i, mulD_i, mulD_l, fdivD_i, modD_i, powD_i, ltD_i, ltD_s, leD_i, gtD_i, geD_i, isD_n, isnotD_n, isNonD_non, isNonD_bl, isNonD_int, isNonD_str, isNonD_lst, isNonD_tup, negD_i, iaddD_i, truD_non, truD_bl, truD_int, truD_str, truD_lst, truD_tup, someK_some, ixD_l, ixD_t, fAbs_i, fInt_i, fInt_b, fMin2_i, fLen_l, fLen_t, fLen_s, fList_l, fList_t, fTuple_l, fTuple_t, optBK_some, fIsi_non, fIsi_bl, fIsi_int, fIsi_str, fIsi_lst, fIsi_tup, List.getElem?_cons_zero, List.getElem?_cons_succ, List.set_cons_zero, List.set_cons_succ, DL.ggName, ggNil0, ggCons1, ggTup2, ggTup3, gFor, giSeq, gLc, gYes, wipeR, true_and, and_true, at_0, at_1, at_2, kit_int_int, kit_bool_int, kit_str_int, kit_non_int, kit_list_int, kit_tuple_int, kit_int_bool, kit_bool_bool, kit_str_bool, kit_non_bool, kit_list_bool, kit_tuple_bool, kit_int_str, kit_bool_str, kit_str_str, kit_non_str, kit_list_str, kit_tuple_str, kit_int_list, kit_bool_list, kit_str_list, kit_non_list, kit_list_list, kit_tuple_list, kit_int_tuple, kit_bool_tuple, kit_str_tuple, kit_non_tuple, kit_list_tuple, kit_tuple_tuple, eqD_i, neD_i, eqD_s, neD_s, eqD_f, neD_f, Nat.zero_add, Nat.reduceAdd, nc0, nc1, nc2, nc3, nc4, nc5, nc6, nc7, nc8, nc9, eq_self, decide_true, decide_false, Int.reduceEq, Int.reduceLT, Int.reduceLE, Int.reduceNeg, Bool.not_true, Bool.not_false, Bool.false_eq_true, if_true, if_false, ↓reduceIte, false_and, and_false, List.all_cons, List.all_nil, List.any_cons, List.any_nil, id_eq, Bool.and_true, Bool.true_and, Bool.or_false, Bool.false_or, Bool.and_false, Bool.false_and, gCut, eqD_b, neD_b, giZip, reduceCtorEq, Bool.true_eq_false, Bool.false_eq_true, gRevL, gSl, goNone, goSome, slD_l, ne_eq, not_false_eq_true, not_true_eq_false, gBM, isTy_l, isTy_s, new_at, new_set, isTy_new, cellK_new, append_new, popAt_new, gFrz_eq, frzK_new, fLen_new, fTuple_new, ixD_new, slA_l, slA_t, slA_new, addTD_t, addCD_l, mulCD_l, isbD_b, isnotbD_b, mSplitC_s, gLstC, gTr, ggSub, lstK_l, lstK_r, addLD_eq]
    refine ite2 (fun h => ?_) (fun h => h2 (by simpa using h))
    have hk1 := of_decide_eq_true h
    obtain ⟨s, m, rfl⟩ := kind_len hk1
    exact h1 h
  have em : ((rs.filter fun r => decide (kindS r = "length")).map fun r => D.int (lenR r)) = ((lenRows rs).map lenR).map D.int := by rw [List.map_map]; rfl
  rw [em, fSum_m]
  refine ⟨fun rem ρ w' => ∃ (dn ts : List Row) (x4 : Option D), rs = dn ++ ts ∧ rem = ts.map rowD ∧ ρ = [some (.tup (rs.map rowD)), some (.int u), some (.rf w.M.length), some (.int (totR (lenRows rs))), x4, none, none, none, none, none] ∧ w' = ⟨w.M ++ [PT (dn.filterMap (ofst u))], w.n⟩, ⟨[], rs, none, rfl, rfl, rfl, rfl⟩, ?_, ?_⟩
  rotate_left
  · rintro z xs ρ w' ⟨dn, ts, x4, h1, h2, rfl, rfl⟩
    cases ts with
    | nil => cases h2
    | cons a ts =>
      rw [List.map_cons] at h2
      injection h2 with h2 h2'
      subst h2
      subst h2'
      have hra := hr a (by rw [h1]; simp)
      have hdl : (dn.filterMap (ofst u)).length ≤ 8 := by
        have := List.length_filterMap_le (ofst u) dn
        have : dn.length ≤ rs.length := by rw [h1]; simp
        omega
      refine ⟨trivial, ?_⟩
      simp only [row0, PT, sem0, List.map_cons, List.map_nil, List.length_cons, List.length_nil, gSeq, gNext, gRet, gRetN, gIfS, gSet, gPar, gAsg, gDrop, gVar, gC, gBin, gUn, gB, gTru, gAnd, gOr, gNot, gAndV, gOrV, gNotV, gIf, gChain, gaNil, gaCons, DL.gTup, gLst, gCB, gCall0, gAug, addD_i, addD_s, addD_l, addD_t, subD_i, mulD_i, mulD_l, fdivD_i, modD_i, powD_i, ltD_i, ltD_s, leD_i, gtD_i, geD_i, isD_n, isnotD_n, isNonD_non, isNonD_bl, isNonD_int, isNonD_str, isNonD_lst, isNonD_tup, negD_i, iaddD_i, truD_non, truD_bl, truD_int, truD_str, truD_lst, truD_tup, someK_some, ixD_l, ixD_t, fAbs_i, fInt_i, fInt_b, fMin2_i, fLen_l, fLen_t, fLen_s, fList_l, fList_t, fTuple_l, fTuple_t, optBK_some, fIsi_non, fIsi_bl, fIsi_int, fIsi_str, fIsi_lst, fIsi_tup, List.getElem?_cons_zero, List.getElem?_cons_succ, List.set_cons_zero, List.set_cons_succ, DL.ggName, ggNil0, ggCons1, ggTup2, ggTup3, gFor, giSeq, gLc, gYes, wipeR, true_and, and_true, at_0, at_1, at_2, kit_int_int, kit_bool_int, kit_str_int, kit_non_int, kit_list_int, kit_tuple_int, kit_int_bool, kit_bool_bool, kit_str_bool, kit_non_bool, kit_list_bool, kit_tuple_bool, kit_int_str, kit_bool_str, kit_str_str, kit_non_str, kit_list_str, kit_tuple_str, kit_int_list, kit_bool_list, kit_str_list, kit_non_list, kit_list_list, kit_tuple_list, kit_int_tuple, kit_bool_tuple, kit_str_tuple, kit_non_tuple, kit_list_tuple, kit_tuple_tuple, eqD_i, neD_i, eqD_s, neD_s, eqD_f, neD_f, Nat.zero_add, Nat.reduceAdd, nc0, nc1, nc2, nc3, nc4, nc5, nc6, nc7, nc8, nc9, eq_self, decide_true, decide_false, Int.reduceEq, Int.reduceLT, Int.reduceLE, Int.reduceNeg, Bool.not_true, Bool.not_false, Bool.false_eq_true, if_true, if_false, ↓reduceIte, false_and, and_false, List.all_cons, List.all_nil, List.any_cons, List.any_nil, id_eq, Bool.and_true, Bool.true_and, Bool.or_false, Bool.false_or, Bool.and_false, Bool.false_and, gCut, eqD_b, neD_b, giZip, reduceCtorEq, Bool.true_eq_false, Bool.false_eq_true, gRevL, gSl, goNone, goSome, slD_l, ne_eq, not_false_eq_true, not_true_eq_false, gBM, isTy_l, isTy_s, new_at, new_set, isTy_new, cellK_new, append_new, popAt_new, gFrz_eq, frzK_new, fLen_new, fTuple_new, ixD_new, slA_l, slA_t, slA_new, addTD_t, addCD_l, mulCD_l, isbD_b, isnotbD_b, mSplitC_s, gLstC, gTr, ggSub, lstK_l, lstK_r, addLD_eq]
      refine ⟨fun ρ w' => ρ = [some (.tup (rs.map rowD)), some (.int u), some (.rf w.M.length), some (.int (totR (lenRows rs))), some (rowD a), none, none, none, none, none] ∧ w' = ⟨w.M ++ [PT (dn.filterMap (ofst u) ++ (ofN a).toList)], w.n⟩, ite2 (fun h => ?_) (fun h => ?_), ?_⟩
      · obtain ⟨n, p, rfl⟩ := kind_of (of_decide_eq_true h)
        simp only [row1_of, row2_of, sem0, List.map_cons, List.map_nil, List.length_cons, List.length_nil, gSeq, gNext, gRet, gRetN, gIfS, gSet, gPar, gAsg, gDrop, gVar, gC, gBin, gUn, gB, gTru, gAnd, gOr, gNot, gAndV, gOrV, gNotV, gIf, gChain, gaNil, gaCons, DL.gTup, gLst, gCB, gCall0, gAug, addD_i, addD_s, addD_l, addD_t, subD_i, mulD_i, mulD_l, fdivD_i, modD_i, powD_i, ltD_i, ltD_s, leD_i, gtD_i, geD_i, isD_n, isnotD_n, isNonD_non, isNonD_bl, isNonD_int, isNonD_str, isNonD_lst, isNonD_tup, negD_i, iaddD_i, truD_non, truD_bl, truD_int, truD_str, truD_lst, truD_tup, someK_some, ixD_l, ixD_t, fAbs_i, fInt_i, fInt_b, fMin2_i, fLen_l, fLen_t, fLen_s, fList_l, fList_t, fTuple_l, fTuple_t, optBK_some, fIsi_non, fIsi_bl, fIsi_int, fIsi_str, fIsi_lst, fIsi_tup, List.getElem?_cons_zero, List.getElem?_cons_succ, List.set_cons_zero, List.set_cons_succ, DL.ggName, ggNil0, ggCons1, ggTup2, ggTup3, gFor, giSeq, gLc, gYes, wipeR, true_and, and_true, at_0, at_1, at_2, kit_int_int, kit_bool_int, kit_str_int, kit_non_int, kit_list_int, kit_tuple_int, kit_int_bool, kit_bool_bool, kit_str_bool, kit_non_bool, kit_list_bool, kit_tuple_bool, kit_int_str, kit_bool_str, kit_str_str, kit_non_str, kit_list_str, kit_tuple_str, kit_int_list, kit_bool_list, kit_str_list, kit_non_list, kit_list_list, kit_tuple_list, kit_int_tuple, kit_bool_tuple, kit_str_tuple, kit_non_tuple, kit_list_tuple, kit_tuple_tuple, eqD_i, neD_i, eqD_s, neD_s, eqD_f, neD_f, Nat.zero_add, Nat.reduceAdd, nc0, nc1, nc2, nc3, nc4, nc5, nc6, nc7, nc8, nc9, eq_self, decide_true, decide_false, Int.reduceEq, Int.reduceLT, Int.reduceLE, Int.reduceNeg, Bool.not_true, Bool.not_false, Bool.false_eq_true, if_true, if_false, ↓reduceIte, false_and, and_false, List.all_cons, List.all_nil, List.any_cons, List.any_nil, id_eq, Bool.and_true, Bool.true_and, Bool.or_false, Bool.false_or, Bool.and_false, Bool.false_and, gCut, eqD_b, neD_b, giZip, reduceCtorEq, Bool.true_eq_false, Bool.false_eq_true, gRevL, gSl, goNone, goSome, slD_l, ne_eq, not_false_eq_true, not_true_eq_false, gBM, isTy_l, isTy_s, new_at, new_set, isTy_new, cellK_new, append_new, popAt_new, gFrz_eq, frzK_new, fLen_new, fTuple_new, ixD_new, slA_l, slA_t, slA_new, addTD_t, addCD_l, mulCD_l, isbD_b, isnotbD_b, mSplitC_s, gLstC, gTr, ggSub, lstK_l, lstK_r, addLD_eq]
        refine ⟨by decide, lt_sl (by rw [List.length_map]; omega), ?_⟩
        show (⟨w.M ++ [Cell.lst _], w.n⟩ : Wd) = ⟨w.M ++ [Cell.lst ((_ ++ [(n, p)]).map pairD)], w.n⟩
        rw [List.map_append]
        rfl
      · refine ⟨rfl, ?_⟩
        have : (ofN a).toList = [] := by
          cases a with
          | of n p => exact absurd (show decide (("of" : Str) = "of") = true by decide +kernel) h
          | _ => rfl
        rw [this, List.append_nil]
        rfl
      · rintro ρ w' ⟨rfl, rfl⟩
        simp only [row0, PT, sem0, List.map_cons, List.map_nil, List.length_cons, List.length_nil, gSeq, gNext, gRet, gRetN, gIfS, gSet, gPar, gAsg, gDrop, gVar, gC, gBin, gUn, gB, gTru, gAnd, gOr, gNot, gAndV, gOrV, gNotV, gIf, gChain, gaNil, gaCons, DL.gTup, gLst, gCB, gCall0, gAug, addD_i, addD_s, addD_l, addD_t, subD_i, mulD_i, mulD_l, fdivD_i, modD_i, powD_i, ltD_i, ltD_s, leD_i, gtD_i, geD_i, isD_n, isnotD_n, isNonD_non, isNonD_bl, isNonD_int, isNonD_str, isNonD_lst, isNonD_tup, negD_i, iaddD_i, truD_non, truD_bl, truD_int, truD_str, truD_lst, truD_tup, someK_some, ixD_l, ixD_t, fAbs_i, fInt_i, fInt_b, fMin2_i, fLen_l, fLen_t, fLen_s, fList_l, fList_t, fTuple_l, fTuple_t, optBK_some, fIsi_non, fIsi_bl, fIsi_int, fIsi_str, fIsi_lst, fIsi_tup, List.getElem?_cons_zero, List.getElem?_cons_succ, List.set_cons_zero, List.set_cons_succ, DL.ggName, ggNil0, ggCons1, ggTup2, ggTup3, gFor, giSeq, gLc, gYes, wipeR, true_and, and_true, at_0, at_1, at_2, kit_int_int, kit_bool_int, kit_str_int, kit_non_int, kit_list_int, kit_tuple_int, kit_int_bool, kit_bool_bool, kit_str_bool, kit_non_bool, kit_list_bool, kit_tuple_bool, kit_int_str, kit_bool_str, kit_str_str, kit_non_str, kit_list_str, kit_tuple_str, kit_int_list, kit_bool_list, kit_str_list, kit_non_list, kit_list_list, kit_tuple_list, kit_int_tuple, kit_bool_tuple, kit_str_tuple, kit_non_tuple, kit_list_tuple, kit_tuple_tuple, eqD_i, neD_i, eqD_s, neD_s, eqD_f, neD_f, Nat.zero_add, Nat.reduceAdd, nc0, nc1, nc2, nc3, nc4, nc5, nc6, nc7, nc8, nc9, eq_self, decide_true, decide_false, Int.reduceEq, Int.reduceLT, Int.reduceLE, Int.reduceNeg, Bool.not_true, Bool.not_false, Bool.false_eq_true, if_true, if_false, ↓reduceIte, false_and, and_false, List.all_cons, List.all_nil, List.any_cons, List.any_nil, id_eq, Bool.and_true, Bool.true_and, Bool.or_false, Bool.false_or, Bool.and_false, Bool.false_and, gCut, eqD_b, neD_b, giZip, reduceCtorEq, Bool.true_eq_false, Bool.false_eq_true, gRevL, gSl, goNone, goSome, slD_l, ne_eq, not_false_eq_true, not_true_eq_false, gBM, isTy_l, isTy_s, new_at, new_set, isTy_new, cellK_new, append_new, popAt_new, gFrz_eq, frzK_new, fLen_new, fTuple_new, ixD_new, slA_l, slA_t, slA_new, addTD_t, addCD_l, mulCD_l, isbD_b, isnotbD_b, mSplitC_s, gLstC, gTr, ggSub, lstK_l, lstK_r, addLD_eq]
        have fin : ∀ T : Told, T = (dn ++ [a]).filterMap (ofst u) → ∃ (dn' ts' : List Row) (x4 : Option D), rs = dn' ++ ts' ∧ ts.map rowD = ts'.map rowD ∧ ([some (.tup (rs.map rowD)), some (.int u), some (.rf w.M.length), some (.int (totR (lenRows rs))), some (rowD a), none, none, none, none, none] : Rho) = [some (.tup (rs.map rowD)), some (.int u), some (.rf w.M.length), some (.int (totR (lenRows rs))), x4, none, none, none, none, none] ∧ (⟨w.M ++ [.lst (T.map pairD)], w.n⟩ : Wd) = ⟨w.M ++ [PT (dn'.filterMap (ofst u))], w.n⟩ := fun T hT => ⟨dn ++ [a], ts, _, by rw [h1]; simp, rfl, rfl, by rw [hT]; rfl⟩
        refine ite2 (fun h => ?_) (fun h => ?_)
        · obtain ⟨n, qs, rfl⟩ := kind_st (of_decide_eq_true h)
          have hra : Rates qs := hra
          simp only [row1_st, row2_st, sem0, List.map_cons, List.map_nil, List.length_cons, List.length_nil, gSeq, gNext, gRet, gRetN, gIfS, gSet, gPar, gAsg, gDrop, gVar, gC, gBin, gUn, gB, gTru, gAnd, gOr, gNot, gAndV, gOrV, gNotV, gIf, gChain, gaNil, gaCons, DL.gTup, gLst, gCB, gCall0, gAug, addD_i, addD_s, addD_l, addD_t, subD_i, mulD_i, mulD_l, fdivD_i, modD_i, powD_i, ltD_i, ltD_s, leD_i, gtD_i, geD_i, isD_n, isnotD_n, isNonD_non, isNonD_bl, isNonD_int, isNonD_str, isNonD_lst, isNonD_tup, negD_i, iaddD_i, truD_non, truD_bl, truD_int, truD_str, truD_lst, truD_tup, someK_some, ixD_l, ixD_t, fAbs_i, fInt_i, fInt_b, fMin2_i, fLen_l, fLen_t, fLen_s, fList_l, fList_t, fTuple_l, fTuple_t, optBK_some, fIsi_non, fIsi_bl, fIsi_int, fIsi_str, fIsi_lst, fIsi_tup, List.getElem?_cons_zero, List.getElem?_cons_succ, List.set_cons_zero, List.set_cons_succ, DL.ggName, ggNil0, ggCons1, ggTup2, ggTup3, gFor, giSeq, gLc, gYes, wipeR, true_and, and_true, at_0, at_1, at_2, kit_int_int, kit_bool_int, kit_str_int, kit_non_int, kit_list_int, kit_tuple_int, kit_int_bool, kit_bool_bool, kit_str_bool, kit_non_bool, kit_list_bool, kit_tuple_bool, kit_int_str, kit_bool_str, kit_str_str, kit_non_str, kit_list_str, kit_tuple_str, kit_int_list, kit_bool_list, kit_str_list, kit_non_list, kit_list_list, kit_tuple_list, kit_int_tuple, kit_bool_tuple, kit_str_tuple, kit_non_tuple, kit_list_tuple, kit_tuple_tuple, eqD_i, neD_i, eqD_s, neD_s, eqD_f, neD_f, Nat.zero_add, Nat.reduceAdd, nc0, nc1, nc2, nc3, nc4, nc5, nc6, nc7, nc8, nc9, eq_self, decide_true, decide_false, Int.reduceEq, Int.reduceLT, Int.reduceLE, Int.reduceNeg, Bool.not_true, Bool.not_false, Bool.false_eq_true, if_true, if_false, ↓reduceIte, false_and, and_false, List.all_cons, List.all_nil, List.any_cons, List.any_nil, id_eq, Bool.and_true, Bool.true_and, Bool.or_false, Bool.false_or, Bool.and_false, Bool.false_and, gCut, eqD_b, neD_b, giZip, reduceCtorEq, Bool.true_eq_false, Bool.false_eq_true, gRevL, gSl, goNone, goSome, slD_l, ne_eq, not_false_eq_true, not_true_eq_false, gBM, isTy_l, isTy_s, new_at, new_set, isTy_new, cellK_new, append_new, popAt_new, gFrz_eq, frzK_new, fLen_new, fTuple_new, ixD_new, slA_l, slA_t, slA_new, addTD_t, addCD_l, mulCD_l, isbD_b, isnotbD_b, mSplitC_s, gLstC, gTr, ggSub, lstK_l, lstK_r, addLD_eq]
          refine lc_tyf rateD (fun r => fD r.2) (partIn u) qs trivial (by have := hra.1; omega) (fun r hr' A B h3 h4 => ?_) ?_
          · obtain ⟨up, p⟩ := r
            cases up with
            | none =>
              simp only [rate_tup, optD, sem0, List.map_cons, List.map_nil, List.length_cons, List.length_nil, gSeq, gNext, gRet, gRetN, gIfS, gSet, gPar, gAsg, gDrop, gVar, gC, gBin, gUn, gB, gTru, gAnd, gOr, gNot, gAndV, gOrV, gNotV, gIf, gChain, gaNil, gaCons, DL.gTup, gLst, gCB, gCall0, gAug, addD_i, addD_s, addD_l, addD_t, subD_i, mulD_i, mulD_l, fdivD_i, modD_i, powD_i, ltD_i, ltD_s, leD_i, gtD_i, geD_i, isD_n, isnotD_n, isNonD_non, isNonD_bl, isNonD_int, isNonD_str, isNonD_lst, isNonD_tup, negD_i, iaddD_i, truD_non, truD_bl, truD_int, truD_str, truD_lst, truD_tup, someK_some, ixD_l, ixD_t, fAbs_i, fInt_i, fInt_b, fMin2_i, fLen_l, fLen_t, fLen_s, fList_l, fList_t, fTuple_l, fTuple_t, optBK_some, fIsi_non, fIsi_bl, fIsi_int, fIsi_str, fIsi_lst, fIsi_tup, List.getElem?_cons_zero, List.getElem?_cons_succ, List.set_cons_zero, List.set_cons_succ, DL.ggName, ggNil0, ggCons1, ggTup2, ggTup3, gFor, giSeq, gLc, gYes, wipeR, true_and, and_true, at_0, at_1, at_2, kit_int_int, kit_bool_int, kit_str_int, kit_non_int, kit_list_int, kit_tuple_int, kit_int_bool, kit_bool_bool, kit_str_bool, kit_non_bool, kit_list_bool, kit_tuple_bool, kit_int_str, kit_bool_str, kit_str_str, kit_non_str, kit_list_str, kit_tuple_str, kit_int_list, kit_bool_list, kit_str_list, kit_non_list, kit_list_list, kit_tuple_list, kit_int_tuple, kit_bool_tuple, kit_str_tuple, kit_non_tuple, kit_list_tuple, kit_tuple_tuple, eqD_i, neD_i, eqD_s, neD_s, eqD_f, neD_f, Nat.zero_add, Nat.reduceAdd, nc0, nc1, nc2, nc3, nc4, nc5, nc6, nc7, nc8, nc9, eq_self, decide_true, decide_false, Int.reduceEq, Int.reduceLT, Int.reduceLE, Int.reduceNeg, Bool.not_true, Bool.not_false, Bool.false_eq_true, if_true, if_false, ↓reduceIte, false_and, and_false, List.all_cons, List.all_nil, List.any_cons, List.any_nil, id_eq, Bool.and_true, Bool.true_and, Bool.or_false, Bool.false_or, Bool.and_false, Bool.false_and, gCut, eqD_b, neD_b, giZip, reduceCtorEq, Bool.true_eq_false, Bool.false_eq_true, gRevL, gSl, goNone, goSome, slD_l, ne_eq, not_false_eq_true, not_true_eq_false, gBM, isTy_l, isTy_s, new_at, new_set, isTy_new, cellK_new, append_new, popAt_new, gFrz_eq, frzK_new, fLen_new, fTuple_new, ixD_new, slA_l, slA_t, slA_new, addTD_t, addCD_l, mulCD_l, isbD_b, isnotbD_b, mSplitC_s, gLstC, gTr, ggSub, lstK_l, lstK_r, addLD_eq]
              exact h3 rfl
            | some up =>
              simp only [rate_tup, optD, sem0, List.map_cons, List.map_nil, List.length_cons, List.length_nil, gSeq, gNext, gRet, gRetN, gIfS, gSet, gPar, gAsg, gDrop, gVar, gC, gBin, gUn, gB, gTru, gAnd, gOr, gNot, gAndV, gOrV, gNotV, gIf, gChain, gaNil, gaCons, DL.gTup, gLst, gCB, gCall0, gAug, addD_i, addD_s, addD_l, addD_t, subD_i, mulD_i, mulD_l, fdivD_i, modD_i, powD_i, ltD_i, ltD_s, leD_i, gtD_i, geD_i, isD_n, isnotD_n, isNonD_non, isNonD_bl, isNonD_int, isNonD_str, isNonD_lst, isNonD_tup, negD_i, iaddD_i, truD_non, truD_bl, truD_int, truD_str, truD_lst, truD_tup, someK_some, ixD_l, ixD_t, fAbs_i, fInt_i, fInt_b, fMin2_i, fLen_l, fLen_t, fLen_s, fList_l, fList_t, fTuple_l, fTuple_t, optBK_some, fIsi_non, fIsi_bl, fIsi_int, fIsi_str, fIsi_lst, fIsi_tup, List.getElem?_cons_zero, List.getElem?_cons_succ, List.set_cons_zero, List.set_cons_succ, DL.ggName, ggNil0, ggCons1, ggTup2, ggTup3, gFor, giSeq, gLc, gYes, wipeR, true_and, and_true, at_0, at_1, at_2, kit_int_int, kit_bool_int, kit_str_int, kit_non_int, kit_list_int, kit_tuple_int, kit_int_bool, kit_bool_bool, kit_str_bool, kit_non_bool, kit_list_bool, kit_tuple_bool, kit_int_str, kit_bool_str, kit_str_str, kit_non_str, kit_list_str, kit_tuple_str, kit_int_list, kit_bool_list, kit_str_list, kit_non_list, kit_list_list, kit_tuple_list, kit_int_tuple, kit_bool_tuple, kit_str_tuple, kit_non_tuple, kit_list_tuple, kit_tuple_tuple, eqD_i, neD_i, eqD_s, neD_s, eqD_f, neD_f, Nat.zero_add, Nat.reduceAdd, nc0, nc1, nc2, nc3, nc4, nc5, nc6, nc7, nc8, nc9, eq_self, decide_true, decide_false, Int.reduceEq, Int.reduceLT, Int.reduceLE, Int.reduceNeg, Bool.not_true, Bool.not_false, Bool.false_eq_true, if_true, if_false, ↓reduceIte, false_and, and_false, List.all_cons, List.all_nil, List.any_cons, List.any_nil, id_eq, Bool.and_true, Bool.true_and, Bool.or_false, Bool.false_or, Bool.and_false, Bool.false_and, gCut, eqD_b, neD_b, giZip, reduceCtorEq, Bool.true_eq_false, Bool.false_eq_true, gRevL, gSl, goNone, goSome, slD_l, ne_eq, not_false_eq_true, not_true_eq_false, gBM, isTy_l, isTy_s, new_at, new_set, isTy_new, cellK_new, append_new, popAt_new, gFrz_eq, frzK_new, fLen_new, fTuple_new, ixD_new, slA_l, slA_t, slA_new, addTD_t, addCD_l, mulCD_l, isbD_b, isnotbD_b, mSplitC_s, gLstC, gTr, ggSub, lstK_l, lstK_r, addLD_eq]
              exact ite2 (fun h => h3 h) (fun h => h4 (by rw [show partIn u (some up, p) = decide (u < up) from rfl]; simpa using h))
          · obtain ⟨x, r, h3, h4⟩ := first_part (u := u) hra.2.2
            rw [h3]
            simp only [List.map_cons, sem0, List.map_cons, List.map_nil, List.length_cons, List.length_nil, gSeq, gNext, gRet, gRetN, gIfS, gSet, gPar, gAsg, gDrop, gVar, gC, gBin, gUn, gB, gTru, gAnd, gOr, gNot, gAndV, gOrV, gNotV, gIf, gChain, gaNil, gaCons, DL.gTup, gLst, gCB, gCall0, gAug, addD_i, addD_s, addD_l, addD_t, subD_i, mulD_i, mulD_l, fdivD_i, modD_i, powD_i, ltD_i, ltD_s, leD_i, gtD_i, geD_i, isD_n, isnotD_n, isNonD_non, isNonD_bl, isNonD_int, isNonD_str, isNonD_lst, isNonD_tup, negD_i, iaddD_i, truD_non, truD_bl, truD_int, truD_str, truD_lst, truD_tup, someK_some, ixD_l, ixD_t, fAbs_i, fInt_i, fInt_b, fMin2_i, fLen_l, fLen_t, fLen_s, fList_l, fList_t, fTuple_l, fTuple_t, optBK_some, fIsi_non, fIsi_bl, fIsi_int, fIsi_str, fIsi_lst, fIsi_tup, List.getElem?_cons_zero, List.getElem?_cons_succ, List.set_cons_zero, List.set_cons_succ, DL.ggName, ggNil0, ggCons1, ggTup2, ggTup3, gFor, giSeq, gLc, gYes, wipeR, true_and, and_true, at_0, at_1, at_2, kit_int_int, kit_bool_int, kit_str_int, kit_non_int, kit_list_int, kit_tuple_int, kit_int_bool, kit_bool_bool, kit_str_bool, kit_non_bool, kit_list_bool, kit_tuple_bool, kit_int_str, kit_bool_str, kit_str_str, kit_non_str, kit_list_str, kit_tuple_str, kit_int_list, kit_bool_list, kit_str_list, kit_non_list, kit_list_list, kit_tuple_list, kit_int_tuple, kit_bool_tuple, kit_str_tuple, kit_non_tuple, kit_list_tuple, kit_tuple_tuple, eqD_i, neD_i, eqD_s, neD_s, eqD_f, neD_f, Nat.zero_add, Nat.reduceAdd, nc0, nc1, nc2, nc3, nc4, nc5, nc6, nc7, nc8, nc9, eq_self, decide_true, decide_false, Int.reduceEq, Int.reduceLT, Int.reduceLE, Int.reduceNeg, Bool.not_true, Bool.not_false, Bool.false_eq_true, if_true, if_false, ↓reduceIte, false_and, and_false, List.all_cons, List.all_nil, List.any_cons, List.any_nil, id_eq, Bool.and_true, Bool.true_and, Bool.or_false, Bool.false_or, Bool.and_false, Bool.false_and, gCut, eqD_b, neD_b, giZip, reduceCtorEq, Bool.true_eq_false, Bool.false_eq_true, gRevL, gSl, goNone, goSome, slD_l, ne_eq, not_false_eq_true, not_true_eq_false, gBM, isTy_l, isTy_s, new_at, new_set, isTy_new, cellK_new, append_new, popAt_new, gFrz_eq, frzK_new, fLen_new, fTuple_new, ixD_new, slA_l, slA_t, slA_new, addTD_t, addCD_l, mulCD_l, isbD_b, isnotbD_b, mSplitC_s, gLstC, gTr, ggSub, lstK_l, lstK_r, addLD_eq]
            refine ⟨by decide, lt_sl (by rw [List.length_map, List.length_append]; have : (ofN (Row.steps n qs)).toList = [] := rfl; rw [this]; simp; omega), ?_⟩
            have := fin (dn.filterMap (ofst u) ++ (ofN (Row.steps n qs)).toList ++ [(n, partAt qs u)]) (by rw [ofst_snoc]; rfl)
            rw [List.map_append] at this
            rw [h4]
            exact this
        · refine fin _ ?_
          rw [ofst_snoc]
          have : (stN u a).toList = [] := by
            cases a with
            | steps n p => exact absurd (show decide (("steps" : Str) = "steps") = true by decide +kernel) h
            | _ => rfl
          rw [this, List.append_nil]
  rintro ρ w' ⟨dn, ts, x4, h1, h2, rfl, rfl⟩
  have : ts = [] := by simpa using h2.symm
  subst this
  rw [List.append_nil] at h1
  subst h1
  refine ⟨trivial, ?_⟩
  simp only [PT, sem0, List.map_cons, List.map_nil, List.length_cons, List.length_nil, gSeq, gNext, gRet, gRetN, gIfS, gSet, gPar, gAsg, gDrop, gVar, gC, gBin, gUn, gB, gTru, gAnd, gOr, gNot, gAndV, gOrV, gNotV, gIf, gChain, gaNil, gaCons, DL.gTup, gLst, gCB, gCall0, gAug, addD_i, addD_s, addD_l, addD_t, subD_i, mulD_i, mulD_l, fdivD_i, modD_i, powD_i, ltD_i, ltD_s, leD_i, gtD_i, geD_i, isD_n, isnotD_n, isNonD_non, isNonD_bl, isNonD_int, isNonD_str, isNonD_lst, isNonD_tup, negD_i, iaddD_i, truD_non, truD_bl, truD_int, truD_str, truD_lst, truD_tup, someK_some, ixD_l, ixD_t, fAbs_i, fInt_i, fInt_b, fMin2_i, fLen_l, fLen_t, fLen_s, fList_l, fList_t, fTuple_l, fTuple_t, optBK_some, fIsi_non, fIsi_bl, fIsi_int, fIsi_str, fIsi_lst, fIsi_tup, List.getElem?_cons_zero, List.getElem?_cons_succ, List.set_cons_zero, List.set_cons_succ, DL.ggName, ggNil0, ggCons1, ggTup2, ggTup3, gFor, giSeq, gLc, gYes, wipeR, true_and, and_true, at_0, at_1, at_2, kit_int_int, kit_bool_int, kit_str_int, kit_non_int, kit_list_int, kit_tuple_int, kit_int_bool, kit_bool_bool, kit_str_bool, kit_non_bool, kit_list_bool, kit_tuple_bool, kit_int_str, kit_bool_str, kit_str_str, kit_non_str, kit_list_str, kit_tuple_str, kit_int_list, kit_bool_list, kit_str_list, kit_non_list, kit_list_list, kit_tuple_list, kit_int_tuple, kit_bool_tuple, kit_str_tuple, kit_non_tuple, kit_list_tuple, kit_tuple_tuple, eqD_i, neD_i, eqD_s, neD_s, eqD_f, neD_f, Nat.zero_add, Nat.reduceAdd, nc0, nc1, nc2, nc3, nc4, nc5, nc6, nc7, nc8, nc9, eq_self, decide_true, decide_false, Int.reduceEq, Int.reduceLT, Int.reduceLE, Int.reduceNeg, Bool.not_true, Bool.not_false, Bool.false_eq_true, if_true, if_false, ↓reduceIte, false_and, and_false, List.all_cons, List.all_nil, List.any_cons, List.any_nil, id_eq, Bool.and_true, Bool.true_and, Bool.or_false, Bool.false_or, Bool.and_false, Bool.false_and, gCut, eqD_b, neD_b, giZip, reduceCtorEq, Bool.true_eq_false, Bool.false_eq_true, gRevL, gSl, goNone, goSome, slD_l, ne_eq, not_false_eq_true, not_true_eq_false, gBM, isTy_l, isTy_s, new_at, new_set, isTy_new, cellK_new, append_new, popAt_new, gFrz_eq, frzK_new, fLen_new, fTuple_new, ixD_new, slA_l, slA_t, slA_new, addTD_t, addCD_l, mulCD_l, isbD_b, isnotbD_b, mSplitC_s, gLstC, gTr, ggSub, lstK_l, lstK_r, addLD_eq]
  obtain ⟨T0, hT0⟩ : ∃ T0, T0 = rs.filterMap (ofst u) := ⟨_, rfl⟩
  rw [← hT0]
  have hp0 : T0.Perm (told0 rs u) := by rw [hT0]; exact told_perm u rs
  have hF := told0_ok (u := u) hr
  have hF0 : ∀ x ∈ T0, Fr x.2 ∧ Lt2 12 x.2 := fun x hx => hF x.2 (List.mem_map.mpr ⟨x, hp0.mem_iff.mp hx, rfl⟩)
  have hT0l : T0.length ≤ 8 := by
    have := List.length_filterMap_le (ofst u) rs
    rw [hT0]
    omega
  obtain ⟨f0, lt0⟩ := rest0_ok (u := u) hr hl
  refine ⟨by decide, by decide, lc_ty pairD (fun x => fD (negQ x.2)) T0 new_at (by omega) (fun a _ k' hk' => ?_) ?_⟩
  · simp only [pair_tup, ixD_f0, ixD_f1, ggTup_f, fIsi_f, fLen_f, eqD_ff, neD_ff, sem0, List.map_cons, List.map_nil, List.length_cons, List.length_nil, gSeq, gNext, gRet, gRetN, gIfS, gSet, gPar, gAsg, gDrop, gVar, gC, gBin, gUn, gB, gTru, gAnd, gOr, gNot, gAndV, gOrV, gNotV, gIf, gChain, gaNil, gaCons, DL.gTup, gLst, gCB, gCall0, gAug, addD_i, addD_s, addD_l, addD_t, subD_i, mulD_i, mulD_l, fdivD_i, modD_i, powD_i, ltD_i, ltD_s, leD_i, gtD_i, geD_i, isD_n, isnotD_n, isNonD_non, isNonD_bl, isNonD_int, isNonD_str, isNonD_lst, isNonD_tup, negD_i, iaddD_i, truD_non, truD_bl, truD_int, truD_str, truD_lst, truD_tup, someK_some, ixD_l, ixD_t, fAbs_i, fInt_i, fInt_b, fMin2_i, fLen_l, fLen_t, fLen_s, fList_l, fList_t, fTuple_l, fTuple_t, optBK_some, fIsi_non, fIsi_bl, fIsi_int, fIsi_str, fIsi_lst, fIsi_tup, List.getElem?_cons_zero, List.getElem?_cons_succ, List.set_cons_zero, List.set_cons_succ, DL.ggName, ggNil0, ggCons1, ggTup2, ggTup3, gFor, giSeq, gLc, gYes, wipeR, true_and, and_true, at_0, at_1, at_2, kit_int_int, kit_bool_int, kit_str_int, kit_non_int, kit_list_int, kit_tuple_int, kit_int_bool, kit_bool_bool, kit_str_bool, kit_non_bool, kit_list_bool, kit_tuple_bool, kit_int_str, kit_bool_str, kit_str_str, kit_non_str, kit_list_str, kit_tuple_str, kit_int_list, kit_bool_list, kit_str_list, kit_non_list, kit_list_list, kit_tuple_list, kit_int_tuple, kit_bool_tuple, kit_str_tuple, kit_non_tuple, kit_list_tuple, kit_tuple_tuple, eqD_i, neD_i, eqD_s, neD_s, eqD_f, neD_f, Nat.zero_add, Nat.reduceAdd, nc0, nc1, nc2, nc3, nc4, nc5, nc6, nc7, nc8, nc9, eq_self, decide_true, decide_false, Int.reduceEq, Int.reduceLT, Int.reduceLE, Int.reduceNeg, Bool.not_true, Bool.not_false, Bool.false_eq_true, if_true, if_false, ↓reduceIte, false_and, and_false, List.all_cons, List.all_nil, List.any_cons, List.any_nil, id_eq, Bool.and_true, Bool.true_and, Bool.or_false, Bool.false_or, Bool.and_false, Bool.false_and, gCut, eqD_b, neD_b, giZip, reduceCtorEq, Bool.true_eq_false, Bool.false_eq_true, gRevL, gSl, goNone, goSome, slD_l, ne_eq, not_false_eq_true, not_true_eq_false, gBM, isTy_l, isTy_s, new_at, new_set, isTy_new, cellK_new, append_new, popAt_new, gFrz_eq, frzK_new, fLen_new, fTuple_new, ixD_new, slA_l, slA_t, slA_new, addTD_t, addCD_l, mulCD_l, isbD_b, isnotbD_b, mSplitC_s, gLstC, gTr, ggSub, lstK_l, lstK_r, addLD_eq]
    exact ⟨by decide, hk'⟩
  have e4 : (T0.map fun x => fD (negQ x.2)) = ((T0.map Prod.snd).map negQ).map fD := by rw [List.map_map, List.map_map]; rfl
  have er : sumQ ((1, 1) :: (T0.map Prod.snd).map negQ) = rest0 rs u := by
    rw [sum_negs ⟨by decide, by decide⟩ fun x hx => by obtain ⟨y, hy, rfl⟩ := List.mem_map.mp hx; exact (hF0 y hy).1, sumQ_perm (hp0.map Prod.snd)]
    rfl
  rw [e4, addD_l, show [D.tup [.int 1, .int 1]] = [((1, 1) : Qp)].map fD from rfl, ← List.map_append]
  refine ⟨le_sl (by rw [List.length_map, List.length_map, List.length_map, List.length_map]; simp; omega), _, rfl, step_frb (a := 12) (fun x hx => ?_) ?_, ?_⟩
  · rcases List.mem_append.mp hx with hx | hx
    · rw [List.mem_singleton.mp hx]
      exact ⟨⟨by decide, by decide⟩, ⟨by decide, by decide⟩⟩
    · obtain ⟨y, hy, rfl⟩ := List.mem_map.mp hx
      obtain ⟨z, hz, rfl⟩ := List.mem_map.mp hy
      obtain ⟨g1, g2⟩ := hF0 z hz
      exact ⟨fr_neg g1, by show (-z.2.1).natAbs < 2 ^ 12; rw [Int.natAbs_neg]; exact g2.1, g2.2⟩
  · rw [List.length_append, List.length_map, List.length_map]
    have : (12 + 1) * ([((1, 1) : Qp)].length + T0.length + 1) ≤ 13 * 10 := Nat.mul_le_mul_left _ (by simp; omega)
    omega
  rw [show [((1, 1) : Qp)] ++ (T0.map Prod.snd).map negQ = (1, 1) :: (T0.map Prod.snd).map negQ from rfl, er]
  simp only [sem0, List.map_cons, List.map_nil, List.length_cons, List.length_nil, gSeq, gNext, gRet, gRetN, gIfS, gSet, gPar, gAsg, gDrop, gVar, gC, gBin, gUn, gB, gTru, gAnd, gOr, gNot, gAndV, gOrV, gNotV, gIf, gChain, gaNil, gaCons, DL.gTup, gLst, gCB, gCall0, gAug, addD_i, addD_s, addD_l, addD_t, subD_i, mulD_i, mulD_l, fdivD_i, modD_i, powD_i, ltD_i, ltD_s, leD_i, gtD_i, geD_i, isD_n, isnotD_n, isNonD_non, isNonD_bl, isNonD_int, isNonD_str, isNonD_lst, isNonD_tup, negD_i, iaddD_i, truD_non, truD_bl, truD_int, truD_str, truD_lst, truD_tup, someK_some, ixD_l, ixD_t, fAbs_i, fInt_i, fInt_b, fMin2_i, fLen_l, fLen_t, fLen_s, fList_l, fList_t, fTuple_l, fTuple_t, optBK_some, fIsi_non, fIsi_bl, fIsi_int, fIsi_str, fIsi_lst, fIsi_tup, List.getElem?_cons_zero, List.getElem?_cons_succ, List.set_cons_zero, List.set_cons_succ, DL.ggName, ggNil0, ggCons1, ggTup2, ggTup3, gFor, giSeq, gLc, gYes, wipeR, true_and, and_true, at_0, at_1, at_2, kit_int_int, kit_bool_int, kit_str_int, kit_non_int, kit_list_int, kit_tuple_int, kit_int_bool, kit_bool_bool, kit_str_bool, kit_non_bool, kit_list_bool, kit_tuple_bool, kit_int_str, kit_bool_str, kit_str_str, kit_non_str, kit_list_str, kit_tuple_str, kit_int_list, kit_bool_list, kit_str_list, kit_non_list, kit_list_list, kit_tuple_list, kit_int_tuple, kit_bool_tuple, kit_str_tuple, kit_non_tuple, kit_list_tuple, kit_tuple_tuple, eqD_i, neD_i, eqD_s, neD_s, eqD_f, neD_f, Nat.zero_add, Nat.reduceAdd, nc0, nc1, nc2, nc3, nc4, nc5, nc6, nc7, nc8, nc9, eq_self, decide_true, decide_false, Int.reduceEq, Int.reduceLT, Int.reduceLE, Int.reduceNeg, Bool.not_true, Bool.not_false, Bool.false_eq_true, if_true, if_false, ↓reduceIte, false_and, and_false, List.all_cons, List.all_nil, List.any_cons, List.any_nil, id_eq, Bool.and_true, Bool.true_and, Bool.or_false, Bool.false_or, Bool.and_false, Bool.false_and, gCut, eqD_b, neD_b, giZip, reduceCtorEq, Bool.true_eq_false, Bool.false_eq_true, gRevL, gSl, goNone, goSome, slD_l, ne_eq, not_false_eq_true, not_true_eq_false, gBM, isTy_l, isTy_s, new_at, new_set, isTy_new, cellK_new, append_new, popAt_new, gFrz_eq, frzK_new, fLen_new, fTuple_new, ixD_new, slA_l, slA_t, slA_new, addTD_t, addCD_l, mulCD_l, isbD_b, isnotbD_b, mSplitC_s, gLstC, gTr, ggSub, lstK_l, lstK_r, addLD_eq]
  refine ⟨fun rem ρ w' => ∃ (ts : List Row) (q : Qp) (T : Told) (x4 : Option D), rem = ts.map rowD ∧ ρ = [some (.tup (rs.map rowD)), some (.int u), some (.rf w.M.length), some (.int (totR (lenRows rs))), x4, some (fD q), none, none, none, none] ∧ w' = ⟨w.M ++ [PT T], w.n⟩ ∧
    (Fr q ∧ Lt2 (211 + 13 * (8 - ts.length)) q ∧ ts.length ≤ 8 ∧ T.length + ts.length ≤ 16) ∧ (∀ x ∈ ts, RowOk x) ∧ T ++ (lefts ts q).1 = T0 ++ (lefts rs (rest0 rs u)).1 ∧ (lefts ts q).2 = (lefts rs (rest0 rs u)).2,
    ⟨rs, rest0 rs u, T0, x4, rfl, rfl, rfl, ⟨f0, lt0.mono (by omega), hl, by omega⟩, hr, rfl, rfl⟩, ?_, ?_⟩
  rotate_left
  · rintro z xs ρ w' ⟨ts, q, T, x4, h1, rfl, rfl, ⟨hq, lq, hl8, hTl⟩, hts, h2, h3⟩
    cases ts with
    | nil => cases h1
    | cons a ts =>
      rw [List.map_cons] at h1
      injection h1 with h1 h1'
      subst h1
      subst h1'
      have hra := hts a List.mem_cons_self
      have hts' : ∀ x ∈ ts, RowOk x := fun x hx => hts x (List.mem_cons_of_mem _ hx)
      rw [List.length_cons] at hl8 hTl lq
      refine ⟨trivial, ?_⟩
      simp only [row0, PT, sem0, List.map_cons, List.map_nil, List.length_cons, List.length_nil, gSeq, gNext, gRet, gRetN, gIfS, gSet, gPar, gAsg, gDrop, gVar, gC, gBin, gUn, gB, gTru, gAnd, gOr, gNot, gAndV, gOrV, gNotV, gIf, gChain, gaNil, gaCons, DL.gTup, gLst, gCB, gCall0, gAug, addD_i, addD_s, addD_l, addD_t, subD_i, mulD_i, mulD_l, fdivD_i, modD_i, powD_i, ltD_i, ltD_s, leD_i, gtD_i, geD_i, isD_n, isnotD_n, isNonD_non, isNonD_bl, isNonD_int, isNonD_str, isNonD_lst, isNonD_tup, negD_i, iaddD_i, truD_non, truD_bl, truD_int, truD_str, truD_lst, truD_tup, someK_some, ixD_l, ixD_t, fAbs_i, fInt_i, fInt_b, fMin2_i, fLen_l, fLen_t, fLen_s, fList_l, fList_t, fTuple_l, fTuple_t, optBK_some, fIsi_non, fIsi_bl, fIsi_int, fIsi_str, fIsi_lst, fIsi_tup, List.getElem?_cons_zero, List.getElem?_cons_succ, List.set_cons_zero, List.set_cons_succ, DL.ggName, ggNil0, ggCons1, ggTup2, ggTup3, gFor, giSeq, gLc, gYes, wipeR, true_and, and_true, at_0, at_1, at_2, kit_int_int, kit_bool_int, kit_str_int, kit_non_int, kit_list_int, kit_tuple_int, kit_int_bool, kit_bool_bool, kit_str_bool, kit_non_bool, kit_list_bool, kit_tuple_bool, kit_int_str, kit_bool_str, kit_str_str, kit_non_str, kit_list_str, kit_tuple_str, kit_int_list, kit_bool_list, kit_str_list, kit_non_list, kit_list_list, kit_tuple_list, kit_int_tuple, kit_bool_tuple, kit_str_tuple, kit_non_tuple, kit_list_tuple, kit_tuple_tuple, eqD_i, neD_i, eqD_s, neD_s, eqD_f, neD_f, Nat.zero_add, Nat.reduceAdd, nc0, nc1, nc2, nc3, nc4, nc5, nc6, nc7, nc8, nc9, eq_self, decide_true, decide_false, Int.reduceEq, Int.reduceLT, Int.reduceLE, Int.reduceNeg, Bool.not_true, Bool.not_false, Bool.false_eq_true, if_true, if_false, ↓reduceIte, false_and, and_false, List.all_cons, List.all_nil, List.any_cons, List.any_nil, id_eq, Bool.and_true, Bool.true_and, Bool.or_false, Bool.false_or, Bool.and_false, Bool.false_and, gCut, eqD_b, neD_b, giZip, reduceCtorEq, Bool.true_eq_false, Bool.false_eq_true, gRevL, gSl, goNone, goSome, slD_l, ne_eq, not_false_eq_true, not_true_eq_false, gBM, isTy_l, isTy_s, new_at, new_set, isTy_new, cellK_new, append_new, popAt_new, gFrz_eq, frzK_new, fLen_new, fTuple_new, ixD_new, slA_l, slA_t, slA_new, addTD_t, addCD_l, mulCD_l, isbD_b, isnotbD_b, mSplitC_s, gLstC, gTr, ggSub, lstK_l, lstK_r, addLD_eq]
      refine ite2 (fun h => ?_) (fun h => ?_)
      · obtain ⟨s, p, rfl⟩ := kind_left (of_decide_eq_true h)
        have hp : Part p := hra
        obtain ⟨f1, g1, f2, g2⟩ := left_ok hq hp lq
        simp only [row1_left, row2_left, sp__law_times, sem0, List.map_cons, List.map_nil, List.length_cons, List.length_nil, gSeq, gNext, gRet, gRetN, gIfS, gSet, gPar, gAsg, gDrop, gVar, gC, gBin, gUn, gB, gTru, gAnd, gOr, gNot, gAndV, gOrV, gNotV, gIf, gChain, gaNil, gaCons, DL.gTup, gLst, gCB, gCall0, gAug, addD_i, addD_s, addD_l, addD_t, subD_i, mulD_i, mulD_l, fdivD_i, modD_i, powD_i, ltD_i, ltD_s, leD_i, gtD_i, geD_i, isD_n, isnotD_n, isNonD_non, isNonD_bl, isNonD_int, isNonD_str, isNonD_lst, isNonD_tup, negD_i, iaddD_i, truD_non, truD_bl, truD_int, truD_str, truD_lst, truD_tup, someK_some, ixD_l, ixD_t, fAbs_i, fInt_i, fInt_b, fMin2_i, fLen_l, fLen_t, fLen_s, fList_l, fList_t, fTuple_l, fTuple_t, optBK_some, fIsi_non, fIsi_bl, fIsi_int, fIsi_str, fIsi_lst, fIsi_tup, List.getElem?_cons_zero, List.getElem?_cons_succ, List.set_cons_zero, List.set_cons_succ, DL.ggName, ggNil0, ggCons1, ggTup2, ggTup3, gFor, giSeq, gLc, gYes, wipeR, true_and, and_true, at_0, at_1, at_2, kit_int_int, kit_bool_int, kit_str_int, kit_non_int, kit_list_int, kit_tuple_int, kit_int_bool, kit_bool_bool, kit_str_bool, kit_non_bool, kit_list_bool, kit_tuple_bool, kit_int_str, kit_bool_str, kit_str_str, kit_non_str, kit_list_str, kit_tuple_str, kit_int_list, kit_bool_list, kit_str_list, kit_non_list, kit_list_list, kit_tuple_list, kit_int_tuple, kit_bool_tuple, kit_str_tuple, kit_non_tuple, kit_list_tuple, kit_tuple_tuple, eqD_i, neD_i, eqD_s, neD_s, eqD_f, neD_f, Nat.zero_add, Nat.reduceAdd, nc0, nc1, nc2, nc3, nc4, nc5, nc6, nc7, nc8, nc9, eq_self, decide_true, decide_false, Int.reduceEq, Int.reduceLT, Int.reduceLE, Int.reduceNeg, Bool.not_true, Bool.not_false, Bool.false_eq_true, if_true, if_false, ↓reduceIte, false_and, and_false, List.all_cons, List.all_nil, List.any_cons, List.any_nil, id_eq, Bool.and_true, Bool.true_and, Bool.or_false, Bool.false_or, Bool.and_false, Bool.false_and, gCut, eqD_b, neD_b, giZip, reduceCtorEq, Bool.true_eq_false, Bool.false_eq_true, gRevL, gSl, goNone, goSome, slD_l, ne_eq, not_false_eq_true, not_true_eq_false, gBM, isTy_l, isTy_s, new_at, new_set, isTy_new, cellK_new, append_new, popAt_new, gFrz_eq, frzK_new, fLen_new, fTuple_new, ixD_new, slA_l, slA_t, slA_new, addTD_t, addCD_l, mulCD_l, isbD_b, isnotbD_b, mSplitC_s, gLstC, gTr, ggSub, lstK_l, lstK_r, addLD_eq]
        refine ⟨q, p, rfl, ⟨by have := hq.pos; omega, by have := hp.fr.pos; omega, lq.mono (by omega), hp.lt.mono (by decide)⟩, by decide, ?_⟩
        refine ⟨lt_sl (by rw [List.length_map]; omega), ?_⟩
        simp only [at_last1, ixD_f0, ixD_f1, ggTup_f, fIsi_f, fLen_f, eqD_ff, neD_ff, sem0, List.map_cons, List.map_nil, List.length_cons, List.length_nil, gSeq, gNext, gRet, gRetN, gIfS, gSet, gPar, gAsg, gDrop, gVar, gC, gBin, gUn, gB, gTru, gAnd, gOr, gNot, gAndV, gOrV, gNotV, gIf, gChain, gaNil, gaCons, DL.gTup, gLst, gCB, gCall0, gAug, addD_i, addD_s, addD_l, addD_t, subD_i, mulD_i, mulD_l, fdivD_i, modD_i, powD_i, ltD_i, ltD_s, leD_i, gtD_i, geD_i, isD_n, isnotD_n, isNonD_non, isNonD_bl, isNonD_int, isNonD_str, isNonD_lst, isNonD_tup, negD_i, iaddD_i, truD_non, truD_bl, truD_int, truD_str, truD_lst, truD_tup, someK_some, ixD_l, ixD_t, fAbs_i, fInt_i, fInt_b, fMin2_i, fLen_l, fLen_t, fLen_s, fList_l, fList_t, fTuple_l, fTuple_t, optBK_some, fIsi_non, fIsi_bl, fIsi_int, fIsi_str, fIsi_lst, fIsi_tup, List.getElem?_cons_zero, List.getElem?_cons_succ, List.set_cons_zero, List.set_cons_succ, DL.ggName, ggNil0, ggCons1, ggTup2, ggTup3, gFor, giSeq, gLc, gYes, wipeR, true_and, and_true, at_0, at_1, at_2, kit_int_int, kit_bool_int, kit_str_int, kit_non_int, kit_list_int, kit_tuple_int, kit_int_bool, kit_bool_bool, kit_str_bool, kit_non_bool, kit_list_bool, kit_tuple_bool, kit_int_str, kit_bool_str, kit_str_str, kit_non_str, kit_list_str, kit_tuple_str, kit_int_list, kit_bool_list, kit_str_list, kit_non_list, kit_list_list, kit_tuple_list, kit_int_tuple, kit_bool_tuple, kit_str_tuple, kit_non_tuple, kit_list_tuple, kit_tuple_tuple, eqD_i, neD_i, eqD_s, neD_s, eqD_f, neD_f, Nat.zero_add, Nat.reduceAdd, nc0, nc1, nc2, nc3, nc4, nc5, nc6, nc7, nc8, nc9, eq_self, decide_true, decide_false, Int.reduceEq, Int.reduceLT, Int.reduceLE, Int.reduceNeg, Bool.not_true, Bool.not_false, Bool.false_eq_true, if_true, if_false, ↓reduceIte, false_and, and_false, List.all_cons, List.all_nil, List.any_cons, List.any_nil, id_eq, Bool.and_true, Bool.true_and, Bool.or_false, Bool.false_or, Bool.and_false, Bool.false_and, gCut, eqD_b, neD_b, giZip, reduceCtorEq, Bool.true_eq_false, Bool.false_eq_true, gRevL, gSl, goNone, goSome, slD_l, ne_eq, not_false_eq_true, not_true_eq_false, gBM, isTy_l, isTy_s, new_at, new_set, isTy_new, cellK_new, append_new, popAt_new, gFrz_eq, frzK_new, fLen_new, fTuple_new, ixD_new, slA_l, slA_t, slA_new, addTD_t, addCD_l, mulCD_l, isbD_b, isnotbD_b, mSplitC_s, gLstC, gTr, ggSub, lstK_l, lstK_r, addLD_eq]
        refine ⟨by decide, by decide, [q, negQ (mulQ q p)], rfl, step_two hq (fr_neg f2) lq (b := 211 + 13 * (8 - (ts.length + 1)) + 13) ⟨by show (-(mulQ q p).1).natAbs < _; rw [Int.natAbs_neg]; exact g2.1, g2.2⟩ (by omega), ?_⟩
        rw [sum_neg1 hq f2]
        refine ⟨ts, subQ q (mulQ q p), T ++ [(s, mulQ q p)], _, rfl, rfl, ?_, ⟨f1, g1.mono (by omega), by omega, by rw [List.length_append]; simp; omega⟩, hts', ?_, h3⟩
        · show (⟨w.M ++ [Cell.lst _], w.n⟩ : Wd) = ⟨w.M ++ [Cell.lst ((T ++ [(s, mulQ q p)]).map pairD)], w.n⟩
          rw [List.map_append]
          rfl
        · rw [← h2, List.append_assoc]
          rfl
      · have hk1 : kindS a ≠ "left" := fun z => h (decide_eq_true z)
        rw [lefts_other hk1] at h2 h3
        exact ⟨ts, q, T, _, rfl, rfl, rfl, ⟨hq, lq.mono (by omega), by omega, by omega⟩, hts', h2, h3⟩
  rintro ρ w' ⟨ts, q, T, x4, h1, rfl, rfl, ⟨hq, lq, _, hTl⟩, _, h3, h4⟩
  have : ts = [] := by simpa using h1.symm
  subst this
  have h3 : T ++ [] = T0 ++ (lefts rs (rest0 rs u)).1 := h3
  have h4 : q = (lefts rs (rest0 rs u)).2 := h4
  rw [List.append_nil] at h3
  rw [List.length_nil] at hTl lq
  refine ⟨trivial, ?_⟩
  simp only [PT, sem0, List.map_cons, List.map_nil, List.length_cons, List.length_nil, gSeq, gNext, gRet, gRetN, gIfS, gSet, gPar, gAsg, gDrop, gVar, gC, gBin, gUn, gB, gTru, gAnd, gOr, gNot, gAndV, gOrV, gNotV, gIf, gChain, gaNil, gaCons, DL.gTup, gLst, gCB, gCall0, gAug, addD_i, addD_s, addD_l, addD_t, subD_i, mulD_i, mulD_l, fdivD_i, modD_i, powD_i, ltD_i, ltD_s, leD_i, gtD_i, geD_i, isD_n, isnotD_n, isNonD_non, isNonD_bl, isNonD_int, isNonD_str, isNonD_lst, isNonD_tup, negD_i, iaddD_i, truD_non, truD_bl, truD_int, truD_str, truD_lst, truD_tup, someK_some, ixD_l, ixD_t, fAbs_i, fInt_i, fInt_b, fMin2_i, fLen_l, fLen_t, fLen_s, fList_l, fList_t, fTuple_l, fTuple_t, optBK_some, fIsi_non, fIsi_bl, fIsi_int, fIsi_str, fIsi_lst, fIsi_tup, List.getElem?_cons_zero, List.getElem?_cons_succ, List.set_cons_zero, List.set_cons_succ, DL.ggName, ggNil0, ggCons1, ggTup2, ggTup3, gFor, giSeq, gLc, gYes, wipeR, true_and, and_true, at_0, at_1, at_2, kit_int_int, kit_bool_int, kit_str_int, kit_non_int, kit_list_int, kit_tuple_int, kit_int_bool, kit_bool_bool, kit_str_bool, kit_non_bool, kit_list_bool, kit_tuple_bool, kit_int_str, kit_bool_str, kit_str_str, kit_non_str, kit_list_str, kit_tuple_str, kit_int_list, kit_bool_list, kit_str_list, kit_non_list, kit_list_list, kit_tuple_list, kit_int_tuple, kit_bool_tuple, kit_str_tuple, kit_non_tuple, kit_list_tuple, kit_tuple_tuple, eqD_i, neD_i, eqD_s, neD_s, eqD_f, neD_f, Nat.zero_add, Nat.reduceAdd, nc0, nc1, nc2, nc3, nc4, nc5, nc6, nc7, nc8, nc9, eq_self, decide_true, decide_false, Int.reduceEq, Int.reduceLT, Int.reduceLE, Int.reduceNeg, Bool.not_true, Bool.not_false, Bool.false_eq_true, if_true, if_false, ↓reduceIte, false_and, and_false, List.all_cons, List.all_nil, List.any_cons, List.any_nil, id_eq, Bool.and_true, Bool.true_and, Bool.or_false, Bool.false_or, Bool.and_false, Bool.false_and, gCut, eqD_b, neD_b, giZip, reduceCtorEq, Bool.true_eq_false, Bool.false_eq_true, gRevL, gSl, goNone, goSome, slD_l, ne_eq, not_false_eq_true, not_true_eq_false, gBM, isTy_l, isTy_s, new_at, new_set, isTy_new, cellK_new, append_new, popAt_new, gFrz_eq, frzK_new, fLen_new, fTuple_new, ixD_new, slA_l, slA_t, slA_new, addTD_t, addCD_l, mulCD_l, isbD_b, isnotbD_b, mSplitC_s, gLstC, gTr, ggSub, lstK_l, lstK_r, addLD_eq]
  have hL : ∀ z ∈ lenRows rs, IsLen z := fun z hz => by
    obtain ⟨g1, g2⟩ := flt_mem hz
    obtain ⟨s, l, rfl⟩ := kind_len g2
    exact ⟨s, l, rfl, (hr _ g1).1, (hr _ g1).2⟩
  obtain ⟨c1, c2⟩ := tot_bd hL
  have ll : (lenRows rs).length ≤ rs.length := flt_len rs "length"
  refine ⟨fun rem ρ w' => ∃ (dn ts : List Row) (x4 : Option D), rs = dn ++ ts ∧ rem = ts.map rowD ∧ ρ = [some (.tup (rs.map rowD)), some (.int u), some (.rf w.M.length), some (.int (totR (lenRows rs))), x4, some (fD q), none, none, none, none] ∧ w' = ⟨w.M ++ [PT (T ++ lensE q (totR (lenRows rs)) (lenRows dn))], w.n⟩, ⟨[], rs, x4, rfl, rfl, rfl, by rw [show lensE q (totR (lenRows rs)) (lenRows []) = [] from rfl, List.append_nil]; rfl⟩, ?_, ?_⟩
  rotate_left
  · rintro z xs ρ w' ⟨dn, ts, x4, h1, h2, rfl, rfl⟩
    cases ts with
    | nil => cases h2
    | cons a ts =>
      rw [List.map_cons] at h2
      injection h2 with h2 h2'
      subst h2
      subst h2'
      have hra := hr a (by rw [h1]; simp)
      have hdl : (lensE q (totR (lenRows rs)) (lenRows dn)).length ≤ 8 := by
        unfold lensE
        rw [List.length_map]
        have a1 : (lenRows dn).length ≤ dn.length := flt_len dn "length"
        have : dn.length ≤ rs.length := by rw [h1]; simp
        omega
      refine ⟨trivial, ?_⟩
      simp only [row0, PT, sem0, List.map_cons, List.map_nil, List.length_cons, List.length_nil, gSeq, gNext, gRet, gRetN, gIfS, gSet, gPar, gAsg, gDrop, gVar, gC, gBin, gUn, gB, gTru, gAnd, gOr, gNot, gAndV, gOrV, gNotV, gIf, gChain, gaNil, gaCons, DL.gTup, gLst, gCB, gCall0, gAug, addD_i, addD_s, addD_l, addD_t, subD_i, mulD_i, mulD_l, fdivD_i, modD_i, powD_i, ltD_i, ltD_s, leD_i, gtD_i, geD_i, isD_n, isnotD_n, isNonD_non, isNonD_bl, isNonD_int, isNonD_str, isNonD_lst, isNonD_tup, negD_i, iaddD_i, truD_non, truD_bl, truD_int, truD_str, truD_lst, truD_tup, someK_some, ixD_l, ixD_t, fAbs_i, fInt_i, fInt_b, fMin2_i, fLen_l, fLen_t, fLen_s, fList_l, fList_t, fTuple_l, fTuple_t, optBK_some, fIsi_non, fIsi_bl, fIsi_int, fIsi_str, fIsi_lst, fIsi_tup, List.getElem?_cons_zero, List.getElem?_cons_succ, List.set_cons_zero, List.set_cons_succ, DL.ggName, ggNil0, ggCons1, ggTup2, ggTup3, gFor, giSeq, gLc, gYes, wipeR, true_and, and_true, at_0, at_1, at_2, kit_int_int, kit_bool_int, kit_str_int, kit_non_int, kit_list_int, kit_tuple_int, kit_int_bool, kit_bool_bool, kit_str_bool, kit_non_bool, kit_list_bool, kit_tuple_bool, kit_int_str, kit_bool_str, kit_str_str, kit_non_str, kit_list_str, kit_tuple_str, kit_int_list, kit_bool_list, kit_str_list, kit_non_list, kit_list_list, kit_tuple_list, kit_int_tuple, kit_bool_tuple, kit_str_tuple, kit_non_tuple, kit_list_tuple, kit_tuple_tuple, eqD_i, neD_i, eqD_s, neD_s, eqD_f, neD_f, Nat.zero_add, Nat.reduceAdd, nc0, nc1, nc2, nc3, nc4, nc5, nc6, nc7, nc8, nc9, eq_self, decide_true, decide_false, Int.reduceEq, Int.reduceLT, Int.reduceLE, Int.reduceNeg, Bool.not_true, Bool.not_false, Bool.false_eq_true, if_true, if_false, ↓reduceIte, false_and, and_false, List.all_cons, List.all_nil, List.any_cons, List.any_nil, id_eq, Bool.and_true, Bool.true_and, Bool.or_false, Bool.false_or, Bool.and_false, Bool.false_and, gCut, eqD_b, neD_b, giZip, reduceCtorEq, Bool.true_eq_false, Bool.false_eq_true, gRevL, gSl, goNone, goSome, slD_l, ne_eq, not_false_eq_true, not_true_eq_false, gBM, isTy_l, isTy_s, new_at, new_set, isTy_new, cellK_new, append_new, popAt_new, gFrz_eq, frzK_new, fLen_new, fTuple_new, ixD_new, slA_l, slA_t, slA_new, addTD_t, addCD_l, mulCD_l, isbD_b, isnotbD_b, mSplitC_s, gLstC, gTr, ggSub, lstK_l, lstK_r, addLD_eq]
      refine ite2 (fun h => ?_) (fun h => ?_)
      · have hk1 := of_decide_eq_true h
        obtain ⟨s, l, rfl⟩ := kind_len hk1
        have hmem : Row.length s l ∈ lenRows rs := List.mem_filter.mpr ⟨by rw [h1]; simp, h⟩
        have lpos : 0 < (lenRows rs).length := List.length_pos_of_mem hmem
        have e0 : totR (lenRows rs) ≠ 0 := by omega
        simp only [row1_len, row2_len, sp__law_times, sem0, List.map_cons, List.map_nil, List.length_cons, List.length_nil, gSeq, gNext, gRet, gRetN, gIfS, gSet, gPar, gAsg, gDrop, gVar, gC, gBin, gUn, gB, gTru, gAnd, gOr, gNot, gAndV, gOrV, gNotV, gIf, gChain, gaNil, gaCons, DL.gTup, gLst, gCB, gCall0, gAug, addD_i, addD_s, addD_l, addD_t, subD_i, mulD_i, mulD_l, fdivD_i, modD_i, powD_i, ltD_i, ltD_s, leD_i, gtD_i, geD_i, isD_n, isnotD_n, isNonD_non, isNonD_bl, isNonD_int, isNonD_str, isNonD_lst, isNonD_tup, negD_i, iaddD_i, truD_non, truD_bl, truD_int, truD_str, truD_lst, truD_tup, someK_some, ixD_l, ixD_t, fAbs_i, fInt_i, fInt_b, fMin2_i, fLen_l, fLen_t, fLen_s, fList_l, fList_t, fTuple_l, fTuple_t, optBK_some, fIsi_non, fIsi_bl, fIsi_int, fIsi_str, fIsi_lst, fIsi_tup, List.getElem?_cons_zero, List.getElem?_cons_succ, List.set_cons_zero, List.set_cons_succ, DL.ggName, ggNil0, ggCons1, ggTup2, ggTup3, gFor, giSeq, gLc, gYes, wipeR, true_and, and_true, at_0, at_1, at_2, kit_int_int, kit_bool_int, kit_str_int, kit_non_int, kit_list_int, kit_tuple_int, kit_int_bool, kit_bool_bool, kit_str_bool, kit_non_bool, kit_list_bool, kit_tuple_bool, kit_int_str, kit_bool_str, kit_str_str, kit_non_str, kit_list_str, kit_tuple_str, kit_int_list, kit_bool_list, kit_str_list, kit_non_list, kit_list_list, kit_tuple_list, kit_int_tuple, kit_bool_tuple, kit_str_tuple, kit_non_tuple, kit_list_tuple, kit_tuple_tuple, eqD_i, neD_i, eqD_s, neD_s, eqD_f, neD_f, Nat.zero_add, Nat.reduceAdd, nc0, nc1, nc2, nc3, nc4, nc5, nc6, nc7, nc8, nc9, eq_self, decide_true, decide_false, Int.reduceEq, Int.reduceLT, Int.reduceLE, Int.reduceNeg, Bool.not_true, Bool.not_false, Bool.false_eq_true, if_true, if_false, ↓reduceIte, false_and, and_false, List.all_cons, List.all_nil, List.any_cons, List.any_nil, id_eq, Bool.and_true, Bool.true_and, Bool.or_false, Bool.false_or, Bool.and_false, Bool.false_and, gCut, eqD_b, neD_b, giZip, reduceCtorEq, Bool.true_eq_false, Bool.false_eq_true, gRevL, gSl, goNone, goSome, slD_l, ne_eq, not_false_eq_true, not_true_eq_false, gBM, isTy_l, isTy_s, new_at, new_set, isTy_new, cellK_new, append_new, popAt_new, gFrz_eq, frzK_new, fLen_new, fTuple_new, ixD_new, slA_l, slA_t, slA_new, addTD_t, addCD_l, mulCD_l, isbD_b, isnotbD_b, mSplitC_s, gLstC, gTr, ggSub, lstK_l, lstK_r, addLD_eq]
        refine ⟨by decide, q, (l, totR (lenRows rs)), rfl, ⟨by have := hq.pos; omega, e0, lq.mono (by omega), Lt2.mono (a := 13) ⟨Nat.lt_of_le_of_lt (show l.natAbs ≤ 8000 by have := hra.1; have := hra.2; omega) (by decide), Nat.lt_of_le_of_lt (show (totR (lenRows rs)).natAbs ≤ 8000 by omega) (by decide)⟩ (by decide)⟩, by decide, ?_⟩
        refine ⟨lt_sl (by rw [List.length_map, List.length_append]; omega), dn ++ [.length s l], ts, _, by rw [h1]; simp, rfl, rfl, ?_⟩
        show (⟨w.M ++ [Cell.lst _], w.n⟩ : Wd) = ⟨w.M ++ [Cell.lst _], w.n⟩
        have : lenRows (dn ++ [Row.length s l]) = lenRows dn ++ [.length s l] := by
          unfold lenRows
          rw [List.filter_append, List.filter_cons, if_pos h, List.filter_nil]
        rw [this, show lensE q (totR (lenRows rs)) (lenRows dn ++ [Row.length s l]) = lensE q (totR (lenRows rs)) (lenRows dn) ++ [(s, mulQ q (l, totR (lenRows rs)))] by simp [lensE, nameR, lenR, mulQ], ← List.append_assoc]
        simp only [List.map_append, List.map_cons, List.map_nil, pairD]
      · refine ⟨dn ++ [a], ts, _, by rw [h1]; simp, rfl, rfl, ?_⟩
        have : lenRows (dn ++ [a]) = lenRows dn := by
          unfold lenRows
          rw [List.filter_append, List.filter_cons, if_neg h, List.filter_nil, List.append_nil]
        rw [this]
        try rfl
  rintro ρ w' ⟨dn, ts, x4, h1, h2, rfl, rfl⟩
  have : ts = [] := by simpa using h2.symm
  subst this
  rw [List.append_nil] at h1
  subst h1
  refine ⟨trivial, ?_⟩
  have eT : T ++ lensE q (totR (lenRows rs)) (lenRows rs) = tellL rs u := by
    rw [h3, h4, hT0]
    rfl
  rw [eT]
  simp only [PT, gDNew, sem0, List.map_cons, List.map_nil, List.length_cons, List.length_nil, gSeq, gNext, gRet, gRetN, gIfS, gSet, gPar, gAsg, gDrop, gVar, gC, gBin, gUn, gB, gTru, gAnd, gOr, gNot, gAndV, gOrV, gNotV, gIf, gChain, gaNil, gaCons, DL.gTup, gLst, gCB, gCall0, gAug, addD_i, addD_s, addD_l, addD_t, subD_i, mulD_i, mulD_l, fdivD_i, modD_i, powD_i, ltD_i, ltD_s, leD_i, gtD_i, geD_i, isD_n, isnotD_n, isNonD_non, isNonD_bl, isNonD_int, isNonD_str, isNonD_lst, isNonD_tup, negD_i, iaddD_i, truD_non, truD_bl, truD_int, truD_str, truD_lst, truD_tup, someK_some, ixD_l, ixD_t, fAbs_i, fInt_i, fInt_b, fMin2_i, fLen_l, fLen_t, fLen_s, fList_l, fList_t, fTuple_l, fTuple_t, optBK_some, fIsi_non, fIsi_bl, fIsi_int, fIsi_str, fIsi_lst, fIsi_tup, List.getElem?_cons_zero, List.getElem?_cons_succ, List.set_cons_zero, List.set_cons_succ, DL.ggName, ggNil0, ggCons1, ggTup2, ggTup3, gFor, giSeq, gLc, gYes, wipeR, true_and, and_true, at_0, at_1, at_2, kit_int_int, kit_bool_int, kit_str_int, kit_non_int, kit_list_int, kit_tuple_int, kit_int_bool, kit_bool_bool, kit_str_bool, kit_non_bool, kit_list_bool, kit_tuple_bool, kit_int_str, kit_bool_str, kit_str_str, kit_non_str, kit_list_str, kit_tuple_str, kit_int_list, kit_bool_list, kit_str_list, kit_non_list, kit_list_list, kit_tuple_list, kit_int_tuple, kit_bool_tuple, kit_str_tuple, kit_non_tuple, kit_list_tuple, kit_tuple_tuple, eqD_i, neD_i, eqD_s, neD_s, eqD_f, neD_f, Nat.zero_add, Nat.reduceAdd, nc0, nc1, nc2, nc3, nc4, nc5, nc6, nc7, nc8, nc9, eq_self, decide_true, decide_false, Int.reduceEq, Int.reduceLT, Int.reduceLE, Int.reduceNeg, Bool.not_true, Bool.not_false, Bool.false_eq_true, if_true, if_false, ↓reduceIte, false_and, and_false, List.all_cons, List.all_nil, List.any_cons, List.any_nil, id_eq, Bool.and_true, Bool.true_and, Bool.or_false, Bool.false_or, Bool.and_false, Bool.false_and, gCut, eqD_b, neD_b, giZip, reduceCtorEq, Bool.true_eq_false, Bool.false_eq_true, gRevL, gSl, goNone, goSome, slD_l, ne_eq, not_false_eq_true, not_true_eq_false, gBM, isTy_l, isTy_s, new_at, new_set, isTy_new, cellK_new, append_new, popAt_new, gFrz_eq, frzK_new, fLen_new, fTuple_new, ixD_new, slA_l, slA_t, slA_new, addTD_t, addCD_l, mulCD_l, isbD_b, isnotbD_b, mSplitC_s, gLstC, gTr, ggSub, lstK_l, lstK_r, addLD_eq]
  have eD : ∀ c d : Cell, w.M ++ [c] ++ [d] = w.M ++ [c, d] := fun c d => by rw [List.append_assoc]; rfl
  have eN : ∀ c : Cell, (w.M ++ [c]).length = w.M.length + 1 := fun c => by rw [List.length_append]; rfl
  rw [eD, eN]
  simp only [at20]
  have hperm := tell_perm rs u
  obtain ⟨t1, t2⟩ := tell_ok (u := u) hr hl
  have hTt : ∀ x ∈ tellL rs u, Fr x.2 ∧ Lt2 343 x.2 := fun x hx => t1 x (hperm.mem_iff.mp hx)
  have hTn : (tellL rs u).length ≤ 8 := by rw [hperm.length_eq]; exact t2
  generalize tellL rs u = T9 at hTt hTn hk ⊢
  refine ⟨fun rem ρ w' => ∃ (dn ts : Told) (ks : List Str) (x7 x8 : Option D), T9 = dn ++ ts ∧ rem = ts.map pairD ∧ ρ = [some (.tup (rs.map rowD)), some (.int u), some (.rf w.M.length), some (.int (totR (lenRows rs))), x4, some (fD q), some (.rf (w.M.length + 1)), x7, x8, none] ∧ w' = ⟨w.M ++ [PT T9, .dk (dkT ks dn)], w.n⟩ ∧ KeysL dn ks ∧ ks.length ≤ dn.length, ⟨[], T9, [], none, none, rfl, rfl, rfl, rfl, ⟨List.nodup_nil, fun s => by simp⟩, Nat.le_refl _⟩, ?_, ?_⟩
  · rintro ρ w' ⟨dn, ts, ks, x7, x8, h1, h2, rfl, rfl, hK, hkl⟩
    have : ts = [] := by simpa using h2.symm
    subst this
    rw [List.append_nil] at h1
    subst h1
    refine ⟨at20, ?_⟩
    simp only [sem0, List.map_cons, List.map_nil, List.length_cons, List.length_nil, gSeq, gNext, gRet, gRetN, gIfS, gSet, gPar, gAsg, gDrop, gVar, gC, gBin, gUn, gB, gTru, gAnd, gOr, gNot, gAndV, gOrV, gNotV, gIf, gChain, gaNil, gaCons, DL.gTup, gLst, gCB, gCall0, gAug, addD_i, addD_s, addD_l, addD_t, subD_i, mulD_i, mulD_l, fdivD_i, modD_i, powD_i, ltD_i, ltD_s, leD_i, gtD_i, geD_i, isD_n, isnotD_n, isNonD_non, isNonD_bl, isNonD_int, isNonD_str, isNonD_lst, isNonD_tup, negD_i, iaddD_i, truD_non, truD_bl, truD_int, truD_str, truD_lst, truD_tup, someK_some, ixD_l, ixD_t, fAbs_i, fInt_i, fInt_b, fMin2_i, fLen_l, fLen_t, fLen_s, fList_l, fList_t, fTuple_l, fTuple_t, optBK_some, fIsi_non, fIsi_bl, fIsi_int, fIsi_str, fIsi_lst, fIsi_tup, List.getElem?_cons_zero, List.getElem?_cons_succ, List.set_cons_zero, List.set_cons_succ, DL.ggName, ggNil0, ggCons1, ggTup2, ggTup3, gFor, giSeq, gLc, gYes, wipeR, true_and, and_true, at_0, at_1, at_2, kit_int_int, kit_bool_int, kit_str_int, kit_non_int, kit_list_int, kit_tuple_int, kit_int_bool, kit_bool_bool, kit_str_bool, kit_non_bool, kit_list_bool, kit_tuple_bool, kit_int_str, kit_bool_str, kit_str_str, kit_non_str, kit_list_str, kit_tuple_str, kit_int_list, kit_bool_list, kit_str_list, kit_non_list, kit_list_list, kit_tuple_list, kit_int_tuple, kit_bool_tuple, kit_str_tuple, kit_non_tuple, kit_list_tuple, kit_tuple_tuple, eqD_i, neD_i, eqD_s, neD_s, eqD_f, neD_f, Nat.zero_add, Nat.reduceAdd, nc0, nc1, nc2, nc3, nc4, nc5, nc6, nc7, nc8, nc9, eq_self, decide_true, decide_false, Int.reduceEq, Int.reduceLT, Int.reduceLE, Int.reduceNeg, Bool.not_true, Bool.not_false, Bool.false_eq_true, if_true, if_false, ↓reduceIte, false_and, and_false, List.all_cons, List.all_nil, List.any_cons, List.any_nil, id_eq, Bool.and_true, Bool.true_and, Bool.or_false, Bool.false_or, Bool.and_false, Bool.false_and, gCut, eqD_b, neD_b, giZip, reduceCtorEq, Bool.true_eq_false, Bool.false_eq_true, gRevL, gSl, goNone, goSome, slD_l, ne_eq, not_false_eq_true, not_true_eq_false, gBM, isTy_l, isTy_s, new_at, new_set, isTy_new, cellK_new, append_new, popAt_new, gFrz_eq, frzK_new, fLen_new, fTuple_new, ixD_new, slA_l, slA_t, slA_new, addTD_t, addCD_l, mulCD_l, isbD_b, isnotbD_b, mSplitC_s, gLstC, gTr, ggSub, lstK_l, lstK_r, addLD_eq]
    have := hk ks hK (by omega)
    unfold restLw at this
    refine ite2 (fun h => ?_) (fun h => ?_)
    · rw [if_pos (of_decide_eq_true h)] at this
      exact ⟨by decide, by decide, this⟩
    · rw [if_neg fun z => h (decide_eq_true z), ← h4] at this
      exact ⟨by decide, this⟩
  · rintro z xs ρ w' ⟨dn, ts, ks, x7, x8, h1, h2, rfl, rfl, hK, hkl⟩
    cases ts with
    | nil => cases h2
    | cons y ts =>
      rw [List.map_cons] at h2
      injection h2 with h2 h2'
      subst h2
      subst h2'
      obtain ⟨s, p⟩ := y
      obtain ⟨fp, lp⟩ := hTt (s, p) (by rw [h1]; simp)
      have hdn : dn.length ≤ 8 := by
        have : T9.length = dn.length + (ts.length + 1) := by rw [h1]; simp
        omega
      have hFd : FrB 343 (nameParts s dn) := fun x hx => hTt (s, x) (by rw [h1]; exact List.mem_append_left _ (np_mem hx).1)
      refine ⟨at20, ?_⟩
      simp only [pair_tup, ixD_f0, ixD_f1, ggTup_f, fIsi_f, fLen_f, eqD_ff, neD_ff, sem0, List.map_cons, List.map_nil, List.length_cons, List.length_nil, gSeq, gNext, gRet, gRetN, gIfS, gSet, gPar, gAsg, gDrop, gVar, gC, gBin, gUn, gB, gTru, gAnd, gOr, gNot, gAndV, gOrV, gNotV, gIf, gChain, gaNil, gaCons, DL.gTup, gLst, gCB, gCall0, gAug, addD_i, addD_s, addD_l, addD_t, subD_i, mulD_i, mulD_l, fdivD_i, modD_i, powD_i, ltD_i, ltD_s, leD_i, gtD_i, geD_i, isD_n, isnotD_n, isNonD_non, isNonD_bl, isNonD_int, isNonD_str, isNonD_lst, isNonD_tup, negD_i, iaddD_i, truD_non, truD_bl, truD_int, truD_str, truD_lst, truD_tup, someK_some, ixD_l, ixD_t, fAbs_i, fInt_i, fInt_b, fMin2_i, fLen_l, fLen_t, fLen_s, fList_l, fList_t, fTuple_l, fTuple_t, optBK_some, fIsi_non, fIsi_bl, fIsi_int, fIsi_str, fIsi_lst, fIsi_tup, List.getElem?_cons_zero, List.getElem?_cons_succ, List.set_cons_zero, List.set_cons_succ, DL.ggName, ggNil0, ggCons1, ggTup2, ggTup3, gFor, giSeq, gLc, gYes, wipeR, true_and, and_true, at_0, at_1, at_2, kit_int_int, kit_bool_int, kit_str_int, kit_non_int, kit_list_int, kit_tuple_int, kit_int_bool, kit_bool_bool, kit_str_bool, kit_non_bool, kit_list_bool, kit_tuple_bool, kit_int_str, kit_bool_str, kit_str_str, kit_non_str, kit_list_str, kit_tuple_str, kit_int_list, kit_bool_list, kit_str_list, kit_non_list, kit_list_list, kit_tuple_list, kit_int_tuple, kit_bool_tuple, kit_str_tuple, kit_non_tuple, kit_list_tuple, kit_tuple_tuple, eqD_i, neD_i, eqD_s, neD_s, eqD_f, neD_f, Nat.zero_add, Nat.reduceAdd, nc0, nc1, nc2, nc3, nc4, nc5, nc6, nc7, nc8, nc9, eq_self, decide_true, decide_false, Int.reduceEq, Int.reduceLT, Int.reduceLE, Int.reduceNeg, Bool.not_true, Bool.not_false, Bool.false_eq_true, if_true, if_false, ↓reduceIte, false_and, and_false, List.all_cons, List.all_nil, List.any_cons, List.any_nil, id_eq, Bool.and_true, Bool.true_and, Bool.or_false, Bool.false_or, Bool.and_false, Bool.false_and, gCut, eqD_b, neD_b, giZip, reduceCtorEq, Bool.true_eq_false, Bool.false_eq_true, gRevL, gSl, goNone, goSome, slD_l, ne_eq, not_false_eq_true, not_true_eq_false, gBM, isTy_l, isTy_s, new_at, new_set, isTy_new, cellK_new, append_new, popAt_new, gFrz_eq, frzK_new, fLen_new, fTuple_new, ixD_new, slA_l, slA_t, slA_new, addTD_t, addCD_l, mulCD_l, isbD_b, isnotbD_b, mSplitC_s, gLstC, gTr, ggSub, lstK_l, lstK_r, addLD_eq]
      refine ite2 (fun h => ?_) (fun h => ?_)
      · have hp := of_decide_eq_true h
        simp only [gDGet2, ggDPut, rfK_r, keyK, keyD, dkK21, sem0, List.map_cons, List.map_nil, List.length_cons, List.length_nil, gSeq, gNext, gRet, gRetN, gIfS, gSet, gPar, gAsg, gDrop, gVar, gC, gBin, gUn, gB, gTru, gAnd, gOr, gNot, gAndV, gOrV, gNotV, gIf, gChain, gaNil, gaCons, DL.gTup, gLst, gCB, gCall0, gAug, addD_i, addD_s, addD_l, addD_t, subD_i, mulD_i, mulD_l, fdivD_i, modD_i, powD_i, ltD_i, ltD_s, leD_i, gtD_i, geD_i, isD_n, isnotD_n, isNonD_non, isNonD_bl, isNonD_int, isNonD_str, isNonD_lst, isNonD_tup, negD_i, iaddD_i, truD_non, truD_bl, truD_int, truD_str, truD_lst, truD_tup, someK_some, ixD_l, ixD_t, fAbs_i, fInt_i, fInt_b, fMin2_i, fLen_l, fLen_t, fLen_s, fList_l, fList_t, fTuple_l, fTuple_t, optBK_some, fIsi_non, fIsi_bl, fIsi_int, fIsi_str, fIsi_lst, fIsi_tup, List.getElem?_cons_zero, List.getElem?_cons_succ, List.set_cons_zero, List.set_cons_succ, DL.ggName, ggNil0, ggCons1, ggTup2, ggTup3, gFor, giSeq, gLc, gYes, wipeR, true_and, and_true, at_0, at_1, at_2, kit_int_int, kit_bool_int, kit_str_int, kit_non_int, kit_list_int, kit_tuple_int, kit_int_bool, kit_bool_bool, kit_str_bool, kit_non_bool, kit_list_bool, kit_tuple_bool, kit_int_str, kit_bool_str, kit_str_str, kit_non_str, kit_list_str, kit_tuple_str, kit_int_list, kit_bool_list, kit_str_list, kit_non_list, kit_list_list, kit_tuple_list, kit_int_tuple, kit_bool_tuple, kit_str_tuple, kit_non_tuple, kit_list_tuple, kit_tuple_tuple, eqD_i, neD_i, eqD_s, neD_s, eqD_f, neD_f, Nat.zero_add, Nat.reduceAdd, nc0, nc1, nc2, nc3, nc4, nc5, nc6, nc7, nc8, nc9, eq_self, decide_true, decide_false, Int.reduceEq, Int.reduceLT, Int.reduceLE, Int.reduceNeg, Bool.not_true, Bool.not_false, Bool.false_eq_true, if_true, if_false, ↓reduceIte, false_and, and_false, List.all_cons, List.all_nil, List.any_cons, List.any_nil, id_eq, Bool.and_true, Bool.true_and, Bool.or_false, Bool.false_or, Bool.and_false, Bool.false_and, gCut, eqD_b, neD_b, giZip, reduceCtorEq, Bool.true_eq_false, Bool.false_eq_true, gRevL, gSl, goNone, goSome, slD_l, ne_eq, not_false_eq_true, not_true_eq_false, gBM, isTy_l, isTy_s, new_at, new_set, isTy_new, cellK_new, append_new, popAt_new, gFrz_eq, frzK_new, fLen_new, fTuple_new, ixD_new, slA_l, slA_t, slA_new, addTD_t, addCD_l, mulCD_l, isbD_b, isnotbD_b, mSplitC_s, gLstC, gTr, ggSub, lstK_l, lstK_r, addLD_eq]
        have hX : (valD (dkT ks dn) (Sum.inr s)).getD (.tup [.int 0, .int 1]) = fD (sumQ (nameParts s dn)) := dkT_get hK
        rw [hX]
        have ls := sum_lt rfl hFd
        have hnl := np_len s dn
        have lb : (343 + 1) * (nameParts s dn).length + 1 ≤ 2753 := by
          have : 344 * (nameParts s dn).length ≤ 344 * 8 := Nat.mul_le_mul_left _ (by omega)
          omega
        refine ⟨by decide, by decide, [sumQ (nameParts s dn), p], rfl, step_two (fr_sum fun x hx => (hFd x hx).1) fp (ls.mono lb) lp (by decide), ?_⟩
        have es : sumQ [sumQ (nameParts s dn), p] = sumQ (nameParts s (dn ++ [(s, p)])) := by
          rw [sum_two, sumQ_snoc (fun x hx => (hFd x hx).1) fp, np_app, np_same hp]
        rw [es]
        simp only [dkK21, set21, sem0, List.map_cons, List.map_nil, List.length_cons, List.length_nil, gSeq, gNext, gRet, gRetN, gIfS, gSet, gPar, gAsg, gDrop, gVar, gC, gBin, gUn, gB, gTru, gAnd, gOr, gNot, gAndV, gOrV, gNotV, gIf, gChain, gaNil, gaCons, DL.gTup, gLst, gCB, gCall0, gAug, addD_i, addD_s, addD_l, addD_t, subD_i, mulD_i, mulD_l, fdivD_i, modD_i, powD_i, ltD_i, ltD_s, leD_i, gtD_i, geD_i, isD_n, isnotD_n, isNonD_non, isNonD_bl, isNonD_int, isNonD_str, isNonD_lst, isNonD_tup, negD_i, iaddD_i, truD_non, truD_bl, truD_int, truD_str, truD_lst, truD_tup, someK_some, ixD_l, ixD_t, fAbs_i, fInt_i, fInt_b, fMin2_i, fLen_l, fLen_t, fLen_s, fList_l, fList_t, fTuple_l, fTuple_t, optBK_some, fIsi_non, fIsi_bl, fIsi_int, fIsi_str, fIsi_lst, fIsi_tup, List.getElem?_cons_zero, List.getElem?_cons_succ, List.set_cons_zero, List.set_cons_succ, DL.ggName, ggNil0, ggCons1, ggTup2, ggTup3, gFor, giSeq, gLc, gYes, wipeR, true_and, and_true, at_0, at_1, at_2, kit_int_int, kit_bool_int, kit_str_int, kit_non_int, kit_list_int, kit_tuple_int, kit_int_bool, kit_bool_bool, kit_str_bool, kit_non_bool, kit_list_bool, kit_tuple_bool, kit_int_str, kit_bool_str, kit_str_str, kit_non_str, kit_list_str, kit_tuple_str, kit_int_list, kit_bool_list, kit_str_list, kit_non_list, kit_list_list, kit_tuple_list, kit_int_tuple, kit_bool_tuple, kit_str_tuple, kit_non_tuple, kit_list_tuple, kit_tuple_tuple, eqD_i, neD_i, eqD_s, neD_s, eqD_f, neD_f, Nat.zero_add, Nat.reduceAdd, nc0, nc1, nc2, nc3, nc4, nc5, nc6, nc7, nc8, nc9, eq_self, decide_true, decide_false, Int.reduceEq, Int.reduceLT, Int.reduceLE, Int.reduceNeg, Bool.not_true, Bool.not_false, Bool.false_eq_true, if_true, if_false, ↓reduceIte, false_and, and_false, List.all_cons, List.all_nil, List.any_cons, List.any_nil, id_eq, Bool.and_true, Bool.true_and, Bool.or_false, Bool.false_or, Bool.and_false, Bool.false_and, gCut, eqD_b, neD_b, giZip, reduceCtorEq, Bool.true_eq_false, Bool.false_eq_true, gRevL, gSl, goNone, goSome, slD_l, ne_eq, not_false_eq_true, not_true_eq_false, gBM, isTy_l, isTy_s, new_at, new_set, isTy_new, cellK_new, append_new, popAt_new, gFrz_eq, frzK_new, fLen_new, fTuple_new, ixD_new, slA_l, slA_t, slA_new, addTD_t, addCD_l, mulCD_l, isbD_b, isnotbD_b, mSplitC_s, gLstC, gTr, ggSub, lstK_l, lstK_r, addLD_eq]
        obtain ⟨ks', e1, e2, e3⟩ := dkT_put hK hp (p := p)
        refine ⟨by unfold dkT; rw [List.length_map]; exact lt_sl (by omega), dn ++ [(s, p)], ts, ks', _, _, by rw [h1]; simp, rfl, rfl, by rw [e1], e2, by rw [List.length_append]; simp; omega⟩
      · have hp : ¬ 0 < p.1 := fun z => h (decide_eq_true z)
        refine ⟨dn ++ [(s, p)], ts, ks, _, _, by rw [h1]; simp, rfl, rfl, ?_, ⟨hK.nd, fun t => ?_⟩, by rw [List.length_append]; omega⟩
        · rw [dkT_off hp]
        · rw [hK.mem t]
          refine ⟨fun ⟨q, a1, a2⟩ => ⟨q, List.mem_append_left _ a1, a2⟩, fun ⟨q, a1, a2⟩ => ?_⟩
          rcases List.mem_append.mp a1 with a1 | a1
          · exact ⟨q, a1, a2⟩
          · rw [List.mem_singleton] at a1
            cases a1
            exact absurd a2 hp
theorem ok__law_parted {P : Program} {w : World} {K : PySem.W.Frag} {mg : Str → Option Value} {base : Heap} (T : DefAt K mg "_law_parted" s__law_parted ["_law_rows_here", "_law_unit"]) (B : Blt mg) (F__law_sum : FnAt P w K mg base CX0 2 "_law_sum" 1 sp__law_sum) (F__law_times : FnAt P w K mg base CX0 2 "_law_times" 2 sp__law_times) : FnAt P w K mg base CX0 3 "_law_parted" 2 sp__law_parted := (w__law_parted T B F__law_sum F__law_times).imp v__law_parted


end LW

namespace LW
open PySem PySem.Spec PyProof.Rows L2 RZ DL

def sp__law_units : GF := fun ds w _ k => ∃ (rs : List Row) (c n : Nat), ds = [.st, .tup (rs.map rowD)] ∧ (RowsOk rs 8 ∧ w.n = some c ∧ n + 2 ≤ c) ∧ ∀ (us : List Int) c', n ≤ c' → k (.lst (us.map D.int)) ⟨w.M, some c'⟩
abbrev s__law_units : Stmt := topS 26
theorem sc__law_units : FnScope ["_law_state", "_law_rows_here", "_law_found", "_law_row_here", "_law_upto", "_law_part_here"] ["_law_state", "_law_rows_here"] (defScope s__law_units) := ⟨rfl, rfl, rfl, by decide +kernel, rfl, by decide +kernel, by decide +kernel⟩
def g__law_units : GS := (gSeq (gSet 2 (gLst (gaCons (gC (.int 0)) (gaCons (gCall0 2 sp__law_take (gaCons (gVar 0) (gaCons (gC (.int 30)) gaNil))) (gaCons (gCall0 2 sp__law_take (gaCons (gVar 0) (gaCons (gBin powD (gC (.int 10)) (gC (.int 6))) gaNil))) gaNil)))))
  (gSeq (gFor (giSeq (gVar 1)) (ggName 3) (gIfS (gB (gBin eqD (gBin ixD (gVar 3) (gC (.int 0))) (gC (.str "steps")))) (gFor (giSeq (gBin ixD (gVar 3) (gC (.int 2)))) (ggTup 2 (ggCons (ggName 4) (ggCons (ggName 5) ggNil))) (gIfS (gB (gBin isnotD (gVar 4) (gC .non))) (gSet 2 (gBin addD (gVar 2) (gLst (gaCons (gBin subD (gVar 4) (gC (.int 1))) (gaCons (gVar 4) gaNil))))) gNext)) gNext))
  (gRet (gVar 2))))
theorem w__law_units {P : Program} {w : World} {K : PySem.W.Frag} {mg : Str → Option Value} {base : Heap} (T : DefAt K mg "_law_units" s__law_units ["_law_state", "_law_rows_here"]) (B : Blt mg) (F__law_take : FnAt P w K mg base CX0 1 "_law_take" 2 sp__law_take) : FnAt P w K mg base CX0 2 "_law_units" 2 (sem0 6 g__law_units) := by
  have nd := sc__law_units.nd
  exact T.fn0 sc__law_units (fun f cdv A outer s H E hr => (dss_cons (ds_set (i := 2) nd rfl (by first | exact Or.inl rfl | exact Or.inr rfl) (de_lst (da_cons de_int (da_cons (de_call0 F__law_take hr (by rfl) (da_cons (de_var 0) (da_cons de_int da_nil))) (da_cons (de_call0 F__law_take hr (by rfl) (da_cons (de_var 0) (da_cons (de_pow de_int de_int) da_nil))) da_nil)))))
  (dss_cons (ds_for PassesOwn.never rfl (di_seq (de_var 1)) (dg_name (i := 3) nd rfl (by first | exact Or.inl rfl | exact Or.inr rfl)) (dss_one (ds_if (dt_eq hr (de_ix (de_var 3) de_int) de_str) (dss_one (ds_for PassesOwn.never rfl (di_seq (de_ix (de_var 3) de_int)) (dg_tup rfl (dgs_cons (dg_name (i := 4) nd rfl (by first | exact Or.inl rfl | exact Or.inr rfl)) (dgs_cons (dg_name (i := 5) nd rfl (by first | exact Or.inl rfl | exact Or.inr rfl)) dgs_nil))) (dss_one (ds_if (dt_isnot (de_var 4) de_non) (dss_one (ds_set (i := 2) nd rfl (by first | exact Or.inl rfl | exact Or.inr rfl) (de_add (de_var 2) (de_lst (da_cons (de_sub (de_var 4) de_int) (da_cons (de_var 4) da_nil)))))) dss_nil)))) dss_nil)))
  (dss_one (ds_ret (de_var 2))))))

theorem v__law_units : ∀ ds w kx k, sp__law_units ds w kx k → sem0 6 g__law_units ds w kx k := by
  rintro ds w kx k ⟨rs, c, n, rfl, ⟨⟨hl, hr⟩, hn, hc⟩, hk⟩
  have e : rho 6 [D.st, D.tup (rs.map rowD)] = [some .st, some (.tup (rs.map rowD)), none, none, none, none] := rfl
  simp only [g__law_units, e, sp__law_take, sem0, List.map_cons, List.map_nil, List.length_cons, List.length_nil, gSeq, gNext, gRet, gRetN, gIfS, gSet, gPar, gAsg, gDrop, gVar, gC, gBin, gUn, gB, gTru, gAnd, gOr, gNot, gAndV, gOrV, gNotV, gIf, gChain, gaNil, gaCons, DL.gTup, gLst, gCB, gCall0, gAug, addD_i, addD_s, addD_l, addD_t, subD_i, mulD_i, mulD_l, fdivD_i, modD_i, powD_i, ltD_i, ltD_s, leD_i, gtD_i, geD_i, isD_n, isnotD_n, isNonD_non, isNonD_bl, isNonD_int, isNonD_str, isNonD_lst, isNonD_tup, negD_i, iaddD_i, truD_non, truD_bl, truD_int, truD_str, truD_lst, truD_tup, someK_some, ixD_l, ixD_t, fAbs_i, fInt_i, fInt_b, fMin2_i, fLen_l, fLen_t, fLen_s, fList_l, fList_t, fTuple_l, fTuple_t, optBK_some, fIsi_non, fIsi_bl, fIsi_int, fIsi_str, fIsi_lst, fIsi_tup, List.getElem?_cons_zero, List.getElem?_cons_succ, List.set_cons_zero, List.set_cons_succ, DL.ggName, ggNil0, ggCons1, ggTup2, ggTup3, gFor, giSeq, gLc, gYes, wipeR, true_and, and_true, at_0, at_1, at_2, kit_int_int, kit_bool_int, kit_str_int, kit_non_int, kit_list_int, kit_tuple_int, kit_int_bool, kit_bool_bool, kit_str_bool, kit_non_bool, kit_list_bool, kit_tuple_bool, kit_int_str, kit_bool_str, kit_str_str, kit_non_str, kit_list_str, kit_tuple_str, kit_int_list, kit_bool_list, kit_str_list, kit_non_list, kit_list_list, kit_tuple_list, kit_int_tuple, kit_bool_tuple, kit_str_tuple, kit_non_tuple, kit_list_tuple, kit_tuple_tuple, eqD_i, neD_i, eqD_s, neD_s, eqD_f, neD_f, Nat.zero_add, Nat.reduceAdd, nc0, nc1, nc2, nc3, nc4, nc5, nc6, nc7, nc8, nc9, eq_self, decide_true, decide_false, Int.reduceEq, Int.reduceLT, Int.reduceLE, Int.reduceNeg, Bool.not_true, Bool.not_false, Bool.false_eq_true, if_true, if_false, ↓reduceIte, false_and, and_false, List.all_cons, List.all_nil, List.any_cons, List.any_nil, id_eq, Bool.and_true, Bool.true_and, Bool.or_false, Bool.false_or, Bool.and_false, Bool.false_and, gCut, eqD_b, neD_b, giZip, reduceCtorEq, Bool.true_eq_false, Bool.false_eq_true, gRevL, gSl, goNone, goSome, slD_l, ne_eq, not_false_eq_true, not_true_eq_false, gBM, isTy_l, isTy_s, new_at, new_set, isTy_new, cellK_new, append_new, popAt_new, gFrz_eq, frzK_new, fLen_new, fTuple_new, ixD_new, slA_l, slA_t, slA_new, addTD_t, addCD_l, mulCD_l, isbD_b, isnotbD_b, mSplitC_s, gLstC, gTr, ggSub, lstK_l, lstK_r, addLD_eq]
  refine take_use (n + 1) hn (by omega) ⟨by decide, log_of (by decide)⟩ fun r1 c1 a0 a1 hc1 => ?_
  try simp only [sem0, List.map_cons, List.map_nil, List.length_cons, List.length_nil, gSeq, gNext, gRet, gRetN, gIfS, gSet, gPar, gAsg, gDrop, gVar, gC, gBin, gUn, gB, gTru, gAnd, gOr, gNot, gAndV, gOrV, gNotV, gIf, gChain, gaNil, gaCons, DL.gTup, gLst, gCB, gCall0, gAug, addD_i, addD_s, addD_l, addD_t, subD_i, mulD_i, mulD_l, fdivD_i, modD_i, powD_i, ltD_i, ltD_s, leD_i, gtD_i, geD_i, isD_n, isnotD_n, isNonD_non, isNonD_bl, isNonD_int, isNonD_str, isNonD_lst, isNonD_tup, negD_i, iaddD_i, truD_non, truD_bl, truD_int, truD_str, truD_lst, truD_tup, someK_some, ixD_l, ixD_t, fAbs_i, fInt_i, fInt_b, fMin2_i, fLen_l, fLen_t, fLen_s, fList_l, fList_t, fTuple_l, fTuple_t, optBK_some, fIsi_non, fIsi_bl, fIsi_int, fIsi_str, fIsi_lst, fIsi_tup, List.getElem?_cons_zero, List.getElem?_cons_succ, List.set_cons_zero, List.set_cons_succ, DL.ggName, ggNil0, ggCons1, ggTup2, ggTup3, gFor, giSeq, gLc, gYes, wipeR, true_and, and_true, at_0, at_1, at_2, kit_int_int, kit_bool_int, kit_str_int, kit_non_int, kit_list_int, kit_tuple_int, kit_int_bool, kit_bool_bool, kit_str_bool, kit_non_bool, kit_list_bool, kit_tuple_bool, kit_int_str, kit_bool_str, kit_str_str, kit_non_str, kit_list_str, kit_tuple_str, kit_int_list, kit_bool_list, kit_str_list, kit_non_list, kit_list_list, kit_tuple_list, kit_int_tuple, kit_bool_tuple, kit_str_tuple, kit_non_tuple, kit_list_tuple, kit_tuple_tuple, eqD_i, neD_i, eqD_s, neD_s, eqD_f, neD_f, Nat.zero_add, Nat.reduceAdd, nc0, nc1, nc2, nc3, nc4, nc5, nc6, nc7, nc8, nc9, eq_self, decide_true, decide_false, Int.reduceEq, Int.reduceLT, Int.reduceLE, Int.reduceNeg, Bool.not_true, Bool.not_false, Bool.false_eq_true, if_true, if_false, ↓reduceIte, false_and, and_false, List.all_cons, List.all_nil, List.any_cons, List.any_nil, id_eq, Bool.and_true, Bool.true_and, Bool.or_false, Bool.false_or, Bool.and_false, Bool.false_and, gCut, eqD_b, neD_b, giZip, reduceCtorEq, Bool.true_eq_false, Bool.false_eq_true, gRevL, gSl, goNone, goSome, slD_l, ne_eq, not_false_eq_true, not_true_eq_false, gBM, isTy_l, isTy_s, new_at, new_set, isTy_new, cellK_new, append_new, popAt_new, gFrz_eq, frzK_new, fLen_new, fTuple_new, ixD_new, slA_l, slA_t, slA_new, addTD_t, addCD_l, mulCD_l, isbD_b, isnotbD_b, mSplitC_s, gLstC, gTr, ggSub, lstK_l, lstK_r, addLD_eq]
  refine ⟨⟨by decide, by decide, by decide⟩, take_use n rfl (by omega) ⟨by decide, log_of (by decide)⟩ fun r2 c2 a2 a3 hc2 => ?_⟩
  try simp only [sem0, List.map_cons, List.map_nil, List.length_cons, List.length_nil, gSeq, gNext, gRet, gRetN, gIfS, gSet, gPar, gAsg, gDrop, gVar, gC, gBin, gUn, gB, gTru, gAnd, gOr, gNot, gAndV, gOrV, gNotV, gIf, gChain, gaNil, gaCons, DL.gTup, gLst, gCB, gCall0, gAug, addD_i, addD_s, addD_l, addD_t, subD_i, mulD_i, mulD_l, fdivD_i, modD_i, powD_i, ltD_i, ltD_s, leD_i, gtD_i, geD_i, isD_n, isnotD_n, isNonD_non, isNonD_bl, isNonD_int, isNonD_str, isNonD_lst, isNonD_tup, negD_i, iaddD_i, truD_non, truD_bl, truD_int, truD_str, truD_lst, truD_tup, someK_some, ixD_l, ixD_t, fAbs_i, fInt_i, fInt_b, fMin2_i, fLen_l, fLen_t, fLen_s, fList_l, fList_t, fTuple_l, fTuple_t, optBK_some, fIsi_non, fIsi_bl, fIsi_int, fIsi_str, fIsi_lst, fIsi_tup, List.getElem?_cons_zero, List.getElem?_cons_succ, List.set_cons_zero, List.set_cons_succ, DL.ggName, ggNil0, ggCons1, ggTup2, ggTup3, gFor, giSeq, gLc, gYes, wipeR, true_and, and_true, at_0, at_1, at_2, kit_int_int, kit_bool_int, kit_str_int, kit_non_int, kit_list_int, kit_tuple_int, kit_int_bool, kit_bool_bool, kit_str_bool, kit_non_bool, kit_list_bool, kit_tuple_bool, kit_int_str, kit_bool_str, kit_str_str, kit_non_str, kit_list_str, kit_tuple_str, kit_int_list, kit_bool_list, kit_str_list, kit_non_list, kit_list_list, kit_tuple_list, kit_int_tuple, kit_bool_tuple, kit_str_tuple, kit_non_tuple, kit_list_tuple, kit_tuple_tuple, eqD_i, neD_i, eqD_s, neD_s, eqD_f, neD_f, Nat.zero_add, Nat.reduceAdd, nc0, nc1, nc2, nc3, nc4, nc5, nc6, nc7, nc8, nc9, eq_self, decide_true, decide_false, Int.reduceEq, Int.reduceLT, Int.reduceLE, Int.reduceNeg, Bool.not_true, Bool.not_false, Bool.false_eq_true, if_true, if_false, ↓reduceIte, false_and, and_false, List.all_cons, List.all_nil, List.any_cons, List.any_nil, id_eq, Bool.and_true, Bool.true_and, Bool.or_false, Bool.false_or, Bool.and_false, Bool.false_and, gCut, eqD_b, neD_b, giZip, reduceCtorEq, Bool.true_eq_false, Bool.false_eq_true, gRevL, gSl, goNone, goSome, slD_l, ne_eq, not_false_eq_true, not_true_eq_false, gBM, isTy_l, isTy_s, new_at, new_set, isTy_new, cellK_new, append_new, popAt_new, gFrz_eq, frzK_new, fLen_new, fTuple_new, ixD_new, slA_l, slA_t, slA_new, addTD_t, addCD_l, mulCD_l, isbD_b, isnotbD_b, mSplitC_s, gLstC, gTr, ggSub, lstK_l, lstK_r, addLD_eq]
  refine ⟨by decide, fun rem ρ w' => ∃ (ts : List Row) (us : List Int) (x3 x4 x5 : Option D), rem = ts.map rowD ∧ (∀ x ∈ ts, RowOk x) ∧ ρ = [some .st, some (.tup (rs.map rowD)), some (.lst (us.map D.int)), x3, x4, x5] ∧ w' = ⟨w.M, some c2⟩ ∧ us.length + 16 * ts.length ≤ 1000, ⟨rs, [0, r1, r2], none, none, none, rfl, hr, rfl, rfl, by show 3 + _ ≤ _; omega⟩, ?_, ?_⟩
  · rintro ρ w' ⟨ts, us, x3, x4, x5, h1, _, rfl, rfl, _⟩
    refine ⟨trivial, ?_⟩
    simp only [sem0, List.map_cons, List.map_nil, List.length_cons, List.length_nil, gSeq, gNext, gRet, gRetN, gIfS, gSet, gPar, gAsg, gDrop, gVar, gC, gBin, gUn, gB, gTru, gAnd, gOr, gNot, gAndV, gOrV, gNotV, gIf, gChain, gaNil, gaCons, DL.gTup, gLst, gCB, gCall0, gAug, addD_i, addD_s, addD_l, addD_t, subD_i, mulD_i, mulD_l, fdivD_i, modD_i, powD_i, ltD_i, ltD_s, leD_i, gtD_i, geD_i, isD_n, isnotD_n, isNonD_non, isNonD_bl, isNonD_int, isNonD_str, isNonD_lst, isNonD_tup, negD_i, iaddD_i, truD_non, truD_bl, truD_int, truD_str, truD_lst, truD_tup, someK_some, ixD_l, ixD_t, fAbs_i, fInt_i, fInt_b, fMin2_i, fLen_l, fLen_t, fLen_s, fList_l, fList_t, fTuple_l, fTuple_t, optBK_some, fIsi_non, fIsi_bl, fIsi_int, fIsi_str, fIsi_lst, fIsi_tup, List.getElem?_cons_zero, List.getElem?_cons_succ, List.set_cons_zero, List.set_cons_succ, DL.ggName, ggNil0, ggCons1, ggTup2, ggTup3, gFor, giSeq, gLc, gYes, wipeR, true_and, and_true, at_0, at_1, at_2, kit_int_int, kit_bool_int, kit_str_int, kit_non_int, kit_list_int, kit_tuple_int, kit_int_bool, kit_bool_bool, kit_str_bool, kit_non_bool, kit_list_bool, kit_tuple_bool, kit_int_str, kit_bool_str, kit_str_str, kit_non_str, kit_list_str, kit_tuple_str, kit_int_list, kit_bool_list, kit_str_list, kit_non_list, kit_list_list, kit_tuple_list, kit_int_tuple, kit_bool_tuple, kit_str_tuple, kit_non_tuple, kit_list_tuple, kit_tuple_tuple, eqD_i, neD_i, eqD_s, neD_s, eqD_f, neD_f, Nat.zero_add, Nat.reduceAdd, nc0, nc1, nc2, nc3, nc4, nc5, nc6, nc7, nc8, nc9, eq_self, decide_true, decide_false, Int.reduceEq, Int.reduceLT, Int.reduceLE, Int.reduceNeg, Bool.not_true, Bool.not_false, Bool.false_eq_true, if_true, if_false, ↓reduceIte, false_and, and_false, List.all_cons, List.all_nil, List.any_cons, List.any_nil, id_eq, Bool.and_true, Bool.true_and, Bool.or_false, Bool.false_or, Bool.and_false, Bool.false_and, gCut, eqD_b, neD_b, giZip, reduceCtorEq, Bool.true_eq_false, Bool.false_eq_true, gRevL, gSl, goNone, goSome, slD_l, ne_eq, not_false_eq_true, not_true_eq_false, gBM, isTy_l, isTy_s, new_at, new_set, isTy_new, cellK_new, append_new, popAt_new, gFrz_eq, frzK_new, fLen_new, fTuple_new, ixD_new, slA_l, slA_t, slA_new, addTD_t, addCD_l, mulCD_l, isbD_b, isnotbD_b, mSplitC_s, gLstC, gTr, ggSub, lstK_l, lstK_r, addLD_eq]
    exact hk us c2 hc2
  · rintro z xs ρ w' ⟨ts, us, x3, x4, x5, h1, h2, rfl, rfl, h3⟩
    cases ts with
    | nil => cases h1
    | cons a ts =>
      rw [List.map_cons] at h1
      injection h1 with h1 h1'
      subst h1
      subst h1'
      rw [List.length_cons] at h3
      have hts : ∀ x ∈ ts, RowOk x := fun x hx => h2 x (List.mem_cons_of_mem _ hx)
      refine ⟨trivial, ?_⟩
      simp only [row0, sem0, List.map_cons, List.map_nil, List.length_cons, List.length_nil, gSeq, gNext, gRet, gRetN, gIfS, gSet, gPar, gAsg, gDrop, gVar, gC, gBin, gUn, gB, gTru, gAnd, gOr, gNot, gAndV, gOrV, gNotV, gIf, gChain, gaNil, gaCons, DL.gTup, gLst, gCB, gCall0, gAug, addD_i, addD_s, addD_l, addD_t, subD_i, mulD_i, mulD_l, fdivD_i, modD_i, powD_i, ltD_i, ltD_s, leD_i, gtD_i, geD_i, isD_n, isnotD_n, isNonD_non, isNonD_bl, isNonD_int, isNonD_str, isNonD_lst, isNonD_tup, negD_i, iaddD_i, truD_non, truD_bl, truD_int, truD_str, truD_lst, truD_tup, someK_some, ixD_l, ixD_t, fAbs_i, fInt_i, fInt_b, fMin2_i, fLen_l, fLen_t, fLen_s, fList_l, fList_t, fTuple_l, fTuple_t, optBK_some, fIsi_non, fIsi_bl, fIsi_int, fIsi_str, fIsi_lst, fIsi_tup, List.getElem?_cons_zero, List.getElem?_cons_succ, List.set_cons_zero, List.set_cons_succ, DL.ggName, ggNil0, ggCons1, ggTup2, ggTup3, gFor, giSeq, gLc, gYes, wipeR, true_and, and_true, at_0, at_1, at_2, kit_int_int, kit_bool_int, kit_str_int, kit_non_int, kit_list_int, kit_tuple_int, kit_int_bool, kit_bool_bool, kit_str_bool, kit_non_bool, kit_list_bool, kit_tuple_bool, kit_int_str, kit_bool_str, kit_str_str, kit_non_str, kit_list_str, kit_tuple_str, kit_int_list, kit_bool_list, kit_str_list, kit_non_list, kit_list_list, kit_tuple_list, kit_int_tuple, kit_bool_tuple, kit_str_tuple, kit_non_tuple, kit_list_tuple, kit_tuple_tuple, eqD_i, neD_i, eqD_s, neD_s, eqD_f, neD_f, Nat.zero_add, Nat.reduceAdd, nc0, nc1, nc2, nc3, nc4, nc5, nc6, nc7, nc8, nc9, eq_self, decide_true, decide_false, Int.reduceEq, Int.reduceLT, Int.reduceLE, Int.reduceNeg, Bool.not_true, Bool.not_false, Bool.false_eq_true, if_true, if_false, ↓reduceIte, false_and, and_false, List.all_cons, List.all_nil, List.any_cons, List.any_nil, id_eq, Bool.and_true, Bool.true_and, Bool.or_false, Bool.false_or, Bool.and_false, Bool.false_and, gCut, eqD_b, neD_b, giZip, reduceCtorEq, Bool.true_eq_false, Bool.false_eq_true, gRevL, gSl, goNone, goSome, slD_l, ne_eq, not_false_eq_true, not_true_eq_false, gBM, isTy_l, isTy_s, new_at, new_set, isTy_new, cellK_new, append_new, popAt_new, gFrz_eq, frzK_new, fLen_new, fTuple_new, ixD_new, slA_l, slA_t, slA_new, addTD_t, addCD_l, mulCD_l, isbD_b, isnotbD_b, mSplitC_s, gLstC, gTr, ggSub, lstK_l, lstK_r, addLD_eq]
      refine ite2 (fun h => ?_) (fun h => ⟨ts, us, _, _, _, rfl, hts, rfl, by omega⟩)
      obtain ⟨s, qs, rfl⟩ := kind_st (of_decide_eq_true h)
      have hq : Rates qs := h2 _ List.mem_cons_self
      simp only [row2_st, sem0, List.map_cons, List.map_nil, List.length_cons, List.length_nil, gSeq, gNext, gRet, gRetN, gIfS, gSet, gPar, gAsg, gDrop, gVar, gC, gBin, gUn, gB, gTru, gAnd, gOr, gNot, gAndV, gOrV, gNotV, gIf, gChain, gaNil, gaCons, DL.gTup, gLst, gCB, gCall0, gAug, addD_i, addD_s, addD_l, addD_t, subD_i, mulD_i, mulD_l, fdivD_i, modD_i, powD_i, ltD_i, ltD_s, leD_i, gtD_i, geD_i, isD_n, isnotD_n, isNonD_non, isNonD_bl, isNonD_int, isNonD_str, isNonD_lst, isNonD_tup, negD_i, iaddD_i, truD_non, truD_bl, truD_int, truD_str, truD_lst, truD_tup, someK_some, ixD_l, ixD_t, fAbs_i, fInt_i, fInt_b, fMin2_i, fLen_l, fLen_t, fLen_s, fList_l, fList_t, fTuple_l, fTuple_t, optBK_some, fIsi_non, fIsi_bl, fIsi_int, fIsi_str, fIsi_lst, fIsi_tup, List.getElem?_cons_zero, List.getElem?_cons_succ, List.set_cons_zero, List.set_cons_succ, DL.ggName, ggNil0, ggCons1, ggTup2, ggTup3, gFor, giSeq, gLc, gYes, wipeR, true_and, and_true, at_0, at_1, at_2, kit_int_int, kit_bool_int, kit_str_int, kit_non_int, kit_list_int, kit_tuple_int, kit_int_bool, kit_bool_bool, kit_str_bool, kit_non_bool, kit_list_bool, kit_tuple_bool, kit_int_str, kit_bool_str, kit_str_str, kit_non_str, kit_list_str, kit_tuple_str, kit_int_list, kit_bool_list, kit_str_list, kit_non_list, kit_list_list, kit_tuple_list, kit_int_tuple, kit_bool_tuple, kit_str_tuple, kit_non_tuple, kit_list_tuple, kit_tuple_tuple, eqD_i, neD_i, eqD_s, neD_s, eqD_f, neD_f, Nat.zero_add, Nat.reduceAdd, nc0, nc1, nc2, nc3, nc4, nc5, nc6, nc7, nc8, nc9, eq_self, decide_true, decide_false, Int.reduceEq, Int.reduceLT, Int.reduceLE, Int.reduceNeg, Bool.not_true, Bool.not_false, Bool.false_eq_true, if_true, if_false, ↓reduceIte, false_and, and_false, List.all_cons, List.all_nil, List.any_cons, List.any_nil, id_eq, Bool.and_true, Bool.true_and, Bool.or_false, Bool.false_or, Bool.and_false, Bool.false_and, gCut, eqD_b, neD_b, giZip, reduceCtorEq, Bool.true_eq_false, Bool.false_eq_true, gRevL, gSl, goNone, goSome, slD_l, ne_eq, not_false_eq_true, not_true_eq_false, gBM, isTy_l, isTy_s, new_at, new_set, isTy_new, cellK_new, append_new, popAt_new, gFrz_eq, frzK_new, fLen_new, fTuple_new, ixD_new, slA_l, slA_t, slA_new, addTD_t, addCD_l, mulCD_l, isbD_b, isnotbD_b, mSplitC_s, gLstC, gTr, ggSub, lstK_l, lstK_r, addLD_eq]
      refine ⟨fun rem ρ w' => ∃ (ps : List Rate) (us : List Int) (x4 x5 : Option D), rem = ps.map rateD ∧ ρ = [some .st, some (.tup (rs.map rowD)), some (.lst (us.map D.int)), some (rowD (.steps s qs)), x4, x5] ∧ w' = ⟨w.M, some c2⟩ ∧ us.length + 2 * ps.length + 16 * ts.length ≤ 1000, ⟨qs, us, x4, x5, rfl, rfl, rfl, by have := hq.1; omega⟩, ?_, ?_⟩
      · rintro ρ w' ⟨ps, us, x4, x5, h4, rfl, rfl, h5⟩
        exact ⟨trivial, ts, us, _, _, _, rfl, hts, rfl, rfl, by omega⟩
      · rintro z2 xs2 ρ w' ⟨ps, us, x4, x5, h4, rfl, rfl, h5⟩
        cases ps with
        | nil => cases h4
        | cons r ps =>
          rw [List.map_cons] at h4
          injection h4 with h4 h4'
          subst h4
          subst h4'
          rw [List.length_cons] at h5
          refine ⟨trivial, ?_⟩
          obtain ⟨up, p⟩ := r
          cases up with
          | none =>
            simp only [rate_tup, optD, sem0, List.map_cons, List.map_nil, List.length_cons, List.length_nil, gSeq, gNext, gRet, gRetN, gIfS, gSet, gPar, gAsg, gDrop, gVar, gC, gBin, gUn, gB, gTru, gAnd, gOr, gNot, gAndV, gOrV, gNotV, gIf, gChain, gaNil, gaCons, DL.gTup, gLst, gCB, gCall0, gAug, addD_i, addD_s, addD_l, addD_t, subD_i, mulD_i, mulD_l, fdivD_i, modD_i, powD_i, ltD_i, ltD_s, leD_i, gtD_i, geD_i, isD_n, isnotD_n, isNonD_non, isNonD_bl, isNonD_int, isNonD_str, isNonD_lst, isNonD_tup, negD_i, iaddD_i, truD_non, truD_bl, truD_int, truD_str, truD_lst, truD_tup, someK_some, ixD_l, ixD_t, fAbs_i, fInt_i, fInt_b, fMin2_i, fLen_l, fLen_t, fLen_s, fList_l, fList_t, fTuple_l, fTuple_t, optBK_some, fIsi_non, fIsi_bl, fIsi_int, fIsi_str, fIsi_lst, fIsi_tup, List.getElem?_cons_zero, List.getElem?_cons_succ, List.set_cons_zero, List.set_cons_succ, DL.ggName, ggNil0, ggCons1, ggTup2, ggTup3, gFor, giSeq, gLc, gYes, wipeR, true_and, and_true, at_0, at_1, at_2, kit_int_int, kit_bool_int, kit_str_int, kit_non_int, kit_list_int, kit_tuple_int, kit_int_bool, kit_bool_bool, kit_str_bool, kit_non_bool, kit_list_bool, kit_tuple_bool, kit_int_str, kit_bool_str, kit_str_str, kit_non_str, kit_list_str, kit_tuple_str, kit_int_list, kit_bool_list, kit_str_list, kit_non_list, kit_list_list, kit_tuple_list, kit_int_tuple, kit_bool_tuple, kit_str_tuple, kit_non_tuple, kit_list_tuple, kit_tuple_tuple, eqD_i, neD_i, eqD_s, neD_s, eqD_f, neD_f, Nat.zero_add, Nat.reduceAdd, nc0, nc1, nc2, nc3, nc4, nc5, nc6, nc7, nc8, nc9, eq_self, decide_true, decide_false, Int.reduceEq, Int.reduceLT, Int.reduceLE, Int.reduceNeg, Bool.not_true, Bool.not_false, Bool.false_eq_true, if_true, if_false, ↓reduceIte, false_and, and_false, List.all_cons, List.all_nil, List.any_cons, List.any_nil, id_eq, Bool.and_true, Bool.true_and, Bool.or_false, Bool.false_or, Bool.and_false, Bool.false_and, gCut, eqD_b, neD_b, giZip, reduceCtorEq, Bool.true_eq_false, Bool.false_eq_true, gRevL, gSl, goNone, goSome, slD_l, ne_eq, not_false_eq_true, not_true_eq_false, gBM, isTy_l, isTy_s, new_at, new_set, isTy_new, cellK_new, append_new, popAt_new, gFrz_eq, frzK_new, fLen_new, fTuple_new, ixD_new, slA_l, slA_t, slA_new, addTD_t, addCD_l, mulCD_l, isbD_b, isnotbD_b, mSplitC_s, gLstC, gTr, ggSub, lstK_l, lstK_r, addLD_eq]
            exact ⟨ps, us, _, _, rfl, rfl, by omega⟩
          | some up =>
            simp only [rate_tup, optD, sem0, List.map_cons, List.map_nil, List.length_cons, List.length_nil, gSeq, gNext, gRet, gRetN, gIfS, gSet, gPar, gAsg, gDrop, gVar, gC, gBin, gUn, gB, gTru, gAnd, gOr, gNot, gAndV, gOrV, gNotV, gIf, gChain, gaNil, gaCons, DL.gTup, gLst, gCB, gCall0, gAug, addD_i, addD_s, addD_l, addD_t, subD_i, mulD_i, mulD_l, fdivD_i, modD_i, powD_i, ltD_i, ltD_s, leD_i, gtD_i, geD_i, isD_n, isnotD_n, isNonD_non, isNonD_bl, isNonD_int, isNonD_str, isNonD_lst, isNonD_tup, negD_i, iaddD_i, truD_non, truD_bl, truD_int, truD_str, truD_lst, truD_tup, someK_some, ixD_l, ixD_t, fAbs_i, fInt_i, fInt_b, fMin2_i, fLen_l, fLen_t, fLen_s, fList_l, fList_t, fTuple_l, fTuple_t, optBK_some, fIsi_non, fIsi_bl, fIsi_int, fIsi_str, fIsi_lst, fIsi_tup, List.getElem?_cons_zero, List.getElem?_cons_succ, List.set_cons_zero, List.set_cons_succ, DL.ggName, ggNil0, ggCons1, ggTup2, ggTup3, gFor, giSeq, gLc, gYes, wipeR, true_and, and_true, at_0, at_1, at_2, kit_int_int, kit_bool_int, kit_str_int, kit_non_int, kit_list_int, kit_tuple_int, kit_int_bool, kit_bool_bool, kit_str_bool, kit_non_bool, kit_list_bool, kit_tuple_bool, kit_int_str, kit_bool_str, kit_str_str, kit_non_str, kit_list_str, kit_tuple_str, kit_int_list, kit_bool_list, kit_str_list, kit_non_list, kit_list_list, kit_tuple_list, kit_int_tuple, kit_bool_tuple, kit_str_tuple, kit_non_tuple, kit_list_tuple, kit_tuple_tuple, eqD_i, neD_i, eqD_s, neD_s, eqD_f, neD_f, Nat.zero_add, Nat.reduceAdd, nc0, nc1, nc2, nc3, nc4, nc5, nc6, nc7, nc8, nc9, eq_self, decide_true, decide_false, Int.reduceEq, Int.reduceLT, Int.reduceLE, Int.reduceNeg, Bool.not_true, Bool.not_false, Bool.false_eq_true, if_true, if_false, ↓reduceIte, false_and, and_false, List.all_cons, List.all_nil, List.any_cons, List.any_nil, id_eq, Bool.and_true, Bool.true_and, Bool.or_false, Bool.false_or, Bool.and_false, Bool.false_and, gCut, eqD_b, neD_b, giZip, reduceCtorEq, Bool.true_eq_false, Bool.false_eq_true, gRevL, gSl, goNone, goSome, slD_l, ne_eq, not_false_eq_true, not_true_eq_false, gBM, isTy_l, isTy_s, new_at, new_set, isTy_new, cellK_new, append_new, popAt_new, gFrz_eq, frzK_new, fLen_new, fTuple_new, ixD_new, slA_l, slA_t, slA_new, addTD_t, addCD_l, mulCD_l, isbD_b, isnotbD_b, mSplitC_s, gLstC, gTr, ggSub, lstK_l, lstK_r, addLD_eq]
            refine ⟨by decide, by rw [List.length_map]; exact le_sl (by simp; omega), ps, us ++ [up - 1, up], _, _, rfl, by rw [List.map_append]; rfl, by rw [List.length_append]; simp; omega⟩
theorem units_use {w : Wd} {c : Nat} {kx : KX} {k : KD} {rs : List Row} (n : Nat) (hr : RowsOk rs 8) (hn : w.n = some c) (hc : n + 2 ≤ c) (h : ∀ (us : List Int) c', n ≤ c' → k (.lst (us.map D.int)) ⟨w.M, some c'⟩) : sp__law_units [.st, .tup (rs.map rowD)] w kx k := ⟨rs, c, n, rfl, ⟨hr, hn, hc⟩, h⟩
theorem ok__law_units {P : Program} {w : World} {K : PySem.W.Frag} {mg : Str → Option Value} {base : Heap} (T : DefAt K mg "_law_units" s__law_units ["_law_state", "_law_rows_here"]) (B : Blt mg) (F__law_take : FnAt P w K mg base CX0 1 "_law_take" 2 sp__law_take) : FnAt P w K mg base CX0 2 "_law_units" 2 sp__law_units := (w__law_units T B F__law_take).imp v__law_units


end LW

namespace LW
open PySem PySem.Spec PyProof.Rows L2 RZ DL

theorem restP_eq {rs : List Row} {u : Int} (h : ∀ r ∈ rs, RowOk r) : restP rs u = restLw rs u := by
  unfold restP restLw
  have hL : ∀ z ∈ lenRows rs, IsLen z := fun z hz => by
    obtain ⟨g1, g2⟩ := flt_mem hz
    obtain ⟨s, l, rfl⟩ := kind_len g2
    exact ⟨s, l, rfl, (h _ g1).1, (h _ g1).2⟩
  obtain ⟨c1, _⟩ := tot_bd hL
  cases e : lenRows rs with
  | nil =>
    rw [show totR [] = 0 from rfl, if_neg (by decide)]
    rfl
  | cons a as =>
    rw [e, List.length_cons] at c1
    rw [if_pos (by omega)]
    rfl
def sp_waits_at : GF := fun ds w _ k => ∃ (rs : List Row) (u : Int), ds = [.tup (rs.map rowD), .int u] ∧ RowsOk rs 8 ∧ k (fD (restLw rs u)) w
abbrev s_waits_at : Stmt := topS 12
theorem sc_waits_at : FnScope ["rows", "unit"] ["rows", "unit"] (defScope s_waits_at) := ⟨rfl, rfl, rfl, by decide +kernel, rfl, by decide +kernel, by decide +kernel⟩
def g_waits_at (C_Parting : Addr) : GS := (gRet (gFld C_Parting (gMake C_Parting 3 (sp_Parting___init__ C_Parting) (gaCons (gVar 0) (gaCons (gVar 1) gaNil))) "rest"))
theorem w_waits_at {P : Program} {w : World} {K : PySem.W.Frag} {mg : Str → Option Value} {base : Heap} (T : DefAt K mg "waits_at" s_waits_at ["rows", "unit"]) (B : Blt mg) {C_Parting : Addr} (CL_Parting : ClsAt K mg "Parting" C_Parting ["told", "rest"]) (F_Parting___init__ : InAt P w K mg base CX0 6 C_Parting 3 (sp_Parting___init__ C_Parting)) : FnAt P w K mg base CX0 8 "waits_at" 2 (sem0 2 (g_waits_at C_Parting)) := by
  have nd := sc_waits_at.nd
  exact T.fn0 sc_waits_at (fun f cdv A outer s H E hr => (dss_one (ds_ret (de_fld CL_Parting (by decide +kernel) (de_make CL_Parting F_Parting___init__ hr (by rfl) (da_cons (de_var 0) (da_cons (de_var 1) da_nil)))))))

theorem v_waits_at (C : Addr) : ∀ ds w kx k, sp_waits_at ds w kx k → gTr (sem0 2 (g_waits_at C)) ds w kx k := by
  rintro ds w kx k ⟨rs, u, rfl, hr, hk⟩
  have e : rho 2 [D.tup (rs.map rowD), D.int u] = [some (.tup (rs.map rowD)), some (.int u)] := rfl
  simp only [g_waits_at, e, gFld, gMake, rfK_r, sp_Parting___init__, sem0, List.map_cons, List.map_nil, List.length_cons, List.length_nil, gSeq, gNext, gRet, gRetN, gIfS, gSet, gPar, gAsg, gDrop, gVar, gC, gBin, gUn, gB, gTru, gAnd, gOr, gNot, gAndV, gOrV, gNotV, gIf, gChain, gaNil, gaCons, DL.gTup, gLst, gCB, gCall0, gAug, addD_i, addD_s, addD_l, addD_t, subD_i, mulD_i, mulD_l, fdivD_i, modD_i, powD_i, ltD_i, ltD_s, leD_i, gtD_i, geD_i, isD_n, isnotD_n, isNonD_non, isNonD_bl, isNonD_int, isNonD_str, isNonD_lst, isNonD_tup, negD_i, iaddD_i, truD_non, truD_bl, truD_int, truD_str, truD_lst, truD_tup, someK_some, ixD_l, ixD_t, fAbs_i, fInt_i, fInt_b, fMin2_i, fLen_l, fLen_t, fLen_s, fList_l, fList_t, fTuple_l, fTuple_t, optBK_some, fIsi_non, fIsi_bl, fIsi_int, fIsi_str, fIsi_lst, fIsi_tup, List.getElem?_cons_zero, List.getElem?_cons_succ, List.set_cons_zero, List.set_cons_succ, DL.ggName, ggNil0, ggCons1, ggTup2, ggTup3, gFor, giSeq, gLc, gYes, wipeR, true_and, and_true, at_0, at_1, at_2, kit_int_int, kit_bool_int, kit_str_int, kit_non_int, kit_list_int, kit_tuple_int, kit_int_bool, kit_bool_bool, kit_str_bool, kit_non_bool, kit_list_bool, kit_tuple_bool, kit_int_str, kit_bool_str, kit_str_str, kit_non_str, kit_list_str, kit_tuple_str, kit_int_list, kit_bool_list, kit_str_list, kit_non_list, kit_list_list, kit_tuple_list, kit_int_tuple, kit_bool_tuple, kit_str_tuple, kit_non_tuple, kit_list_tuple, kit_tuple_tuple, eqD_i, neD_i, eqD_s, neD_s, eqD_f, neD_f, Nat.zero_add, Nat.reduceAdd, nc0, nc1, nc2, nc3, nc4, nc5, nc6, nc7, nc8, nc9, eq_self, decide_true, decide_false, Int.reduceEq, Int.reduceLT, Int.reduceLE, Int.reduceNeg, Bool.not_true, Bool.not_false, Bool.false_eq_true, if_true, if_false, ↓reduceIte, false_and, and_false, List.all_cons, List.all_nil, List.any_cons, List.any_nil, id_eq, Bool.and_true, Bool.true_and, Bool.or_false, Bool.false_or, Bool.and_false, Bool.false_and, gCut, eqD_b, neD_b, giZip, reduceCtorEq, Bool.true_eq_false, Bool.false_eq_true, gRevL, gSl, goNone, goSome, slD_l, ne_eq, not_false_eq_true, not_true_eq_false, gBM, isTy_l, isTy_s, new_at, new_set, isTy_new, cellK_new, append_new, popAt_new, gFrz_eq, frzK_new, fLen_new, fTuple_new, ixD_new, slA_l, slA_t, slA_new, addTD_t, addCD_l, mulCD_l, isbD_b, isnotbD_b, mSplitC_s, gLstC, gTr, ggSub, lstK_l, lstK_r, addLD_eq]
  refine ⟨w.M, w.n, rs, u, rfl, rfl, hr, ?_⟩
  simp only [PI, insK20, look_rest, rfK_r, sem0, List.map_cons, List.map_nil, List.length_cons, List.length_nil, gSeq, gNext, gRet, gRetN, gIfS, gSet, gPar, gAsg, gDrop, gVar, gC, gBin, gUn, gB, gTru, gAnd, gOr, gNot, gAndV, gOrV, gNotV, gIf, gChain, gaNil, gaCons, DL.gTup, gLst, gCB, gCall0, gAug, addD_i, addD_s, addD_l, addD_t, subD_i, mulD_i, mulD_l, fdivD_i, modD_i, powD_i, ltD_i, ltD_s, leD_i, gtD_i, geD_i, isD_n, isnotD_n, isNonD_non, isNonD_bl, isNonD_int, isNonD_str, isNonD_lst, isNonD_tup, negD_i, iaddD_i, truD_non, truD_bl, truD_int, truD_str, truD_lst, truD_tup, someK_some, ixD_l, ixD_t, fAbs_i, fInt_i, fInt_b, fMin2_i, fLen_l, fLen_t, fLen_s, fList_l, fList_t, fTuple_l, fTuple_t, optBK_some, fIsi_non, fIsi_bl, fIsi_int, fIsi_str, fIsi_lst, fIsi_tup, List.getElem?_cons_zero, List.getElem?_cons_succ, List.set_cons_zero, List.set_cons_succ, DL.ggName, ggNil0, ggCons1, ggTup2, ggTup3, gFor, giSeq, gLc, gYes, wipeR, true_and, and_true, at_0, at_1, at_2, kit_int_int, kit_bool_int, kit_str_int, kit_non_int, kit_list_int, kit_tuple_int, kit_int_bool, kit_bool_bool, kit_str_bool, kit_non_bool, kit_list_bool, kit_tuple_bool, kit_int_str, kit_bool_str, kit_str_str, kit_non_str, kit_list_str, kit_tuple_str, kit_int_list, kit_bool_list, kit_str_list, kit_non_list, kit_list_list, kit_tuple_list, kit_int_tuple, kit_bool_tuple, kit_str_tuple, kit_non_tuple, kit_list_tuple, kit_tuple_tuple, eqD_i, neD_i, eqD_s, neD_s, eqD_f, neD_f, Nat.zero_add, Nat.reduceAdd, nc0, nc1, nc2, nc3, nc4, nc5, nc6, nc7, nc8, nc9, eq_self, decide_true, decide_false, Int.reduceEq, Int.reduceLT, Int.reduceLE, Int.reduceNeg, Bool.not_true, Bool.not_false, Bool.false_eq_true, if_true, if_false, ↓reduceIte, false_and, and_false, List.all_cons, List.all_nil, List.any_cons, List.any_nil, id_eq, Bool.and_true, Bool.true_and, Bool.or_false, Bool.false_or, Bool.and_false, Bool.false_and, gCut, eqD_b, neD_b, giZip, reduceCtorEq, Bool.true_eq_false, Bool.false_eq_true, gRevL, gSl, goNone, goSome, slD_l, ne_eq, not_false_eq_true, not_true_eq_false, gBM, isTy_l, isTy_s, new_at, new_set, isTy_new, cellK_new, append_new, popAt_new, gFrz_eq, frzK_new, fLen_new, fTuple_new, ixD_new, slA_l, slA_t, slA_new, addTD_t, addCD_l, mulCD_l, isbD_b, isnotbD_b, mSplitC_s, gLstC, gTr, ggSub, lstK_l, lstK_r, addLD_eq]
  rw [restP_eq hr.ok]
  exact ⟨⟨_, rfl⟩, rfl, hk⟩
theorem ok_waits_at {P : Program} {w : World} {K : PySem.W.Frag} {mg : Str → Option Value} {base : Heap} (T : DefAt K mg "waits_at" s_waits_at ["rows", "unit"]) (B : Blt mg) {C_Parting : Addr} (CL_Parting : ClsAt K mg "Parting" C_Parting ["told", "rest"]) (F_Parting___init__ : InAt P w K mg base CX0 6 C_Parting 3 (sp_Parting___init__ C_Parting)) : FnAt P w K mg base CX0 8 "waits_at" 2 sp_waits_at := (w_waits_at T B CL_Parting F_Parting___init__).trunc.imp (v_waits_at C_Parting)


end LW

namespace LW
open PySem PySem.Spec PyProof.Rows L2 RZ DL

/-! ### sums that come to one (for k09) -/
theorem add_norm {a b c d : Int} (hb : b ≠ 0) (hd : d ≠ 0) : sumQ [norm a b, norm c d] = norm (a * d + c * b) (b * d) := by
  have h1 := (fr_norm (t := a) hb).pos
  have h2 := (fr_norm (t := c) hd).pos
  have e1 := norm_eq (t := a) hb
  have e2 := norm_eq (t := c) hd
  rw [sum_two]
  refine norm_cross (Int.mul_ne_zero (by omega) (by omega)) (Int.mul_ne_zero hb hd) ?_
  rw [Int.add_mul, Int.add_mul]
  have x1 : (norm a b).1 * (norm c d).2 * (b * d) = a * d * ((norm a b).2 * (norm c d).2) := by
    calc (norm a b).1 * (norm c d).2 * (b * d) = (norm a b).1 * b * ((norm c d).2 * d) := by ac_rfl
      _ = a * (norm a b).2 * ((norm c d).2 * d) := by rw [e1]
      _ = a * d * ((norm a b).2 * (norm c d).2) := by ac_rfl
  have x2 : (norm c d).1 * (norm a b).2 * (b * d) = c * b * ((norm a b).2 * (norm c d).2) := by
    calc (norm c d).1 * (norm a b).2 * (b * d) = (norm c d).1 * d * ((norm a b).2 * b) := by ac_rfl
      _ = c * (norm c d).2 * ((norm a b).2 * b) := by rw [e2]
      _ = c * b * ((norm a b).2 * (norm c d).2) := by ac_rfl
  rw [x1, x2]
theorem add_scale {a c b : Int} (hb : b ≠ 0) : sumQ [norm a b, norm c b] = norm (a + c) b := by
  rw [add_norm hb hb]
  refine norm_cross (Int.mul_ne_zero hb hb) hb ?_
  rw [← Int.add_mul]
  ac_rfl
theorem sum_app {xs ys : List Qp} (hx : ∀ x ∈ xs, Fr x) (hy : ∀ x ∈ ys, Fr x) : sumQ (xs ++ ys) = sumQ [sumQ xs, sumQ ys] := by
  have e : sumQ [sumQ xs, sumQ ys] = sumQ [norm (Nt xs) (Pb xs), norm (Nt ys) (Pb ys)] := rfl
  rw [e, add_norm (Pb_ne hx) (Pb_ne hy)]
  unfold sumQ
  rw [Nt_app, Pb_app, Int.mul_comm (Nt ys)]
theorem sub_add {y x : Qp} (hy : Fr y) (hx : Fr x) : sumQ [subQ y x, x] = y := by
  have h1 := hx.pos
  have h2 := hy.pos
  have b : x.2 * y.2 ≠ 0 := Int.mul_ne_zero (by omega) (by omega)
  have e : x = norm (x.1 * y.2) (x.2 * y.2) := by
    rw [norm_scale (by omega) (by omega)]
    exact (norm_self hx).symm
  have e2 : sumQ [subQ y x, x] = sumQ [norm (y.1 * x.2 - x.1 * y.2) (x.2 * y.2), norm (x.1 * y.2) (x.2 * y.2)] := by
    rw [← e]
    rfl
  rw [e2, add_scale b, Int.sub_add_cancel, Int.mul_comm x.2 y.2, norm_scale (by omega) (by omega)]
  exact norm_self hy
/-- the rest and the first parts come to one -/
theorem rest0_sum {rs : List Row} {u : Int} (h : ∀ r ∈ rs, RowOk r) : sumQ [rest0 rs u, sumQ ((told0 rs u).map Prod.snd)] = (1, 1) :=
  sub_add ⟨by decide, by decide⟩ (fr_sum fun q hq => (told0_ok (u := u) h q hq).1)
theorem sum_snoc2 {xs : List Qp} {m : Qp} (hx : ∀ x ∈ xs, Fr x) (hm : Fr m) : sumQ (xs ++ [m]) = sumQ [sumQ xs, m] := by
  rw [sum_app hx fun y hy => by rw [List.mem_singleton.mp hy]; exact hm, sumQ_one hm]
/-- the left rows' parts and what they leave are what there was -/
theorem lefts_sum : ∀ {rs : List Row} {r : Qp}, Fr r → (∀ x ∈ rs, RowOk x) → (∀ x ∈ (lefts rs r).1, Fr x.2) ∧ Fr (lefts rs r).2 ∧ sumQ ((lefts rs r).2 :: (lefts rs r).1.map Prod.snd) = r
  | [], r, hr, _ => ⟨fun _ h => (nomatch h), hr, sumQ_one hr⟩
  | .left n p :: rs, r, hr, h => by
    have hp : Part p := h _ List.mem_cons_self
    obtain ⟨f1, _, f2, _⟩ := left_ok (a := max r.1.natAbs r.2.natAbs) hr hp ⟨Nat.lt_of_le_of_lt (Nat.le_max_left _ _) Nat.lt_two_pow_self, Nat.lt_of_le_of_lt (Nat.le_max_right _ _) Nat.lt_two_pow_self⟩
    obtain ⟨g1, g2, g3⟩ := lefts_sum (rs := rs) f1 fun x hx => h x (List.mem_cons_of_mem _ hx)
    refine ⟨fun x hx => ?_, g2, ?_⟩
    · rcases List.mem_cons.mp hx with rfl | hx
      · exact f2
      · exact g1 x hx
    · have hall : ∀ x ∈ (lefts rs (subQ r (mulQ r p))).2 :: (lefts rs (subQ r (mulQ r p))).1.map Prod.snd, Fr x := fun x hx => by
        rcases List.mem_cons.mp hx with rfl | hx
        · exact g2
        · obtain ⟨y, hy, rfl⟩ := List.mem_map.mp hx
          exact g1 y hy
      have e : sumQ ((lefts (.left n p :: rs) r).2 :: (lefts (.left n p :: rs) r).1.map Prod.snd) = sumQ (((lefts rs (subQ r (mulQ r p))).2 :: (lefts rs (subQ r (mulQ r p))).1.map Prod.snd) ++ [mulQ r p]) := by
        refine sumQ_perm ?_
        show ((lefts rs (subQ r (mulQ r p))).2 :: mulQ r p :: (lefts rs (subQ r (mulQ r p))).1.map Prod.snd).Perm _
        refine (List.Perm.swap _ _ _).trans ?_
        exact (List.perm_append_comm (l₁ := [mulQ r p]))
      rw [e, sum_snoc2 hall f2, g3]
      exact sub_add hr f2
  | .of n p :: rs, r, hr, h => lefts_sum (rs := rs) hr fun x hx => h x (List.mem_cons_of_mem _ hx)
  | .steps n p :: rs, r, hr, h => lefts_sum (rs := rs) hr fun x hx => h x (List.mem_cons_of_mem _ hx)
  | .length n p :: rs, r, hr, h => lefts_sum (rs := rs) hr fun x hx => h x (List.mem_cons_of_mem _ hx)
theorem lens_sum {r : Qp} {e : Int} (hr : Fr r) (he : e ≠ 0) : ∀ rs : List Row, sumQ ((lensE r e rs).map Prod.snd) = norm (r.1 * totR rs) (r.2 * e)
  | [] => by
    have b : r.2 * e ≠ 0 := Int.mul_ne_zero (by have := hr.pos; omega) he
    rw [show totR [] = 0 from rfl, Int.mul_zero]
    have z : norm 0 (r.2 * e) = ((0, 1) : Qp) := norm_of b ⟨by decide, by decide⟩ (by show (0 : Int) * _ = 0 * _; omega)
    rw [z]
    exact sumQ_nil
  | x :: rs => by
    have b : r.2 * e ≠ 0 := Int.mul_ne_zero (by have := hr.pos; omega) he
    have ih := lens_sum hr he rs
    have hf : ∀ y ∈ (lensE r e rs).map Prod.snd, Fr y := fun y hy => by
      obtain ⟨z, hz, rfl⟩ := List.mem_map.mp hy
      obtain ⟨t, _, rfl⟩ := List.mem_map.mp hz
      exact fr_norm b
    have e1 : sumQ ((lensE r e (x :: rs)).map Prod.snd) = sumQ ([norm (r.1 * lenR x) (r.2 * e)] ++ (lensE r e rs).map Prod.snd) := rfl
    rw [e1, sum_app (fun y hy => by rw [List.mem_singleton.mp hy]; exact fr_norm b) hf, sumQ_one (fr_norm b), ih, add_scale b, ← Int.mul_add]
    congr 2
/-! the names' sums together are the sum of all parts above nought -/
theorem filter_or {α : Type} (q r : α → Bool) (h : ∀ x, ¬ (q x = true ∧ r x = true)) : ∀ T : List α, (T.filter fun x => q x || r x).Perm (T.filter q ++ T.filter r)
  | [] => .refl _
  | x :: T => by
    have ih := filter_or q r h T
    cases hq : q x with
    | true =>
      have hr : r x = false := by
        cases hr : r x with
        | false => rfl
        | true => exact absurd ⟨hq, hr⟩ (h x)
      rw [List.filter_cons, List.filter_cons, List.filter_cons, hq, hr]
      exact ih.cons x
    | false =>
      cases hr : r x with
      | false =>
        rw [List.filter_cons, List.filter_cons, List.filter_cons, hq, hr]
        exact ih
      | true =>
        rw [List.filter_cons, List.filter_cons, List.filter_cons, hq, hr]
        exact (ih.cons x).trans List.perm_middle.symm
theorem names_perm (T : Told) : ∀ {ys : List Str}, ys.Nodup → ((T.filter fun x => decide (x.1 ∈ ys) && decide (0 < x.2.1)).map Prod.snd).Perm ((ys.map fun s => nameParts s T).flatten)
  | [], _ => by
    have : (T.filter fun x => decide (x.1 ∈ ([] : List Str)) && decide (0 < x.2.1)) = [] := List.filter_eq_nil_iff.mpr fun x _ => by simp
    rw [this]
    exact .refl _
  | y :: ys, nd => by
    rw [List.nodup_cons] at nd
    have ih := names_perm T nd.2
    have e : (fun x : Str × Qp => decide (x.1 ∈ y :: ys) && decide (0 < x.2.1)) = fun x => (decide (x.1 = y) && decide (0 < x.2.1)) || (decide (x.1 ∈ ys) && decide (0 < x.2.1)) := by
      funext x
      rw [← Bool.and_or_distrib_right]
      congr 1
      rw [Bool.eq_iff_iff]
      simp
    rw [e, List.map_cons, List.flatten_cons]
    refine ((filter_or _ _ (fun x ⟨h1, h2⟩ => ?_) T).map Prod.snd).trans ?_
    · rw [List.map_append]
      exact List.Perm.append (.refl _) ih
    · rw [Bool.and_eq_true, decide_eq_true_eq] at h1 h2
      obtain ⟨h1, _⟩ := h1
      obtain ⟨h2, _⟩ := h2
      exact nd.1 (h1 ▸ h2)
theorem sum_flat : ∀ {ls : List (List Qp)}, (∀ l ∈ ls, ∀ x ∈ l, Fr x) → sumQ ls.flatten = sumQ (ls.map sumQ)
  | [], _ => rfl
  | l :: ls, h => by
    have hl : ∀ x ∈ l, Fr x := h l List.mem_cons_self
    have hls : ∀ m ∈ ls, ∀ x ∈ m, Fr x := fun m hm => h m (List.mem_cons_of_mem _ hm)
    have hf : ∀ x ∈ ls.flatten, Fr x := fun x hx => by
      obtain ⟨m, hm, hx⟩ := List.mem_flatten.mp hx
      exact hls m hm x hx
    have hm : ∀ x ∈ ls.map sumQ, Fr x := fun x hx => by
      obtain ⟨m, hm, rfl⟩ := List.mem_map.mp hx
      exact fr_sum (hls m hm)
    have e : sumQ ((l :: ls).map sumQ) = sumQ ([sumQ l] ++ ls.map sumQ) := rfl
    rw [List.flatten_cons, sum_app hl hf, sum_flat hls, e, sum_app (fun x hx => by rw [List.mem_singleton.mp hx]; exact fr_sum hl) hm, sumQ_one (fr_sum hl)]
theorem group_sum {T : Told} {ys : List Str} (hT : ∀ x ∈ T, Fr x.2) (h : IsKeys T ys) : sumQ ((pairsOf ys T).map Prod.snd) = sumQ ((T.filter fun x => decide (0 < x.2.1)).map Prod.snd) := by
  have e1 : (pairsOf ys T).map Prod.snd = (ys.map fun s => nameParts s T).map sumQ := by
    unfold pairsOf
    rw [List.map_map, List.map_map]
    rfl
  have e2 : (T.filter fun x => decide (0 < x.2.1)) = T.filter fun x => decide (x.1 ∈ ys) && decide (0 < x.2.1) := by
    refine List.filter_congr fun x hx => ?_
    by_cases hp : 0 < x.2.1
    · rw [decide_eq_true hp, decide_eq_true ((h.mem x.1).mpr ⟨x.2, hx, hp⟩)]
      rfl
    · rw [decide_eq_false hp, Bool.and_false]
  rw [e1, e2, ← sum_flat fun l hl x hx => ?_]
  · exact (sumQ_perm (names_perm T h.nd)).symm
  · obtain ⟨s, _, rfl⟩ := List.mem_map.mp hl
    exact hT _ (np_mem hx).1
theorem fr_zero {x : Qp} (h : Fr x) (h0 : x.1 = 0) : x = (0, 1) := by
  have h1 := h.cop
  rw [h0, Int.gcd_zero_left] at h1
  have := h.pos
  exact Prod.ext h0 (by show x.2 = 1; omega)
theorem sum_zero (xs : List Qp) : sumQ ((0, 1) :: xs) = sumQ xs := by
  unfold sumQ
  congr 1
  · show 0 * Pb xs + 1 * Nt xs = Nt xs
    omega
  · show 1 * Pb xs = Pb xs
    omega
theorem sum_cons {x : Qp} {xs : List Qp} (hx : Fr x) (h : ∀ y ∈ xs, Fr y) : sumQ (x :: xs) = sumQ [x, sumQ xs] := by
  have := sum_app (xs := [x]) (ys := xs) (fun y hy => by rw [List.mem_singleton.mp hy]; exact hx) h
  rw [sumQ_one hx] at this
  exact this
theorem sum_pos : ∀ {T : Told}, (∀ x ∈ T, Fr x.2 ∧ 0 ≤ x.2.1) → sumQ ((T.filter fun x => decide (0 < x.2.1)).map Prod.snd) = sumQ (T.map Prod.snd)
  | [], _ => rfl
  | x :: T, h => by
    have hx := h x List.mem_cons_self
    have hT : ∀ y ∈ T, Fr y.2 ∧ 0 ≤ y.2.1 := fun y hy => h y (List.mem_cons_of_mem _ hy)
    have ih := sum_pos hT
    have f1 : ∀ y ∈ (T.filter fun x => decide (0 < x.2.1)).map Prod.snd, Fr y := fun y hy => by
      obtain ⟨z, hz, rfl⟩ := List.mem_map.mp hy
      exact (hT z (List.mem_filter.mp hz).1).1
    have f2 : ∀ y ∈ T.map Prod.snd, Fr y := fun y hy => by
      obtain ⟨z, hz, rfl⟩ := List.mem_map.mp hy
      exact (hT z hz).1
    by_cases hp : 0 < x.2.1
    · rw [List.filter_cons, if_pos (decide_eq_true hp), List.map_cons, List.map_cons, sum_cons hx.1 f1, sum_cons hx.1 f2, ih]
    · have e : x.2 = (0, 1) := fr_zero hx.1 (by have := hx.2; omega)
      rw [List.filter_cons, if_neg (by rw [decide_eq_false hp]; decide), List.map_cons, e, sum_zero, ih]

end LW

namespace LW
open PySem PySem.Spec PyProof.Rows L2 RZ DL

theorem total {rs : List Row} {u : Int} (h : ∀ r ∈ rs, RowOk r) (hl : rs.length ≤ 8) : sumQ (restP rs u :: (tellP rs u).map Prod.snd) = (1, 1) := by
  obtain ⟨f0, _⟩ := rest0_ok (u := u) h hl
  obtain ⟨g1, g2, g3⟩ := lefts_sum f0 h
  have hF : ∀ x ∈ (told0 rs u).map Prod.snd, Fr x := fun x hx => (told0_ok (u := u) h x hx).1
  have hL : ∀ x ∈ (lefts rs (rest0 rs u)).1.map Prod.snd, Fr x := fun x hx => by
    obtain ⟨y, hy, rfl⟩ := List.mem_map.mp hx
    exact g1 y hy
  have hrL : ∀ x ∈ (lefts rs (rest0 rs u)).2 :: (lefts rs (rest0 rs u)).1.map Prod.snd, Fr x := fun x hx => by
    rcases List.mem_cons.mp hx with rfl | hx
    · exact g2
    · exact hL x hx
  have base : sumQ ((told0 rs u).map Prod.snd ++ ((lefts rs (rest0 rs u)).2 :: (lefts rs (rest0 rs u)).1.map Prod.snd)) = (1, 1) := by
    rw [sum_app hF hrL, g3, sumQ_perm (List.Perm.swap _ _ _)]
    exact rest0_sum h
  have hLen : ∀ z ∈ lenRows rs, IsLen z := fun z hz => by
    obtain ⟨a1, a2⟩ := flt_mem hz
    obtain ⟨s, l, rfl⟩ := kind_len a2
    exact ⟨s, l, rfl, (h _ a1).1, (h _ a1).2⟩
  obtain ⟨c1, _⟩ := tot_bd hLen
  unfold restP tellP
  cases e : lenRows rs with
  | nil =>
    show sumQ ((lefts rs (rest0 rs u)).2 :: (told0 rs u ++ (lefts rs (rest0 rs u)).1 ++ []).map Prod.snd) = _
    rw [List.append_nil, List.map_append, ← base]
    exact sumQ_perm List.perm_middle.symm
  | cons a as =>
    show sumQ ((0, 1) :: _) = _
    rw [e, List.length_cons] at c1
    have e0 : totR (a :: as) ≠ 0 := by omega
    have p2 := g2.pos
    have b : (lefts rs (rest0 rs u)).2.2 * totR (a :: as) ≠ 0 := Int.mul_ne_zero (by omega) e0
    have hE : ∀ x ∈ (lensE (lefts rs (rest0 rs u)).2 (totR (a :: as)) (a :: as)).map Prod.snd, Fr x := fun x hx => by
      obtain ⟨y, hy, rfl⟩ := List.mem_map.mp hx
      obtain ⟨z, _, rfl⟩ := List.mem_map.mp hy
      exact fr_norm b
    have hA : ∀ x ∈ (told0 rs u ++ (lefts rs (rest0 rs u)).1).map Prod.snd, Fr x := fun x hx => by
      rw [List.map_append] at hx
      rcases List.mem_append.mp hx with hx | hx
      · exact hF x hx
      · exact hL x hx
    rw [sum_zero, List.map_append, sum_app hA hE, lens_sum g2 e0, norm_scale (by omega) e0, norm_self g2, ← sum_snoc2 hA g2, ← base]
    refine sumQ_perm ?_
    rw [List.map_append, List.append_assoc]
    exact List.Perm.append (.refl _) List.perm_append_comm

theorem norm_nn {t b : Int} (ht : 0 ≤ t) (hb : 0 < b) : 0 ≤ (norm t b).1 := by
  have e := norm_eq (t := t) (show b ≠ 0 by omega)
  have p := (fr_norm (t := t) (show b ≠ 0 by omega)).pos
  have h : 0 ≤ (norm t b).1 * b := by
    rw [e]
    exact Int.mul_nonneg ht (by omega)
  by_cases hn : 0 ≤ (norm t b).1
  · exact hn
  · have := Int.mul_neg_of_neg_of_pos (show (norm t b).1 < 0 by omega) hb
    omega
def LeftOk : Row → Prop
  | .left _ p => p.1 ≤ p.2
  | _ => True
theorem lefts_nn : ∀ {rs : List Row} {r : Qp}, Fr r → 0 ≤ r.1 → (∀ x ∈ rs, RowOk x ∧ LeftOk x) → (∀ x ∈ (lefts rs r).1, 0 ≤ x.2.1) ∧ 0 ≤ (lefts rs r).2.1
  | [], r, _, h0, _ => ⟨fun _ h => (nomatch h), h0⟩
  | .left n p :: rs, r, hr, h0, h => by
    obtain ⟨hp, hq⟩ := h _ List.mem_cons_self
    have hp : Part p := hp
    have hq : p.1 ≤ p.2 := hq
    have p1 := hr.pos
    have p2 := hp.fr.pos
    have p3 := hp.pos
    have b : 0 < r.2 * p.2 := Int.mul_pos p1 p2
    have s1 : Fr (subQ r (mulQ r p)) := by rw [left_step hr hp.fr]; exact fr_norm (by omega)
    have s2 : 0 ≤ (subQ r (mulQ r p)).1 := by rw [left_step hr hp.fr]; exact norm_nn (Int.mul_nonneg h0 (by omega)) b
    obtain ⟨g1, g2⟩ := lefts_nn (rs := rs) s1 s2 fun x hx => h x (List.mem_cons_of_mem _ hx)
    refine ⟨fun x hx => ?_, g2⟩
    rcases List.mem_cons.mp hx with rfl | hx
    · exact norm_nn (Int.mul_nonneg h0 (by omega)) b
    · exact g1 x hx
  | .of n p :: rs, r, hr, h0, h => lefts_nn (rs := rs) hr h0 fun x hx => h x (List.mem_cons_of_mem _ hx)
  | .steps n p :: rs, r, hr, h0, h => lefts_nn (rs := rs) hr h0 fun x hx => h x (List.mem_cons_of_mem _ hx)
  | .length n p :: rs, r, hr, h0, h => lefts_nn (rs := rs) hr h0 fun x hx => h x (List.mem_cons_of_mem _ hx)
theorem told0_nn {rs : List Row} {u : Int} (h : ∀ r ∈ rs, RowOk r) : ∀ x ∈ told0 rs u, 0 ≤ x.2.1 := fun x hx => by
  rcases List.mem_append.mp hx with hx | hx
  · obtain ⟨r, hr, e⟩ := List.mem_filterMap.mp hx
    have := h r hr
    cases r with
    | of n q =>
      cases e
      exact Int.le_of_lt this.pos
    | _ => cases e
  · obtain ⟨r, hr, e⟩ := List.mem_filterMap.mp hx
    have := h r hr
    cases r with
    | steps n q =>
      cases e
      exact (partAt_ok (u := u) this.2.1).pos
    | _ => cases e
theorem rest0_nn {rs : List Row} {u : Int} (h : ∀ r ∈ rs, RowOk r) (hw : Wt ((told0 rs u).map Prod.snd) 60) : 0 ≤ (rest0 rs u).1 := by
  have hF : ∀ x ∈ (told0 rs u).map Prod.snd, Fr x := fun x hx => (told0_ok (u := u) h x hx).1
  have h1 := wt_sum hF hw
  have h2 := (fr_sum hF).pos
  exact norm_nn (t := 1 * (sumQ ((told0 rs u).map Prod.snd)).2 - (sumQ ((told0 rs u).map Prod.snd)).1 * 1) (b := (sumQ ((told0 rs u).map Prod.snd)).2 * 1) (by omega) (by omega)
theorem partAt_le {m u : Int} (hm : 0 ≤ m) : ∀ {qs : List Rate}, (∀ r ∈ qs, 60 * r.2.1 ≤ m * r.2.2) → 60 * (partAt qs u).1 ≤ m * (partAt qs u).2
  | [], _ => by show 60 * (0 : Int) ≤ m * 1; omega
  | (none, p) :: qs, h => h _ List.mem_cons_self
  | (some up, p) :: qs, h => by
    show 60 * (if u < up then p else partAt qs u).1 ≤ m * (if u < up then p else partAt qs u).2
    split
    · exact h _ List.mem_cons_self
    · exact partAt_le hm fun r hr => h r (List.mem_cons_of_mem _ hr)
/-- the first parts come to m sixtieths at most, at every unit -/
def UnitW (rs : List Row) (m : Int) : Prop := ∀ u, Wt ((told0 rs u).map Prod.snd) m
theorem wt_perm {xs ys : List Qp} {m : Int} (h : xs.Perm ys) (w : Wt xs m) : Wt ys m := by
  unfold Wt at *
  rw [← (Pb_perm h).1, ← (Pb_perm h).2]
  exact w
theorem unitW_nil {m : Int} (h : 0 ≤ m) : UnitW [] m := fun _ => wt_nil h
theorem unitW_add {rs : List Row} {r : Row} {m t : Int} (hs : ∀ x ∈ rs, RowOk x) (hr : RowOk r) (h : UnitW rs m) (ht : 0 ≤ t) (hw : RowW r t) : UnitW (rs ++ [r]) (m + t) := fun u => by
  have f1 : ∀ x ∈ (told0 rs u).map Prod.snd, Fr x := fun x hx => (told0_ok (u := u) hs x hx).1
  have hr1 : ∀ x ∈ [r], RowOk x := fun x hx => by rw [List.mem_singleton.mp hx]; exact hr
  have f2 : ∀ x ∈ (told0 [r] u).map Prod.snd, Fr x := fun x hx => (told0_ok (u := u) hr1 x hx).1
  have w2 : Wt ((told0 [r] u).map Prod.snd) t := by
    cases r with
    | of n p => exact wt_one hw
    | steps n qs => exact wt_one (partAt_le ht hw)
    | left n p => exact wt_nil ht
    | length n p => exact wt_nil ht
  refine wt_perm ?_ (wt_app f1 f2 (h u) w2)
  rw [← List.map_append]
  refine List.Perm.map _ ?_
  unfold told0
  rw [List.filterMap_append, List.filterMap_append, List.append_assoc, List.append_assoc]
  refine List.Perm.append (.refl _) ?_
  rw [← List.append_assoc, ← List.append_assoc]
  exact List.Perm.append List.perm_append_comm (.refl _)

end LW

namespace LW
open PySem PySem.Spec PyProof.Rows L2 RZ DL

/-- a row, and what it takes of the room -/
def sp__law_row : GF := fun ds w _ k => ∃ (s : Str) (room : Int) (c n : Nat), ds = [.st, .str s, .int room] ∧ ((0 ≤ room ∧ room ≤ 60) ∧ w.n = some c ∧ n + 20 ≤ c) ∧ ∀ r t c', RowOk r → LeftOk r → RowW r t → 0 ≤ t → t ≤ room → n ≤ c' → k (.tup [rowD r, .int t]) ⟨w.M, some c'⟩
theorem sixty {p : Qp} {m t : Int} (h : p.1 * 60 = t * p.2) (hp : 0 < p.2) (l : t ≤ m) : 60 * p.1 ≤ m * p.2 := by
  rw [Int.mul_comm, h]
  exact Int.mul_le_mul_of_nonneg_right l (by omega)
abbrev s__law_row : Stmt := topS 22
theorem sc__law_row : FnScope ["_law_state", "_law_name", "_law_room", "_law_way", "_law_most", "_law_rates", "_law_upto", "_law_turn"] ["_law_state", "_law_name", "_law_room"] (defScope s__law_row) := ⟨rfl, rfl, rfl, by decide +kernel, rfl, by decide +kernel, by decide +kernel⟩
def g__law_row : GS := (gSeq (gSet 3 (gCall0 2 sp__law_take (gaCons (gVar 0) (gaCons (gC (.int 8)) gaNil))))
  (gSeq (gIfS (gB (gBin gtD (gVar 3) (gC (.int 5)))) (gRet (gTup (gaCons (gTup (gaCons (gC (.str "length")) (gaCons (gVar 1) (gaCons (gBin addD (gC (.int 1)) (gCall0 2 sp__law_take (gaCons (gVar 0) (gaCons (gBin ixD (gLst (gaCons (gC (.int 5)) (gaCons (gC (.int 1000)) gaNil))) (gCall0 2 sp__law_take (gaCons (gVar 0) (gaCons (gC (.int 2)) gaNil)))) gaNil)))) gaNil)))) (gaCons (gC (.int 0)) gaNil)))) gNext)
  (gSeq (gIfS (gOr (gB (gBin gtD (gVar 3) (gC (.int 3)))) (gB (gBin eqD (gVar 2) (gC (.int 0))))) (gRet (gTup (gaCons (gTup (gaCons (gC (.str "left")) (gaCons (gVar 1) (gaCons (gCall0 1 sp__law_part (gaCons (gVar 0) gaNil)) gaNil)))) (gaCons (gC (.int 0)) gaNil)))) gNext)
  (gSeq (gSet 4 (gBin addD (gC (.int 1)) (gCall0 2 sp__law_take (gaCons (gVar 0) (gaCons (gCB fMin2 (gaCons (gVar 2) (gaCons (gBin ixD (gLst (gaCons (gC (.int 12)) (gaCons (gC (.int 60)) gaNil))) (gBin fdivD (gCall0 2 sp__law_take (gaCons (gVar 0) (gaCons (gC (.int 3)) gaNil))) (gC (.int 2)))) gaNil))) gaNil)))))
  (gSeq (gIfS (gB (gBin gtD (gVar 3) (gC (.int 1)))) (gRet (gTup (gaCons (gTup (gaCons (gC (.str "of")) (gaCons (gVar 1) (gaCons (gCall0 2 sp__law_lowest (gaCons (gVar 4) (gaCons (gC (.int 60)) gaNil))) gaNil)))) (gaCons (gVar 4) gaNil)))) gNext)
  (gSeq (gSet 5 (gLstC gaNil))
  (gSeq (gSet 6 (gC (.int 0)))
  (gSeq (gFor (giRange1 (gaCons (gBin addD (gC (.int 1)) (gCall0 2 sp__law_take (gaCons (gVar 0) (gaCons (gC (.int 3)) gaNil)))) gaNil)) (ggName 7) (gSeq (gSet 6 (gBin addD (gBin addD (gVar 6) (gC (.int 1))) (gCall0 2 sp__law_take (gaCons (gVar 0) (gaCons (gBin ixD (gLst (gaCons (gC (.int 3)) (gaCons (gC (.int 9)) (gaCons (gBin powD (gC (.int 10)) (gC (.int 5))) gaNil)))) (gCall0 2 sp__law_take (gaCons (gVar 0) (gaCons (gC (.int 3)) gaNil)))) gaNil)))))
  (gDrop (gBM "list" mAppend (gVar 5) (gaCons (gTup (gaCons (gVar 6) (gaCons (gCall0 2 sp__law_lowest (gaCons (gBin addD (gC (.int 1)) (gCall0 2 sp__law_take (gaCons (gVar 0) (gaCons (gVar 4) gaNil)))) (gaCons (gC (.int 60)) gaNil))) gaNil))) gaNil)))))
  (gSeq (gDrop (gBM "list" mAppend (gVar 5) (gaCons (gTup (gaCons (gC .non) (gaCons (gCall0 2 sp__law_lowest (gaCons (gBin addD (gC (.int 1)) (gCall0 2 sp__law_take (gaCons (gVar 0) (gaCons (gVar 4) gaNil)))) (gaCons (gC (.int 60)) gaNil))) gaNil))) gaNil)))
  (gRet (gTup (gaCons (gTup (gaCons (gC (.str "steps")) (gaCons (gVar 1) (gaCons (gCB fTuple (gaCons (gVar 5) gaNil)) gaNil)))) (gaCons (gVar 4) gaNil)))))))))))))
theorem w__law_row {P : Program} {w : World} {K : PySem.W.Frag} {mg : Str → Option Value} {base : Heap} (T : DefAt K mg "_law_row" s__law_row ["_law_state", "_law_name", "_law_room"]) (B : Blt mg) (F__law_take : FnAt P w K mg base CX0 1 "_law_take" 2 sp__law_take) (F__law_lowest : FnAt P w K mg base CX0 1 "_law_lowest" 2 sp__law_lowest) (F__law_part : FnAt P w K mg base CX0 2 "_law_part" 1 sp__law_part) : FnAt P w K mg base CX0 3 "_law_row" 3 (sem0 8 g__law_row) := by
  have nd := sc__law_row.nd
  exact T.fn0 sc__law_row (fun f cdv A outer s H E hr => (dss_cons (ds_set (i := 3) nd rfl (by first | exact Or.inl rfl | exact Or.inr rfl) (de_call0 F__law_take hr (by rfl) (da_cons (de_var 0) (da_cons de_int da_nil))))
  (dss_cons (ds_if (dt_gt (de_var 3) de_int) (dss_one (ds_ret (de_tup (da_cons (de_tup (da_cons de_str (da_cons (de_var 1) (da_cons (de_add de_int (de_call0 F__law_take hr (by rfl) (da_cons (de_var 0) (da_cons (de_ix (de_lst (da_cons de_int (da_cons de_int da_nil))) (de_call0 F__law_take hr (by rfl) (da_cons (de_var 0) (da_cons de_int da_nil)))) da_nil)))) da_nil)))) (da_cons de_int da_nil))))) dss_nil)
  (dss_cons (ds_if (dt_w (dw_or (dt_gt (de_var 3) de_int) (dw_or1 (dt_eq hr (de_var 2) de_int)))) (dss_one (ds_ret (de_tup (da_cons (de_tup (da_cons de_str (da_cons (de_var 1) (da_cons (de_call0 F__law_part hr (by rfl) (da_cons (de_var 0) da_nil)) da_nil)))) (da_cons de_int da_nil))))) dss_nil)
  (dss_cons (ds_set (i := 4) nd rfl (by first | exact Or.inl rfl | exact Or.inr rfl) (de_add de_int (de_call0 F__law_take hr (by rfl) (da_cons (de_var 0) (da_cons (de_min2 B rfl (by rfl) (da_cons (de_var 2) (da_cons (de_ix (de_lst (da_cons de_int (da_cons de_int da_nil))) (de_fdiv (de_call0 F__law_take hr (by rfl) (da_cons (de_var 0) (da_cons de_int da_nil))) de_int)) da_nil))) da_nil)))))
  (dss_cons (ds_if (dt_gt (de_var 3) de_int) (dss_one (ds_ret (de_tup (da_cons (de_tup (da_cons de_str (da_cons (de_var 1) (da_cons (de_call0 F__law_lowest hr (by rfl) (da_cons (de_var 4) (da_cons de_int da_nil))) da_nil)))) (da_cons (de_var 4) da_nil))))) dss_nil)
  (dss_cons (ds_set (i := 5) nd rfl (by first | exact Or.inl rfl | exact Or.inr rfl) (de_lstC da_nil))
  (dss_cons (ds_set (i := 6) nd rfl (by first | exact Or.inl rfl | exact Or.inr rfl) de_int)
  (dss_cons (ds_for PassesOwn.never rfl (di_range1 B (by rfl) (da_cons (de_add de_int (de_call0 F__law_take hr (by rfl) (da_cons (de_var 0) (da_cons de_int da_nil)))) da_nil)) (dg_name (i := 7) nd rfl (by first | exact Or.inl rfl | exact Or.inr rfl)) (dss_cons (ds_set (i := 6) nd rfl (by first | exact Or.inl rfl | exact Or.inr rfl) (de_add (de_add (de_var 6) de_int) (de_call0 F__law_take hr (by rfl) (da_cons (de_var 0) (da_cons (de_ix (de_lst (da_cons de_int (da_cons de_int (da_cons (de_pow de_int de_int) da_nil)))) (de_call0 F__law_take hr (by rfl) (da_cons (de_var 0) (da_cons de_int da_nil)))) da_nil)))))
  (dss_one (ds_expr (de_bm PySem.F.plainAttrs_list PySem.F.slot_list_append (by rfl) mt_append ok_append (de_var 5) (da_cons (de_tup (da_cons (de_var 6) (da_cons (de_call0 F__law_lowest hr (by rfl) (da_cons (de_add de_int (de_call0 F__law_take hr (by rfl) (da_cons (de_var 0) (da_cons (de_var 4) da_nil)))) (da_cons de_int da_nil))) da_nil))) da_nil) (by rfl) (by rfl) (by rfl) (by rfl) (by rfl))))))
  (dss_cons (ds_expr (de_bm PySem.F.plainAttrs_list PySem.F.slot_list_append (by rfl) mt_append ok_append (de_var 5) (da_cons (de_tup (da_cons de_non (da_cons (de_call0 F__law_lowest hr (by rfl) (da_cons (de_add de_int (de_call0 F__law_take hr (by rfl) (da_cons (de_var 0) (da_cons (de_var 4) da_nil)))) (da_cons de_int da_nil))) da_nil))) da_nil) (by rfl) (by rfl) (by rfl) (by rfl) (by rfl)))
  (dss_one (ds_ret (de_tup (da_cons (de_tup (da_cons de_str (da_cons (de_var 1) (da_cons (de_tuple B (by rfl) (da_cons (de_var 5) da_nil)) da_nil)))) (da_cons (de_var 4) da_nil)))))))))))))))

theorem v__law_row : ∀ ds w kx k, sp__law_row ds w kx k → gTr (sem0 8 g__law_row) ds w kx k := by
  rintro ds w kx k ⟨s, room, c, n, rfl, ⟨⟨hr0, hr1⟩, hn, hc⟩, hk⟩
  have e : rho 8 [D.st, D.str s, D.int room] = [some .st, some (.str s), some (.int room), none, none, none, none, none] := rfl
  have lw : ∀ {m : Nat} (r : Row) (t : Int), low m (.tup [rowD r, .int t]) = true := fun r t => by
    show (low _ (rowD r) && (true && true)) = true
    rw [low_row]
    rfl
  simp only [g__law_row, e, sp__law_take, sem0, List.map_cons, List.map_nil, List.length_cons, List.length_nil, gSeq, gNext, gRet, gRetN, gIfS, gSet, gPar, gAsg, gDrop, gVar, gC, gBin, gUn, gB, gTru, gAnd, gOr, gNot, gAndV, gOrV, gNotV, gIf, gChain, gaNil, gaCons, DL.gTup, gLst, gCB, gCall0, gAug, addD_i, addD_s, addD_l, addD_t, subD_i, mulD_i, mulD_l, fdivD_i, modD_i, powD_i, ltD_i, ltD_s, leD_i, gtD_i, geD_i, isD_n, isnotD_n, isNonD_non, isNonD_bl, isNonD_int, isNonD_str, isNonD_lst, isNonD_tup, negD_i, iaddD_i, truD_non, truD_bl, truD_int, truD_str, truD_lst, truD_tup, someK_some, ixD_l, ixD_t, fAbs_i, fInt_i, fInt_b, fMin2_i, fLen_l, fLen_t, fLen_s, fList_l, fList_t, fTuple_l, fTuple_t, optBK_some, fIsi_non, fIsi_bl, fIsi_int, fIsi_str, fIsi_lst, fIsi_tup, List.getElem?_cons_zero, List.getElem?_cons_succ, List.set_cons_zero, List.set_cons_succ, DL.ggName, ggNil0, ggCons1, ggTup2, ggTup3, gFor, giSeq, gLc, gYes, wipeR, true_and, and_true, at_0, at_1, at_2, kit_int_int, kit_bool_int, kit_str_int, kit_non_int, kit_list_int, kit_tuple_int, kit_int_bool, kit_bool_bool, kit_str_bool, kit_non_bool, kit_list_bool, kit_tuple_bool, kit_int_str, kit_bool_str, kit_str_str, kit_non_str, kit_list_str, kit_tuple_str, kit_int_list, kit_bool_list, kit_str_list, kit_non_list, kit_list_list, kit_tuple_list, kit_int_tuple, kit_bool_tuple, kit_str_tuple, kit_non_tuple, kit_list_tuple, kit_tuple_tuple, eqD_i, neD_i, eqD_s, neD_s, eqD_f, neD_f, Nat.zero_add, Nat.reduceAdd, nc0, nc1, nc2, nc3, nc4, nc5, nc6, nc7, nc8, nc9, eq_self, decide_true, decide_false, Int.reduceEq, Int.reduceLT, Int.reduceLE, Int.reduceNeg, Bool.not_true, Bool.not_false, Bool.false_eq_true, if_true, if_false, ↓reduceIte, false_and, and_false, List.all_cons, List.all_nil, List.any_cons, List.any_nil, id_eq, Bool.and_true, Bool.true_and, Bool.or_false, Bool.false_or, Bool.and_false, Bool.false_and, gCut, eqD_b, neD_b, giZip, reduceCtorEq, Bool.true_eq_false, Bool.false_eq_true, gRevL, gSl, goNone, goSome, slD_l, ne_eq, not_false_eq_true, not_true_eq_false, gBM, isTy_l, isTy_s, new_at, new_set, isTy_new, cellK_new, append_new, popAt_new, gFrz_eq, frzK_new, fLen_new, fTuple_new, ixD_new, slA_l, slA_t, slA_new, addTD_t, addCD_l, mulCD_l, isbD_b, isnotbD_b, mSplitC_s, gLstC, gTr, ggSub, lstK_l, lstK_r, addLD_eq]
  refine take_use (n + 19) hn (by omega) ⟨by decide, log_of (by decide)⟩ fun way c1 h0 h1 hc1 => ?_
  simp only [sem0, List.map_cons, List.map_nil, List.length_cons, List.length_nil, gSeq, gNext, gRet, gRetN, gIfS, gSet, gPar, gAsg, gDrop, gVar, gC, gBin, gUn, gB, gTru, gAnd, gOr, gNot, gAndV, gOrV, gNotV, gIf, gChain, gaNil, gaCons, DL.gTup, gLst, gCB, gCall0, gAug, addD_i, addD_s, addD_l, addD_t, subD_i, mulD_i, mulD_l, fdivD_i, modD_i, powD_i, ltD_i, ltD_s, leD_i, gtD_i, geD_i, isD_n, isnotD_n, isNonD_non, isNonD_bl, isNonD_int, isNonD_str, isNonD_lst, isNonD_tup, negD_i, iaddD_i, truD_non, truD_bl, truD_int, truD_str, truD_lst, truD_tup, someK_some, ixD_l, ixD_t, fAbs_i, fInt_i, fInt_b, fMin2_i, fLen_l, fLen_t, fLen_s, fList_l, fList_t, fTuple_l, fTuple_t, optBK_some, fIsi_non, fIsi_bl, fIsi_int, fIsi_str, fIsi_lst, fIsi_tup, List.getElem?_cons_zero, List.getElem?_cons_succ, List.set_cons_zero, List.set_cons_succ, DL.ggName, ggNil0, ggCons1, ggTup2, ggTup3, gFor, giSeq, gLc, gYes, wipeR, true_and, and_true, at_0, at_1, at_2, kit_int_int, kit_bool_int, kit_str_int, kit_non_int, kit_list_int, kit_tuple_int, kit_int_bool, kit_bool_bool, kit_str_bool, kit_non_bool, kit_list_bool, kit_tuple_bool, kit_int_str, kit_bool_str, kit_str_str, kit_non_str, kit_list_str, kit_tuple_str, kit_int_list, kit_bool_list, kit_str_list, kit_non_list, kit_list_list, kit_tuple_list, kit_int_tuple, kit_bool_tuple, kit_str_tuple, kit_non_tuple, kit_list_tuple, kit_tuple_tuple, eqD_i, neD_i, eqD_s, neD_s, eqD_f, neD_f, Nat.zero_add, Nat.reduceAdd, nc0, nc1, nc2, nc3, nc4, nc5, nc6, nc7, nc8, nc9, eq_self, decide_true, decide_false, Int.reduceEq, Int.reduceLT, Int.reduceLE, Int.reduceNeg, Bool.not_true, Bool.not_false, Bool.false_eq_true, if_true, if_false, ↓reduceIte, false_and, and_false, List.all_cons, List.all_nil, List.any_cons, List.any_nil, id_eq, Bool.and_true, Bool.true_and, Bool.or_false, Bool.false_or, Bool.and_false, Bool.false_and, gCut, eqD_b, neD_b, giZip, reduceCtorEq, Bool.true_eq_false, Bool.false_eq_true, gRevL, gSl, goNone, goSome, slD_l, ne_eq, not_false_eq_true, not_true_eq_false, gBM, isTy_l, isTy_s, new_at, new_set, isTy_new, cellK_new, append_new, popAt_new, gFrz_eq, frzK_new, fLen_new, fTuple_new, ixD_new, slA_l, slA_t, slA_new, addTD_t, addCD_l, mulCD_l, isbD_b, isnotbD_b, mSplitC_s, gLstC, gTr, ggSub, lstK_l, lstK_r, addLD_eq]
  refine ite2 (fun _ => ?_) (fun _ => ?_)
  · refine ⟨by decide, take_use (n + 18) rfl (by omega) ⟨by decide, log_of (by decide)⟩ fun r1 c2 h2 h3 hc2 => ?_⟩
    refine ix_all (fun d => ∃ b : Int, d = .int b ∧ 0 < b ∧ b ≤ 1000) h2 h3 (all_cons ⟨_, rfl, by decide, by decide⟩ (all_cons ⟨_, rfl, by decide, by decide⟩ all_nil)) ?_
    rintro d ⟨b, rfl, hb0, hb⟩
    refine take_use n rfl (by omega) ⟨hb0, log_int (by omega) (by omega)⟩ fun r2 c3 h4 h5 hc3 => ?_
    simp only [sem0, List.map_cons, List.map_nil, List.length_cons, List.length_nil, gSeq, gNext, gRet, gRetN, gIfS, gSet, gPar, gAsg, gDrop, gVar, gC, gBin, gUn, gB, gTru, gAnd, gOr, gNot, gAndV, gOrV, gNotV, gIf, gChain, gaNil, gaCons, DL.gTup, gLst, gCB, gCall0, gAug, addD_i, addD_s, addD_l, addD_t, subD_i, mulD_i, mulD_l, fdivD_i, modD_i, powD_i, ltD_i, ltD_s, leD_i, gtD_i, geD_i, isD_n, isnotD_n, isNonD_non, isNonD_bl, isNonD_int, isNonD_str, isNonD_lst, isNonD_tup, negD_i, iaddD_i, truD_non, truD_bl, truD_int, truD_str, truD_lst, truD_tup, someK_some, ixD_l, ixD_t, fAbs_i, fInt_i, fInt_b, fMin2_i, fLen_l, fLen_t, fLen_s, fList_l, fList_t, fTuple_l, fTuple_t, optBK_some, fIsi_non, fIsi_bl, fIsi_int, fIsi_str, fIsi_lst, fIsi_tup, List.getElem?_cons_zero, List.getElem?_cons_succ, List.set_cons_zero, List.set_cons_succ, DL.ggName, ggNil0, ggCons1, ggTup2, ggTup3, gFor, giSeq, gLc, gYes, wipeR, true_and, and_true, at_0, at_1, at_2, kit_int_int, kit_bool_int, kit_str_int, kit_non_int, kit_list_int, kit_tuple_int, kit_int_bool, kit_bool_bool, kit_str_bool, kit_non_bool, kit_list_bool, kit_tuple_bool, kit_int_str, kit_bool_str, kit_str_str, kit_non_str, kit_list_str, kit_tuple_str, kit_int_list, kit_bool_list, kit_str_list, kit_non_list, kit_list_list, kit_tuple_list, kit_int_tuple, kit_bool_tuple, kit_str_tuple, kit_non_tuple, kit_list_tuple, kit_tuple_tuple, eqD_i, neD_i, eqD_s, neD_s, eqD_f, neD_f, Nat.zero_add, Nat.reduceAdd, nc0, nc1, nc2, nc3, nc4, nc5, nc6, nc7, nc8, nc9, eq_self, decide_true, decide_false, Int.reduceEq, Int.reduceLT, Int.reduceLE, Int.reduceNeg, Bool.not_true, Bool.not_false, Bool.false_eq_true, if_true, if_false, ↓reduceIte, false_and, and_false, List.all_cons, List.all_nil, List.any_cons, List.any_nil, id_eq, Bool.and_true, Bool.true_and, Bool.or_false, Bool.false_or, Bool.and_false, Bool.false_and, gCut, eqD_b, neD_b, giZip, reduceCtorEq, Bool.true_eq_false, Bool.false_eq_true, gRevL, gSl, goNone, goSome, slD_l, ne_eq, not_false_eq_true, not_true_eq_false, gBM, isTy_l, isTy_s, new_at, new_set, isTy_new, cellK_new, append_new, popAt_new, gFrz_eq, frzK_new, fLen_new, fTuple_new, ixD_new, slA_l, slA_t, slA_new, addTD_t, addCD_l, mulCD_l, isbD_b, isnotbD_b, mSplitC_s, gLstC, gTr, ggSub, lstK_l, lstK_r, addLD_eq]
    exact ⟨by decide, by decide, ⟨_, (List.append_nil _).symm⟩, lw (.length s (1 + r2)) 0, hk (.length s (1 + r2)) 0 c3 ⟨by omega, by omega⟩ trivial trivial (Int.le_refl _) hr0 hc3⟩
  have end_left : ∀ w', w' = (⟨w.M, some c1⟩ : Wd) → sp__law_part [.st] w' noX fun x w1 => 3 ≤ sizeLine ∧ 2 ≤ sizeLine ∧ (∃ r, w1.M = w.M ++ r) ∧ low w.M.length (.tup [.tup [.str "left", .str s, x], .int 0]) = true ∧ k (.tup [.tup [.str "left", .str s, x], .int 0]) ⟨w.M, w1.n⟩ := by
    rintro w' rfl
    exact part_use n rfl (by omega) fun p c2 hp hp1 _ hc2 => ⟨by decide, by decide, ⟨_, (List.append_nil _).symm⟩, lw (.left s p) 0, hk (.left s p) 0 c2 hp hp1 trivial (Int.le_refl _) hr0 hc2⟩
  refine ite2 (fun _ => end_left _ rfl) (fun _ => ite2 (fun _ => end_left _ rfl) (fun hr => ?_))
  have hroom : 0 < room := by
    have : room ≠ 0 := by simpa using hr
    omega
  refine ⟨by decide, take_use (n + 18) rfl (by omega) ⟨by decide, log_of (by decide)⟩ fun r1 c2 h2 h3 hc2 => ?_⟩
  have h23 : 0 ≤ r1.fdiv 2 ∧ r1.fdiv 2 < 2 := by
    rw [Int.fdiv_eq_ediv_of_nonneg _ (by decide)]
    omega
  refine ⟨⟨by decide, by decide⟩, ?_⟩
  refine ix_all (fun d => ∃ b : Int, d = .int b ∧ 0 < b ∧ b ≤ 60) h23.1 h23.2 (all_cons ⟨_, rfl, by decide, by decide⟩ (all_cons ⟨_, rfl, by decide, by decide⟩ all_nil)) ?_
  rintro d ⟨b, rfl, hb0, hb⟩
  simp only [sem0, List.map_cons, List.map_nil, List.length_cons, List.length_nil, gSeq, gNext, gRet, gRetN, gIfS, gSet, gPar, gAsg, gDrop, gVar, gC, gBin, gUn, gB, gTru, gAnd, gOr, gNot, gAndV, gOrV, gNotV, gIf, gChain, gaNil, gaCons, DL.gTup, gLst, gCB, gCall0, gAug, addD_i, addD_s, addD_l, addD_t, subD_i, mulD_i, mulD_l, fdivD_i, modD_i, powD_i, ltD_i, ltD_s, leD_i, gtD_i, geD_i, isD_n, isnotD_n, isNonD_non, isNonD_bl, isNonD_int, isNonD_str, isNonD_lst, isNonD_tup, negD_i, iaddD_i, truD_non, truD_bl, truD_int, truD_str, truD_lst, truD_tup, someK_some, ixD_l, ixD_t, fAbs_i, fInt_i, fInt_b, fMin2_i, fLen_l, fLen_t, fLen_s, fList_l, fList_t, fTuple_l, fTuple_t, optBK_some, fIsi_non, fIsi_bl, fIsi_int, fIsi_str, fIsi_lst, fIsi_tup, List.getElem?_cons_zero, List.getElem?_cons_succ, List.set_cons_zero, List.set_cons_succ, DL.ggName, ggNil0, ggCons1, ggTup2, ggTup3, gFor, giSeq, gLc, gYes, wipeR, true_and, and_true, at_0, at_1, at_2, kit_int_int, kit_bool_int, kit_str_int, kit_non_int, kit_list_int, kit_tuple_int, kit_int_bool, kit_bool_bool, kit_str_bool, kit_non_bool, kit_list_bool, kit_tuple_bool, kit_int_str, kit_bool_str, kit_str_str, kit_non_str, kit_list_str, kit_tuple_str, kit_int_list, kit_bool_list, kit_str_list, kit_non_list, kit_list_list, kit_tuple_list, kit_int_tuple, kit_bool_tuple, kit_str_tuple, kit_non_tuple, kit_list_tuple, kit_tuple_tuple, eqD_i, neD_i, eqD_s, neD_s, eqD_f, neD_f, Nat.zero_add, Nat.reduceAdd, nc0, nc1, nc2, nc3, nc4, nc5, nc6, nc7, nc8, nc9, eq_self, decide_true, decide_false, Int.reduceEq, Int.reduceLT, Int.reduceLE, Int.reduceNeg, Bool.not_true, Bool.not_false, Bool.false_eq_true, if_true, if_false, ↓reduceIte, false_and, and_false, List.all_cons, List.all_nil, List.any_cons, List.any_nil, id_eq, Bool.and_true, Bool.true_and, Bool.or_false, Bool.false_or, Bool.and_false, Bool.false_and, gCut, eqD_b, neD_b, giZip, reduceCtorEq, Bool.true_eq_false, Bool.false_eq_true, gRevL, gSl, goNone, goSome, slD_l, ne_eq, not_false_eq_true, not_true_eq_false, gBM, isTy_l, isTy_s, new_at, new_set, isTy_new, cellK_new, append_new, popAt_new, gFrz_eq, frzK_new, fLen_new, fTuple_new, ixD_new, slA_l, slA_t, slA_new, addTD_t, addCD_l, mulCD_l, isbD_b, isnotbD_b, mSplitC_s, gLstC, gTr, ggSub, lstK_l, lstK_r, addLD_eq]
  have hmin : 0 < (if b < room then b else room) ∧ (if b < room then b else room) ≤ room ∧ (if b < room then b else room) ≤ 60 := by
    split <;> omega
  refine take_use (n + 17) rfl (by omega) ⟨hmin.1, log_int (by omega) (by omega)⟩ fun r2 c3 h4 h5 hc3 => ?_
  simp only [sem0, List.map_cons, List.map_nil, List.length_cons, List.length_nil, gSeq, gNext, gRet, gRetN, gIfS, gSet, gPar, gAsg, gDrop, gVar, gC, gBin, gUn, gB, gTru, gAnd, gOr, gNot, gAndV, gOrV, gNotV, gIf, gChain, gaNil, gaCons, DL.gTup, gLst, gCB, gCall0, gAug, addD_i, addD_s, addD_l, addD_t, subD_i, mulD_i, mulD_l, fdivD_i, modD_i, powD_i, ltD_i, ltD_s, leD_i, gtD_i, geD_i, isD_n, isnotD_n, isNonD_non, isNonD_bl, isNonD_int, isNonD_str, isNonD_lst, isNonD_tup, negD_i, iaddD_i, truD_non, truD_bl, truD_int, truD_str, truD_lst, truD_tup, someK_some, ixD_l, ixD_t, fAbs_i, fInt_i, fInt_b, fMin2_i, fLen_l, fLen_t, fLen_s, fList_l, fList_t, fTuple_l, fTuple_t, optBK_some, fIsi_non, fIsi_bl, fIsi_int, fIsi_str, fIsi_lst, fIsi_tup, List.getElem?_cons_zero, List.getElem?_cons_succ, List.set_cons_zero, List.set_cons_succ, DL.ggName, ggNil0, ggCons1, ggTup2, ggTup3, gFor, giSeq, gLc, gYes, wipeR, true_and, and_true, at_0, at_1, at_2, kit_int_int, kit_bool_int, kit_str_int, kit_non_int, kit_list_int, kit_tuple_int, kit_int_bool, kit_bool_bool, kit_str_bool, kit_non_bool, kit_list_bool, kit_tuple_bool, kit_int_str, kit_bool_str, kit_str_str, kit_non_str, kit_list_str, kit_tuple_str, kit_int_list, kit_bool_list, kit_str_list, kit_non_list, kit_list_list, kit_tuple_list, kit_int_tuple, kit_bool_tuple, kit_str_tuple, kit_non_tuple, kit_list_tuple, kit_tuple_tuple, eqD_i, neD_i, eqD_s, neD_s, eqD_f, neD_f, Nat.zero_add, Nat.reduceAdd, nc0, nc1, nc2, nc3, nc4, nc5, nc6, nc7, nc8, nc9, eq_self, decide_true, decide_false, Int.reduceEq, Int.reduceLT, Int.reduceLE, Int.reduceNeg, Bool.not_true, Bool.not_false, Bool.false_eq_true, if_true, if_false, ↓reduceIte, false_and, and_false, List.all_cons, List.all_nil, List.any_cons, List.any_nil, id_eq, Bool.and_true, Bool.true_and, Bool.or_false, Bool.false_or, Bool.and_false, Bool.false_and, gCut, eqD_b, neD_b, giZip, reduceCtorEq, Bool.true_eq_false, Bool.false_eq_true, gRevL, gSl, goNone, goSome, slD_l, ne_eq, not_false_eq_true, not_true_eq_false, gBM, isTy_l, isTy_s, new_at, new_set, isTy_new, cellK_new, append_new, popAt_new, gFrz_eq, frzK_new, fLen_new, fTuple_new, ixD_new, slA_l, slA_t, slA_new, addTD_t, addCD_l, mulCD_l, isbD_b, isnotbD_b, mSplitC_s, gLstC, gTr, ggSub, lstK_l, lstK_r, addLD_eq]
  obtain ⟨most, hmost⟩ : ∃ most, most = 1 + r2 := ⟨_, rfl⟩
  rw [← hmost]
  have m1 : 0 < most := by omega
  have m2 : most ≤ room := by omega
  refine ite2 (fun _ => ?_) (fun _ => ?_)
  · exact low_use m1 (by decide) (by omega) (by decide) fun p hp p1 p2 p3 => ⟨by decide, by decide, ⟨_, (List.append_nil _).symm⟩, lw (.of s p) most, hk (.of s p) most c3 hp trivial (sixty p3 hp.fr.pos (Int.le_refl _)) (by omega) m2 (by omega)⟩
  · simp only [giRange1, sem0, List.map_cons, List.map_nil, List.length_cons, List.length_nil, gSeq, gNext, gRet, gRetN, gIfS, gSet, gPar, gAsg, gDrop, gVar, gC, gBin, gUn, gB, gTru, gAnd, gOr, gNot, gAndV, gOrV, gNotV, gIf, gChain, gaNil, gaCons, DL.gTup, gLst, gCB, gCall0, gAug, addD_i, addD_s, addD_l, addD_t, subD_i, mulD_i, mulD_l, fdivD_i, modD_i, powD_i, ltD_i, ltD_s, leD_i, gtD_i, geD_i, isD_n, isnotD_n, isNonD_non, isNonD_bl, isNonD_int, isNonD_str, isNonD_lst, isNonD_tup, negD_i, iaddD_i, truD_non, truD_bl, truD_int, truD_str, truD_lst, truD_tup, someK_some, ixD_l, ixD_t, fAbs_i, fInt_i, fInt_b, fMin2_i, fLen_l, fLen_t, fLen_s, fList_l, fList_t, fTuple_l, fTuple_t, optBK_some, fIsi_non, fIsi_bl, fIsi_int, fIsi_str, fIsi_lst, fIsi_tup, List.getElem?_cons_zero, List.getElem?_cons_succ, List.set_cons_zero, List.set_cons_succ, DL.ggName, ggNil0, ggCons1, ggTup2, ggTup3, gFor, giSeq, gLc, gYes, wipeR, true_and, and_true, at_0, at_1, at_2, kit_int_int, kit_bool_int, kit_str_int, kit_non_int, kit_list_int, kit_tuple_int, kit_int_bool, kit_bool_bool, kit_str_bool, kit_non_bool, kit_list_bool, kit_tuple_bool, kit_int_str, kit_bool_str, kit_str_str, kit_non_str, kit_list_str, kit_tuple_str, kit_int_list, kit_bool_list, kit_str_list, kit_non_list, kit_list_list, kit_tuple_list, kit_int_tuple, kit_bool_tuple, kit_str_tuple, kit_non_tuple, kit_list_tuple, kit_tuple_tuple, eqD_i, neD_i, eqD_s, neD_s, eqD_f, neD_f, Nat.zero_add, Nat.reduceAdd, nc0, nc1, nc2, nc3, nc4, nc5, nc6, nc7, nc8, nc9, eq_self, decide_true, decide_false, Int.reduceEq, Int.reduceLT, Int.reduceLE, Int.reduceNeg, Bool.not_true, Bool.not_false, Bool.false_eq_true, if_true, if_false, ↓reduceIte, false_and, and_false, List.all_cons, List.all_nil, List.any_cons, List.any_nil, id_eq, Bool.and_true, Bool.true_and, Bool.or_false, Bool.false_or, Bool.and_false, Bool.false_and, gCut, eqD_b, neD_b, giZip, reduceCtorEq, Bool.true_eq_false, Bool.false_eq_true, gRevL, gSl, goNone, goSome, slD_l, ne_eq, not_false_eq_true, not_true_eq_false, gBM, isTy_l, isTy_s, new_at, new_set, isTy_new, cellK_new, append_new, popAt_new, gFrz_eq, frzK_new, fLen_new, fTuple_new, ixD_new, slA_l, slA_t, slA_new, addTD_t, addCD_l, mulCD_l, isbD_b, isnotbD_b, mSplitC_s, gLstC, gTr, ggSub, lstK_l, lstK_r, addLD_eq]
    refine ⟨by decide, take_use (n + 16) rfl (by omega) ⟨by decide, log_of (by decide)⟩ fun r3 c4 h6 h7 hc4 => ?_⟩
    simp only [sem0, List.map_cons, List.map_nil, List.length_cons, List.length_nil, gSeq, gNext, gRet, gRetN, gIfS, gSet, gPar, gAsg, gDrop, gVar, gC, gBin, gUn, gB, gTru, gAnd, gOr, gNot, gAndV, gOrV, gNotV, gIf, gChain, gaNil, gaCons, DL.gTup, gLst, gCB, gCall0, gAug, addD_i, addD_s, addD_l, addD_t, subD_i, mulD_i, mulD_l, fdivD_i, modD_i, powD_i, ltD_i, ltD_s, leD_i, gtD_i, geD_i, isD_n, isnotD_n, isNonD_non, isNonD_bl, isNonD_int, isNonD_str, isNonD_lst, isNonD_tup, negD_i, iaddD_i, truD_non, truD_bl, truD_int, truD_str, truD_lst, truD_tup, someK_some, ixD_l, ixD_t, fAbs_i, fInt_i, fInt_b, fMin2_i, fLen_l, fLen_t, fLen_s, fList_l, fList_t, fTuple_l, fTuple_t, optBK_some, fIsi_non, fIsi_bl, fIsi_int, fIsi_str, fIsi_lst, fIsi_tup, List.getElem?_cons_zero, List.getElem?_cons_succ, List.set_cons_zero, List.set_cons_succ, DL.ggName, ggNil0, ggCons1, ggTup2, ggTup3, gFor, giSeq, gLc, gYes, wipeR, true_and, and_true, at_0, at_1, at_2, kit_int_int, kit_bool_int, kit_str_int, kit_non_int, kit_list_int, kit_tuple_int, kit_int_bool, kit_bool_bool, kit_str_bool, kit_non_bool, kit_list_bool, kit_tuple_bool, kit_int_str, kit_bool_str, kit_str_str, kit_non_str, kit_list_str, kit_tuple_str, kit_int_list, kit_bool_list, kit_str_list, kit_non_list, kit_list_list, kit_tuple_list, kit_int_tuple, kit_bool_tuple, kit_str_tuple, kit_non_tuple, kit_list_tuple, kit_tuple_tuple, eqD_i, neD_i, eqD_s, neD_s, eqD_f, neD_f, Nat.zero_add, Nat.reduceAdd, nc0, nc1, nc2, nc3, nc4, nc5, nc6, nc7, nc8, nc9, eq_self, decide_true, decide_false, Int.reduceEq, Int.reduceLT, Int.reduceLE, Int.reduceNeg, Bool.not_true, Bool.not_false, Bool.false_eq_true, if_true, if_false, ↓reduceIte, false_and, and_false, List.all_cons, List.all_nil, List.any_cons, List.any_nil, id_eq, Bool.and_true, Bool.true_and, Bool.or_false, Bool.false_or, Bool.and_false, Bool.false_and, gCut, eqD_b, neD_b, giZip, reduceCtorEq, Bool.true_eq_false, Bool.false_eq_true, gRevL, gSl, goNone, goSome, slD_l, ne_eq, not_false_eq_true, not_true_eq_false, gBM, isTy_l, isTy_s, new_at, new_set, isTy_new, cellK_new, append_new, popAt_new, gFrz_eq, frzK_new, fLen_new, fTuple_new, ixD_new, slA_l, slA_t, slA_new, addTD_t, addCD_l, mulCD_l, isbD_b, isnotbD_b, mSplitC_s, gLstC, gTr, ggSub, lstK_l, lstK_r, addLD_eq]
    refine ⟨by omega, fun rem ρ w' => ∃ (rs : List Rate) (u : Int) (x : Option D) (c' : Nat), ρ = [some .st, some (.str s), some (.int room), some (.int way), some (.int most), some (.rf w.M.length), some (.int u), x] ∧ w' = ⟨w.M ++ [.lst (rs.map rateD)], some c'⟩ ∧
      rs.length + rem.length ≤ 3 ∧ (∀ r ∈ rs, Part r.2 ∧ 60 * r.2.1 ≤ most * r.2.2) ∧ n + 4 + 4 * rem.length ≤ c', ⟨[], 0, none, c4, rfl, rfl, ?_, (by intro r hr; cases hr), ?_⟩, ?_, ?_⟩
    · rw [range_len]
      simp
      omega
    · rw [range_len]
      omega
    · rintro ρ w' ⟨rs, u, x, c5, rfl, rfl, hl, hrs, hc5⟩
      rw [List.length_nil] at hl hc5
      refine ⟨trivial, ?_⟩
      simp only [sem0, List.map_cons, List.map_nil, List.length_cons, List.length_nil, gSeq, gNext, gRet, gRetN, gIfS, gSet, gPar, gAsg, gDrop, gVar, gC, gBin, gUn, gB, gTru, gAnd, gOr, gNot, gAndV, gOrV, gNotV, gIf, gChain, gaNil, gaCons, DL.gTup, gLst, gCB, gCall0, gAug, addD_i, addD_s, addD_l, addD_t, subD_i, mulD_i, mulD_l, fdivD_i, modD_i, powD_i, ltD_i, ltD_s, leD_i, gtD_i, geD_i, isD_n, isnotD_n, isNonD_non, isNonD_bl, isNonD_int, isNonD_str, isNonD_lst, isNonD_tup, negD_i, iaddD_i, truD_non, truD_bl, truD_int, truD_str, truD_lst, truD_tup, someK_some, ixD_l, ixD_t, fAbs_i, fInt_i, fInt_b, fMin2_i, fLen_l, fLen_t, fLen_s, fList_l, fList_t, fTuple_l, fTuple_t, optBK_some, fIsi_non, fIsi_bl, fIsi_int, fIsi_str, fIsi_lst, fIsi_tup, List.getElem?_cons_zero, List.getElem?_cons_succ, List.set_cons_zero, List.set_cons_succ, DL.ggName, ggNil0, ggCons1, ggTup2, ggTup3, gFor, giSeq, gLc, gYes, wipeR, true_and, and_true, at_0, at_1, at_2, kit_int_int, kit_bool_int, kit_str_int, kit_non_int, kit_list_int, kit_tuple_int, kit_int_bool, kit_bool_bool, kit_str_bool, kit_non_bool, kit_list_bool, kit_tuple_bool, kit_int_str, kit_bool_str, kit_str_str, kit_non_str, kit_list_str, kit_tuple_str, kit_int_list, kit_bool_list, kit_str_list, kit_non_list, kit_list_list, kit_tuple_list, kit_int_tuple, kit_bool_tuple, kit_str_tuple, kit_non_tuple, kit_list_tuple, kit_tuple_tuple, eqD_i, neD_i, eqD_s, neD_s, eqD_f, neD_f, Nat.zero_add, Nat.reduceAdd, nc0, nc1, nc2, nc3, nc4, nc5, nc6, nc7, nc8, nc9, eq_self, decide_true, decide_false, Int.reduceEq, Int.reduceLT, Int.reduceLE, Int.reduceNeg, Bool.not_true, Bool.not_false, Bool.false_eq_true, if_true, if_false, ↓reduceIte, false_and, and_false, List.all_cons, List.all_nil, List.any_cons, List.any_nil, id_eq, Bool.and_true, Bool.true_and, Bool.or_false, Bool.false_or, Bool.and_false, Bool.false_and, gCut, eqD_b, neD_b, giZip, reduceCtorEq, Bool.true_eq_false, Bool.false_eq_true, gRevL, gSl, goNone, goSome, slD_l, ne_eq, not_false_eq_true, not_true_eq_false, gBM, isTy_l, isTy_s, new_at, new_set, isTy_new, cellK_new, append_new, popAt_new, gFrz_eq, frzK_new, fLen_new, fTuple_new, ixD_new, slA_l, slA_t, slA_new, addTD_t, addCD_l, mulCD_l, isbD_b, isnotbD_b, mSplitC_s, gLstC, gTr, ggSub, lstK_l, lstK_r, addLD_eq]
      refine take_use (n + 3) rfl (by omega) ⟨m1, log_int (by omega) (by omega)⟩ fun r4 c6 h8 h9 hc6 => ?_
      simp only [sem0, List.map_cons, List.map_nil, List.length_cons, List.length_nil, gSeq, gNext, gRet, gRetN, gIfS, gSet, gPar, gAsg, gDrop, gVar, gC, gBin, gUn, gB, gTru, gAnd, gOr, gNot, gAndV, gOrV, gNotV, gIf, gChain, gaNil, gaCons, DL.gTup, gLst, gCB, gCall0, gAug, addD_i, addD_s, addD_l, addD_t, subD_i, mulD_i, mulD_l, fdivD_i, modD_i, powD_i, ltD_i, ltD_s, leD_i, gtD_i, geD_i, isD_n, isnotD_n, isNonD_non, isNonD_bl, isNonD_int, isNonD_str, isNonD_lst, isNonD_tup, negD_i, iaddD_i, truD_non, truD_bl, truD_int, truD_str, truD_lst, truD_tup, someK_some, ixD_l, ixD_t, fAbs_i, fInt_i, fInt_b, fMin2_i, fLen_l, fLen_t, fLen_s, fList_l, fList_t, fTuple_l, fTuple_t, optBK_some, fIsi_non, fIsi_bl, fIsi_int, fIsi_str, fIsi_lst, fIsi_tup, List.getElem?_cons_zero, List.getElem?_cons_succ, List.set_cons_zero, List.set_cons_succ, DL.ggName, ggNil0, ggCons1, ggTup2, ggTup3, gFor, giSeq, gLc, gYes, wipeR, true_and, and_true, at_0, at_1, at_2, kit_int_int, kit_bool_int, kit_str_int, kit_non_int, kit_list_int, kit_tuple_int, kit_int_bool, kit_bool_bool, kit_str_bool, kit_non_bool, kit_list_bool, kit_tuple_bool, kit_int_str, kit_bool_str, kit_str_str, kit_non_str, kit_list_str, kit_tuple_str, kit_int_list, kit_bool_list, kit_str_list, kit_non_list, kit_list_list, kit_tuple_list, kit_int_tuple, kit_bool_tuple, kit_str_tuple, kit_non_tuple, kit_list_tuple, kit_tuple_tuple, eqD_i, neD_i, eqD_s, neD_s, eqD_f, neD_f, Nat.zero_add, Nat.reduceAdd, nc0, nc1, nc2, nc3, nc4, nc5, nc6, nc7, nc8, nc9, eq_self, decide_true, decide_false, Int.reduceEq, Int.reduceLT, Int.reduceLE, Int.reduceNeg, Bool.not_true, Bool.not_false, Bool.false_eq_true, if_true, if_false, ↓reduceIte, false_and, and_false, List.all_cons, List.all_nil, List.any_cons, List.any_nil, id_eq, Bool.and_true, Bool.true_and, Bool.or_false, Bool.false_or, Bool.and_false, Bool.false_and, gCut, eqD_b, neD_b, giZip, reduceCtorEq, Bool.true_eq_false, Bool.false_eq_true, gRevL, gSl, goNone, goSome, slD_l, ne_eq, not_false_eq_true, not_true_eq_false, gBM, isTy_l, isTy_s, new_at, new_set, isTy_new, cellK_new, append_new, popAt_new, gFrz_eq, frzK_new, fLen_new, fTuple_new, ixD_new, slA_l, slA_t, slA_new, addTD_t, addCD_l, mulCD_l, isbD_b, isnotbD_b, mSplitC_s, gLstC, gTr, ggSub, lstK_l, lstK_r, addLD_eq]
      refine low_use (by omega) (by decide) (by omega) (by decide) fun p hp p1 p2 p3 => ?_
      have h60 := sixty p3 hp.fr.pos (show 1 + r4 ≤ most by omega)
      simp only [sem0, List.map_cons, List.map_nil, List.length_cons, List.length_nil, gSeq, gNext, gRet, gRetN, gIfS, gSet, gPar, gAsg, gDrop, gVar, gC, gBin, gUn, gB, gTru, gAnd, gOr, gNot, gAndV, gOrV, gNotV, gIf, gChain, gaNil, gaCons, DL.gTup, gLst, gCB, gCall0, gAug, addD_i, addD_s, addD_l, addD_t, subD_i, mulD_i, mulD_l, fdivD_i, modD_i, powD_i, ltD_i, ltD_s, leD_i, gtD_i, geD_i, isD_n, isnotD_n, isNonD_non, isNonD_bl, isNonD_int, isNonD_str, isNonD_lst, isNonD_tup, negD_i, iaddD_i, truD_non, truD_bl, truD_int, truD_str, truD_lst, truD_tup, someK_some, ixD_l, ixD_t, fAbs_i, fInt_i, fInt_b, fMin2_i, fLen_l, fLen_t, fLen_s, fList_l, fList_t, fTuple_l, fTuple_t, optBK_some, fIsi_non, fIsi_bl, fIsi_int, fIsi_str, fIsi_lst, fIsi_tup, List.getElem?_cons_zero, List.getElem?_cons_succ, List.set_cons_zero, List.set_cons_succ, DL.ggName, ggNil0, ggCons1, ggTup2, ggTup3, gFor, giSeq, gLc, gYes, wipeR, true_and, and_true, at_0, at_1, at_2, kit_int_int, kit_bool_int, kit_str_int, kit_non_int, kit_list_int, kit_tuple_int, kit_int_bool, kit_bool_bool, kit_str_bool, kit_non_bool, kit_list_bool, kit_tuple_bool, kit_int_str, kit_bool_str, kit_str_str, kit_non_str, kit_list_str, kit_tuple_str, kit_int_list, kit_bool_list, kit_str_list, kit_non_list, kit_list_list, kit_tuple_list, kit_int_tuple, kit_bool_tuple, kit_str_tuple, kit_non_tuple, kit_list_tuple, kit_tuple_tuple, eqD_i, neD_i, eqD_s, neD_s, eqD_f, neD_f, Nat.zero_add, Nat.reduceAdd, nc0, nc1, nc2, nc3, nc4, nc5, nc6, nc7, nc8, nc9, eq_self, decide_true, decide_false, Int.reduceEq, Int.reduceLT, Int.reduceLE, Int.reduceNeg, Bool.not_true, Bool.not_false, Bool.false_eq_true, if_true, if_false, ↓reduceIte, false_and, and_false, List.all_cons, List.all_nil, List.any_cons, List.any_nil, id_eq, Bool.and_true, Bool.true_and, Bool.or_false, Bool.false_or, Bool.and_false, Bool.false_and, gCut, eqD_b, neD_b, giZip, reduceCtorEq, Bool.true_eq_false, Bool.false_eq_true, gRevL, gSl, goNone, goSome, slD_l, ne_eq, not_false_eq_true, not_true_eq_false, gBM, isTy_l, isTy_s, new_at, new_set, isTy_new, cellK_new, append_new, popAt_new, gFrz_eq, frzK_new, fLen_new, fTuple_new, ixD_new, slA_l, slA_t, slA_new, addTD_t, addCD_l, mulCD_l, isbD_b, isnotbD_b, mSplitC_s, gLstC, gTr, ggSub, lstK_l, lstK_r, addLD_eq]
      refine ⟨by decide, lt_sl (by rw [List.length_map]; omega), by decide, by decide, ⟨_, rfl⟩, ?_, ?_⟩
      · have := lw (m := w.M.length) (.steps s (rs ++ [(none, p)])) most
        rw [rowD, List.map_append] at this
        exact this
      · have := hk (.steps s (rs ++ [(none, p)])) most c6 ⟨by rw [List.length_append]; simp; omega, fun r hr => ?_, p, by simp⟩ trivial (fun r hr => ?_) (by omega) m2 (by omega)
        · rw [rowD, List.map_append] at this
          exact this
        · rcases List.mem_append.mp hr with hr | hr
          · exact (hrs r hr).1
          · rw [List.mem_singleton.mp hr]
            exact hp
        · rcases List.mem_append.mp hr with hr | hr
          · exact (hrs r hr).2
          · rw [List.mem_singleton.mp hr]
            exact h60
    · rintro z xs ρ w' ⟨rs, u, x, c5, rfl, rfl, hl, hrs, hc5⟩
      rw [List.length_cons] at hl hc5
      refine ⟨trivial, ?_⟩
      simp only [sem0, List.map_cons, List.map_nil, List.length_cons, List.length_nil, gSeq, gNext, gRet, gRetN, gIfS, gSet, gPar, gAsg, gDrop, gVar, gC, gBin, gUn, gB, gTru, gAnd, gOr, gNot, gAndV, gOrV, gNotV, gIf, gChain, gaNil, gaCons, DL.gTup, gLst, gCB, gCall0, gAug, addD_i, addD_s, addD_l, addD_t, subD_i, mulD_i, mulD_l, fdivD_i, modD_i, powD_i, ltD_i, ltD_s, leD_i, gtD_i, geD_i, isD_n, isnotD_n, isNonD_non, isNonD_bl, isNonD_int, isNonD_str, isNonD_lst, isNonD_tup, negD_i, iaddD_i, truD_non, truD_bl, truD_int, truD_str, truD_lst, truD_tup, someK_some, ixD_l, ixD_t, fAbs_i, fInt_i, fInt_b, fMin2_i, fLen_l, fLen_t, fLen_s, fList_l, fList_t, fTuple_l, fTuple_t, optBK_some, fIsi_non, fIsi_bl, fIsi_int, fIsi_str, fIsi_lst, fIsi_tup, List.getElem?_cons_zero, List.getElem?_cons_succ, List.set_cons_zero, List.set_cons_succ, DL.ggName, ggNil0, ggCons1, ggTup2, ggTup3, gFor, giSeq, gLc, gYes, wipeR, true_and, and_true, at_0, at_1, at_2, kit_int_int, kit_bool_int, kit_str_int, kit_non_int, kit_list_int, kit_tuple_int, kit_int_bool, kit_bool_bool, kit_str_bool, kit_non_bool, kit_list_bool, kit_tuple_bool, kit_int_str, kit_bool_str, kit_str_str, kit_non_str, kit_list_str, kit_tuple_str, kit_int_list, kit_bool_list, kit_str_list, kit_non_list, kit_list_list, kit_tuple_list, kit_int_tuple, kit_bool_tuple, kit_str_tuple, kit_non_tuple, kit_list_tuple, kit_tuple_tuple, eqD_i, neD_i, eqD_s, neD_s, eqD_f, neD_f, Nat.zero_add, Nat.reduceAdd, nc0, nc1, nc2, nc3, nc4, nc5, nc6, nc7, nc8, nc9, eq_self, decide_true, decide_false, Int.reduceEq, Int.reduceLT, Int.reduceLE, Int.reduceNeg, Bool.not_true, Bool.not_false, Bool.false_eq_true, if_true, if_false, ↓reduceIte, false_and, and_false, List.all_cons, List.all_nil, List.any_cons, List.any_nil, id_eq, Bool.and_true, Bool.true_and, Bool.or_false, Bool.false_or, Bool.and_false, Bool.false_and, gCut, eqD_b, neD_b, giZip, reduceCtorEq, Bool.true_eq_false, Bool.false_eq_true, gRevL, gSl, goNone, goSome, slD_l, ne_eq, not_false_eq_true, not_true_eq_false, gBM, isTy_l, isTy_s, new_at, new_set, isTy_new, cellK_new, append_new, popAt_new, gFrz_eq, frzK_new, fLen_new, fTuple_new, ixD_new, slA_l, slA_t, slA_new, addTD_t, addCD_l, mulCD_l, isbD_b, isnotbD_b, mSplitC_s, gLstC, gTr, ggSub, lstK_l, lstK_r, addLD_eq]
      refine ⟨⟨by decide, by decide, by decide⟩, by decide, take_use (n + 4 + 4 * xs.length + 2) rfl (by omega) ⟨by decide, log_of (by decide)⟩ fun r4 c6 h8 h9 hc6 => ?_⟩
      refine ix_all (fun d => ∃ b : Int, d = .int b ∧ 0 < b ∧ b ≤ 100000) h8 h9 (all_cons ⟨_, rfl, by decide, by decide⟩ (all_cons ⟨_, rfl, by decide, by decide⟩ (all_cons ⟨_, rfl, by decide, by decide⟩ all_nil))) ?_
      rintro d ⟨b2, rfl, hb20, hb2⟩
      refine take_use (n + 4 + 4 * xs.length + 1) rfl (by omega) ⟨hb20, log_int (by omega) (by omega)⟩ fun r5 c7 h10 h11 hc7 => ?_
      simp only [sem0, List.map_cons, List.map_nil, List.length_cons, List.length_nil, gSeq, gNext, gRet, gRetN, gIfS, gSet, gPar, gAsg, gDrop, gVar, gC, gBin, gUn, gB, gTru, gAnd, gOr, gNot, gAndV, gOrV, gNotV, gIf, gChain, gaNil, gaCons, DL.gTup, gLst, gCB, gCall0, gAug, addD_i, addD_s, addD_l, addD_t, subD_i, mulD_i, mulD_l, fdivD_i, modD_i, powD_i, ltD_i, ltD_s, leD_i, gtD_i, geD_i, isD_n, isnotD_n, isNonD_non, isNonD_bl, isNonD_int, isNonD_str, isNonD_lst, isNonD_tup, negD_i, iaddD_i, truD_non, truD_bl, truD_int, truD_str, truD_lst, truD_tup, someK_some, ixD_l, ixD_t, fAbs_i, fInt_i, fInt_b, fMin2_i, fLen_l, fLen_t, fLen_s, fList_l, fList_t, fTuple_l, fTuple_t, optBK_some, fIsi_non, fIsi_bl, fIsi_int, fIsi_str, fIsi_lst, fIsi_tup, List.getElem?_cons_zero, List.getElem?_cons_succ, List.set_cons_zero, List.set_cons_succ, DL.ggName, ggNil0, ggCons1, ggTup2, ggTup3, gFor, giSeq, gLc, gYes, wipeR, true_and, and_true, at_0, at_1, at_2, kit_int_int, kit_bool_int, kit_str_int, kit_non_int, kit_list_int, kit_tuple_int, kit_int_bool, kit_bool_bool, kit_str_bool, kit_non_bool, kit_list_bool, kit_tuple_bool, kit_int_str, kit_bool_str, kit_str_str, kit_non_str, kit_list_str, kit_tuple_str, kit_int_list, kit_bool_list, kit_str_list, kit_non_list, kit_list_list, kit_tuple_list, kit_int_tuple, kit_bool_tuple, kit_str_tuple, kit_non_tuple, kit_list_tuple, kit_tuple_tuple, eqD_i, neD_i, eqD_s, neD_s, eqD_f, neD_f, Nat.zero_add, Nat.reduceAdd, nc0, nc1, nc2, nc3, nc4, nc5, nc6, nc7, nc8, nc9, eq_self, decide_true, decide_false, Int.reduceEq, Int.reduceLT, Int.reduceLE, Int.reduceNeg, Bool.not_true, Bool.not_false, Bool.false_eq_true, if_true, if_false, ↓reduceIte, false_and, and_false, List.all_cons, List.all_nil, List.any_cons, List.any_nil, id_eq, Bool.and_true, Bool.true_and, Bool.or_false, Bool.false_or, Bool.and_false, Bool.false_and, gCut, eqD_b, neD_b, giZip, reduceCtorEq, Bool.true_eq_false, Bool.false_eq_true, gRevL, gSl, goNone, goSome, slD_l, ne_eq, not_false_eq_true, not_true_eq_false, gBM, isTy_l, isTy_s, new_at, new_set, isTy_new, cellK_new, append_new, popAt_new, gFrz_eq, frzK_new, fLen_new, fTuple_new, ixD_new, slA_l, slA_t, slA_new, addTD_t, addCD_l, mulCD_l, isbD_b, isnotbD_b, mSplitC_s, gLstC, gTr, ggSub, lstK_l, lstK_r, addLD_eq]
      refine take_use (n + 4 + 4 * xs.length) rfl (by omega) ⟨m1, log_int (by omega) (by omega)⟩ fun r6 c8 h12 h13 hc8 => ?_
      simp only [sem0, List.map_cons, List.map_nil, List.length_cons, List.length_nil, gSeq, gNext, gRet, gRetN, gIfS, gSet, gPar, gAsg, gDrop, gVar, gC, gBin, gUn, gB, gTru, gAnd, gOr, gNot, gAndV, gOrV, gNotV, gIf, gChain, gaNil, gaCons, DL.gTup, gLst, gCB, gCall0, gAug, addD_i, addD_s, addD_l, addD_t, subD_i, mulD_i, mulD_l, fdivD_i, modD_i, powD_i, ltD_i, ltD_s, leD_i, gtD_i, geD_i, isD_n, isnotD_n, isNonD_non, isNonD_bl, isNonD_int, isNonD_str, isNonD_lst, isNonD_tup, negD_i, iaddD_i, truD_non, truD_bl, truD_int, truD_str, truD_lst, truD_tup, someK_some, ixD_l, ixD_t, fAbs_i, fInt_i, fInt_b, fMin2_i, fLen_l, fLen_t, fLen_s, fList_l, fList_t, fTuple_l, fTuple_t, optBK_some, fIsi_non, fIsi_bl, fIsi_int, fIsi_str, fIsi_lst, fIsi_tup, List.getElem?_cons_zero, List.getElem?_cons_succ, List.set_cons_zero, List.set_cons_succ, DL.ggName, ggNil0, ggCons1, ggTup2, ggTup3, gFor, giSeq, gLc, gYes, wipeR, true_and, and_true, at_0, at_1, at_2, kit_int_int, kit_bool_int, kit_str_int, kit_non_int, kit_list_int, kit_tuple_int, kit_int_bool, kit_bool_bool, kit_str_bool, kit_non_bool, kit_list_bool, kit_tuple_bool, kit_int_str, kit_bool_str, kit_str_str, kit_non_str, kit_list_str, kit_tuple_str, kit_int_list, kit_bool_list, kit_str_list, kit_non_list, kit_list_list, kit_tuple_list, kit_int_tuple, kit_bool_tuple, kit_str_tuple, kit_non_tuple, kit_list_tuple, kit_tuple_tuple, eqD_i, neD_i, eqD_s, neD_s, eqD_f, neD_f, Nat.zero_add, Nat.reduceAdd, nc0, nc1, nc2, nc3, nc4, nc5, nc6, nc7, nc8, nc9, eq_self, decide_true, decide_false, Int.reduceEq, Int.reduceLT, Int.reduceLE, Int.reduceNeg, Bool.not_true, Bool.not_false, Bool.false_eq_true, if_true, if_false, ↓reduceIte, false_and, and_false, List.all_cons, List.all_nil, List.any_cons, List.any_nil, id_eq, Bool.and_true, Bool.true_and, Bool.or_false, Bool.false_or, Bool.and_false, Bool.false_and, gCut, eqD_b, neD_b, giZip, reduceCtorEq, Bool.true_eq_false, Bool.false_eq_true, gRevL, gSl, goNone, goSome, slD_l, ne_eq, not_false_eq_true, not_true_eq_false, gBM, isTy_l, isTy_s, new_at, new_set, isTy_new, cellK_new, append_new, popAt_new, gFrz_eq, frzK_new, fLen_new, fTuple_new, ixD_new, slA_l, slA_t, slA_new, addTD_t, addCD_l, mulCD_l, isbD_b, isnotbD_b, mSplitC_s, gLstC, gTr, ggSub, lstK_l, lstK_r, addLD_eq]
      refine low_use (by omega) (by decide) (by omega) (by decide) fun p hp p1 p2 p3 => ?_
      have h60 := sixty p3 hp.fr.pos (show 1 + r6 ≤ most by omega)
      simp only [sem0, List.map_cons, List.map_nil, List.length_cons, List.length_nil, gSeq, gNext, gRet, gRetN, gIfS, gSet, gPar, gAsg, gDrop, gVar, gC, gBin, gUn, gB, gTru, gAnd, gOr, gNot, gAndV, gOrV, gNotV, gIf, gChain, gaNil, gaCons, DL.gTup, gLst, gCB, gCall0, gAug, addD_i, addD_s, addD_l, addD_t, subD_i, mulD_i, mulD_l, fdivD_i, modD_i, powD_i, ltD_i, ltD_s, leD_i, gtD_i, geD_i, isD_n, isnotD_n, isNonD_non, isNonD_bl, isNonD_int, isNonD_str, isNonD_lst, isNonD_tup, negD_i, iaddD_i, truD_non, truD_bl, truD_int, truD_str, truD_lst, truD_tup, someK_some, ixD_l, ixD_t, fAbs_i, fInt_i, fInt_b, fMin2_i, fLen_l, fLen_t, fLen_s, fList_l, fList_t, fTuple_l, fTuple_t, optBK_some, fIsi_non, fIsi_bl, fIsi_int, fIsi_str, fIsi_lst, fIsi_tup, List.getElem?_cons_zero, List.getElem?_cons_succ, List.set_cons_zero, List.set_cons_succ, DL.ggName, ggNil0, ggCons1, ggTup2, ggTup3, gFor, giSeq, gLc, gYes, wipeR, true_and, and_true, at_0, at_1, at_2, kit_int_int, kit_bool_int, kit_str_int, kit_non_int, kit_list_int, kit_tuple_int, kit_int_bool, kit_bool_bool, kit_str_bool, kit_non_bool, kit_list_bool, kit_tuple_bool, kit_int_str, kit_bool_str, kit_str_str, kit_non_str, kit_list_str, kit_tuple_str, kit_int_list, kit_bool_list, kit_str_list, kit_non_list, kit_list_list, kit_tuple_list, kit_int_tuple, kit_bool_tuple, kit_str_tuple, kit_non_tuple, kit_list_tuple, kit_tuple_tuple, eqD_i, neD_i, eqD_s, neD_s, eqD_f, neD_f, Nat.zero_add, Nat.reduceAdd, nc0, nc1, nc2, nc3, nc4, nc5, nc6, nc7, nc8, nc9, eq_self, decide_true, decide_false, Int.reduceEq, Int.reduceLT, Int.reduceLE, Int.reduceNeg, Bool.not_true, Bool.not_false, Bool.false_eq_true, if_true, if_false, ↓reduceIte, false_and, and_false, List.all_cons, List.all_nil, List.any_cons, List.any_nil, id_eq, Bool.and_true, Bool.true_and, Bool.or_false, Bool.false_or, Bool.and_false, Bool.false_and, gCut, eqD_b, neD_b, giZip, reduceCtorEq, Bool.true_eq_false, Bool.false_eq_true, gRevL, gSl, goNone, goSome, slD_l, ne_eq, not_false_eq_true, not_true_eq_false, gBM, isTy_l, isTy_s, new_at, new_set, isTy_new, cellK_new, append_new, popAt_new, gFrz_eq, frzK_new, fLen_new, fTuple_new, ixD_new, slA_l, slA_t, slA_new, addTD_t, addCD_l, mulCD_l, isbD_b, isnotbD_b, mSplitC_s, gLstC, gTr, ggSub, lstK_l, lstK_r, addLD_eq]
      refine ⟨by decide, lt_sl (by rw [List.length_map]; omega), rs ++ [(some (u + 1 + r5), p)], u + 1 + r5, _, c8, rfl, by rw [List.map_append]; rfl, by rw [List.length_append]; simp; omega, fun r hr => ?_, hc8⟩
      rcases List.mem_append.mp hr with hr | hr
      · exact hrs r hr
      · rw [List.mem_singleton.mp hr]
        exact ⟨hp, h60⟩
theorem ok__law_row {P : Program} {w : World} {K : PySem.W.Frag} {mg : Str → Option Value} {base : Heap} (T : DefAt K mg "_law_row" s__law_row ["_law_state", "_law_name", "_law_room"]) (B : Blt mg) (F__law_take : FnAt P w K mg base CX0 1 "_law_take" 2 sp__law_take) (F__law_lowest : FnAt P w K mg base CX0 1 "_law_lowest" 2 sp__law_lowest) (F__law_part : FnAt P w K mg base CX0 2 "_law_part" 1 sp__law_part) : FnAt P w K mg base CX0 3 "_law_row" 3 sp__law_row := (w__law_row T B F__law_take F__law_lowest F__law_part).trunc.imp v__law_row


theorem row_use {w : Wd} {c : Nat} {kx : KX} {k : KD} {s : Str} {room : Int} (n : Nat) (hn : w.n = some c) (hc : n + 20 ≤ c) (hr : 0 ≤ room ∧ room ≤ 60) (h : ∀ r t c', RowOk r → LeftOk r → RowW r t → 0 ≤ t → t ≤ room → n ≤ c' → k (.tup [rowD r, .int t]) ⟨w.M, some c'⟩) : sp__law_row [.st, .str s, .int room] w kx k := ⟨s, room, c, n, rfl, ⟨hr, hn, hc⟩, h⟩
theorem unitW_mono {rs : List Row} {m n : Int} (h : ∀ r ∈ rs, RowOk r) (hw : UnitW rs m) (l : m ≤ n) : UnitW rs n := fun u => wt_mono (fun x hx => (told0_ok (u := u) h x hx).1) (hw u) l
/-- rows of which parts come to one at most, at every unit -/
structure Rows9 (rs : List Row) : Prop where
  left : ∀ r ∈ rs, LeftOk r
  unit : UnitW rs 60
def sp__law_rows : GF := fun ds w _ k => ∃ (ss : List Str) (m c n : Nat), ds = [.st, .lst (ss.map D.str), .int (m : Int)] ∧ ((0 < ss.length ∧ ss.length ≤ 12 ∧ m ≤ 8 ∧ (∀ s ∈ ss, NameOk s)) ∧ w.n = some c ∧ n + 21 * m ≤ c) ∧ ∀ rs c', RowsOk rs m → Rows9 rs → n ≤ c' → k (.tup (rs.map rowD)) ⟨w.M, some c'⟩
abbrev s__law_rows : Stmt := topS 23
theorem sc__law_rows : FnScope ["_law_state", "_law_names_here", "_law_many", "_law_room", "_law_found", "_law_turn", "_law_row_here", "_law_taken", "_law_one"] ["_law_state", "_law_names_here", "_law_many"] (defScope s__law_rows) := ⟨rfl, rfl, rfl, by decide +kernel, rfl, by decide +kernel, by decide +kernel⟩
def g__law_rows : GS := (gSeq (gSet 3 (gC (.int 60)))
  (gSeq (gSet 4 (gLstC gaNil))
  (gSeq (gFor (giRange1 (gaCons (gBin mulD (gVar 2) (gCB fInt (gaCons (gBin neD (gVar 1) (gLst gaNil)) gaNil))) gaNil)) (ggName 5) (gSeq (gAsg (gCall0 3 sp__law_row (gaCons (gVar 0) (gaCons (gBin ixD (gVar 1) (gCall0 2 sp__law_take (gaCons (gVar 0) (gaCons (gCB fLen (gaCons (gVar 1) gaNil)) gaNil)))) (gaCons (gVar 3) gaNil)))) (ggTup 2 (ggCons (ggName 6) (ggCons (ggName 7) ggNil))))
  (gSeq (gSet 3 (gBin subD (gVar 3) (gVar 7)))
  (gIfS (gOr (gB (gBin neD (gBin ixD (gVar 6) (gC (.int 0))) (gC (.str "left")))) (gB (gBin ltD (gBM "list" mCount (gLc (giSeq (gVar 4)) (ggName 8) gYes (gBin ixD (gVar 8) (gC (.int 0))) [8]) (gaCons (gC (.str "left")) gaNil)) (gC (.int 3))))) (gDrop (gBM "list" mAppend (gVar 4) (gaCons (gVar 6) gaNil))) gNext))))
  (gRet (gCB fTuple (gaCons (gVar 4) gaNil))))))
theorem w__law_rows {P : Program} {w : World} {K : PySem.W.Frag} {mg : Str → Option Value} {base : Heap} (T : DefAt K mg "_law_rows" s__law_rows ["_law_state", "_law_names_here", "_law_many"]) (B : Blt mg) (F__law_row : FnAt P w K mg base CX0 3 "_law_row" 3 sp__law_row) (F__law_take : FnAt P w K mg base CX0 1 "_law_take" 2 sp__law_take) : FnAt P w K mg base CX0 4 "_law_rows" 3 (sem0 9 g__law_rows) := by
  have nd := sc__law_rows.nd
  exact T.fn0 sc__law_rows (fun f cdv A outer s H E hr => (dss_cons (ds_set (i := 3) nd rfl (by first | exact Or.inl rfl | exact Or.inr rfl) de_int)
  (dss_cons (ds_set (i := 4) nd rfl (by first | exact Or.inl rfl | exact Or.inr rfl) (de_lstC da_nil))
  (dss_cons (ds_for PassesOwn.never rfl (di_range1 B (by rfl) (da_cons (de_mul (de_var 2) (de_toint B (by rfl) (da_cons (de_ne hr (de_var 1) (de_lst da_nil)) da_nil))) da_nil)) (dg_name (i := 5) nd rfl (by first | exact Or.inl rfl | exact Or.inr rfl)) (dss_cons (ds_asg (de_call0 F__law_row hr (by rfl) (da_cons (de_var 0) (da_cons (de_ix (de_var 1) (de_call0 F__law_take hr (by rfl) (da_cons (de_var 0) (da_cons (de_len B (by rfl) (da_cons (de_var 1) da_nil)) da_nil)))) (da_cons (de_var 3) da_nil)))) (dg_tup rfl (dgs_cons (dg_name (i := 6) nd rfl (by first | exact Or.inl rfl | exact Or.inr rfl)) (dgs_cons (dg_name (i := 7) nd rfl (by first | exact Or.inl rfl | exact Or.inr rfl)) dgs_nil))))
  (dss_cons (ds_set (i := 3) nd rfl (by first | exact Or.inl rfl | exact Or.inr rfl) (de_sub (de_var 3) (de_var 7)))
  (dss_one (ds_if (dt_w (dw_or (dt_ne hr (de_ix (de_var 6) de_int) de_str) (dw_or1 (dt_lt (de_bm PySem.F.plainAttrs_list PySem.F.slot_list_count (by rfl) mt_countV ok_count (de_lc (own := [("_law_one", 8)]) (us := [8]) rfl nd (di_seq (de_var 4)) (blkOk_by (N := ["_law_state", "_law_names_here", "_law_many", "_law_room", "_law_found", "_law_turn", "_law_row_here", "_law_taken", "_law_one"]) (sc := defScope s__law_rows) (by decide +kernel)) (by decide) (fun _ _ _ _ _ => (dg_name (i := 8) nd rfl (by first | exact Or.inl rfl | exact Or.inr rfl))) (fun _ _ _ _ _ => dts_nil) (fun _ _ _ _ _ => (de_ix (de_var 8) de_int))) (da_cons de_str da_nil) (by rfl) (by rfl) (by rfl) (by rfl) (by rfl)) de_int)))) (dss_one (ds_expr (de_bm PySem.F.plainAttrs_list PySem.F.slot_list_append (by rfl) mt_append ok_append (de_var 4) (da_cons (de_var 6) da_nil) (by rfl) (by rfl) (by rfl) (by rfl) (by rfl)))) dss_nil)))))
  (dss_one (ds_ret (de_tuple B (by rfl) (da_cons (de_var 4) da_nil))))))))

theorem v__law_rows : ∀ ds w kx k, sp__law_rows ds w kx k → gTr (sem0 9 g__law_rows) ds w kx k := by
  rintro ds w kx k ⟨ss, m, c, n, rfl, ⟨⟨hs0, hs1, hm, hss⟩, hn, hc⟩, hk⟩
  have e : rho 9 [D.st, D.lst (ss.map D.str), D.int (m : Int)] = [some .st, some (.lst (ss.map D.str)), some (.int m), none, none, none, none, none, none] := rfl
  simp only [g__law_rows, e, giRange1, sp__law_take, sem0, List.map_cons, List.map_nil, List.length_cons, List.length_nil, gSeq, gNext, gRet, gRetN, gIfS, gSet, gPar, gAsg, gDrop, gVar, gC, gBin, gUn, gB, gTru, gAnd, gOr, gNot, gAndV, gOrV, gNotV, gIf, gChain, gaNil, gaCons, DL.gTup, gLst, gCB, gCall0, gAug, addD_i, addD_s, addD_l, addD_t, subD_i, mulD_i, mulD_l, fdivD_i, modD_i, powD_i, ltD_i, ltD_s, leD_i, gtD_i, geD_i, isD_n, isnotD_n, isNonD_non, isNonD_bl, isNonD_int, isNonD_str, isNonD_lst, isNonD_tup, negD_i, iaddD_i, truD_non, truD_bl, truD_int, truD_str, truD_lst, truD_tup, someK_some, ixD_l, ixD_t, fAbs_i, fInt_i, fInt_b, fMin2_i, fLen_l, fLen_t, fLen_s, fList_l, fList_t, fTuple_l, fTuple_t, optBK_some, fIsi_non, fIsi_bl, fIsi_int, fIsi_str, fIsi_lst, fIsi_tup, List.getElem?_cons_zero, List.getElem?_cons_succ, List.set_cons_zero, List.set_cons_succ, DL.ggName, ggNil0, ggCons1, ggTup2, ggTup3, gFor, giSeq, gLc, gYes, wipeR, true_and, and_true, at_0, at_1, at_2, kit_int_int, kit_bool_int, kit_str_int, kit_non_int, kit_list_int, kit_tuple_int, kit_int_bool, kit_bool_bool, kit_str_bool, kit_non_bool, kit_list_bool, kit_tuple_bool, kit_int_str, kit_bool_str, kit_str_str, kit_non_str, kit_list_str, kit_tuple_str, kit_int_list, kit_bool_list, kit_str_list, kit_non_list, kit_list_list, kit_tuple_list, kit_int_tuple, kit_bool_tuple, kit_str_tuple, kit_non_tuple, kit_list_tuple, kit_tuple_tuple, eqD_i, neD_i, eqD_s, neD_s, eqD_f, neD_f, Nat.zero_add, Nat.reduceAdd, nc0, nc1, nc2, nc3, nc4, nc5, nc6, nc7, nc8, nc9, eq_self, decide_true, decide_false, Int.reduceEq, Int.reduceLT, Int.reduceLE, Int.reduceNeg, Bool.not_true, Bool.not_false, Bool.false_eq_true, if_true, if_false, ↓reduceIte, false_and, and_false, List.all_cons, List.all_nil, List.any_cons, List.any_nil, id_eq, Bool.and_true, Bool.true_and, Bool.or_false, Bool.false_or, Bool.and_false, Bool.false_and, gCut, eqD_b, neD_b, giZip, reduceCtorEq, Bool.true_eq_false, Bool.false_eq_true, gRevL, gSl, goNone, goSome, slD_l, ne_eq, not_false_eq_true, not_true_eq_false, gBM, isTy_l, isTy_s, new_at, new_set, isTy_new, cellK_new, append_new, popAt_new, gFrz_eq, frzK_new, fLen_new, fTuple_new, ixD_new, slA_l, slA_t, slA_new, addTD_t, addCD_l, mulCD_l, isbD_b, isnotbD_b, mSplitC_s, gLstC, gTr, ggSub, lstK_l, lstK_r, addLD_eq]
  refine ⟨by decide, by decide, ne_nil hss hs0 ?_⟩
  simp only [sem0, List.map_cons, List.map_nil, List.length_cons, List.length_nil, gSeq, gNext, gRet, gRetN, gIfS, gSet, gPar, gAsg, gDrop, gVar, gC, gBin, gUn, gB, gTru, gAnd, gOr, gNot, gAndV, gOrV, gNotV, gIf, gChain, gaNil, gaCons, DL.gTup, gLst, gCB, gCall0, gAug, addD_i, addD_s, addD_l, addD_t, subD_i, mulD_i, mulD_l, fdivD_i, modD_i, powD_i, ltD_i, ltD_s, leD_i, gtD_i, geD_i, isD_n, isnotD_n, isNonD_non, isNonD_bl, isNonD_int, isNonD_str, isNonD_lst, isNonD_tup, negD_i, iaddD_i, truD_non, truD_bl, truD_int, truD_str, truD_lst, truD_tup, someK_some, ixD_l, ixD_t, fAbs_i, fInt_i, fInt_b, fMin2_i, fLen_l, fLen_t, fLen_s, fList_l, fList_t, fTuple_l, fTuple_t, optBK_some, fIsi_non, fIsi_bl, fIsi_int, fIsi_str, fIsi_lst, fIsi_tup, List.getElem?_cons_zero, List.getElem?_cons_succ, List.set_cons_zero, List.set_cons_succ, DL.ggName, ggNil0, ggCons1, ggTup2, ggTup3, gFor, giSeq, gLc, gYes, wipeR, true_and, and_true, at_0, at_1, at_2, kit_int_int, kit_bool_int, kit_str_int, kit_non_int, kit_list_int, kit_tuple_int, kit_int_bool, kit_bool_bool, kit_str_bool, kit_non_bool, kit_list_bool, kit_tuple_bool, kit_int_str, kit_bool_str, kit_str_str, kit_non_str, kit_list_str, kit_tuple_str, kit_int_list, kit_bool_list, kit_str_list, kit_non_list, kit_list_list, kit_tuple_list, kit_int_tuple, kit_bool_tuple, kit_str_tuple, kit_non_tuple, kit_list_tuple, kit_tuple_tuple, eqD_i, neD_i, eqD_s, neD_s, eqD_f, neD_f, Nat.zero_add, Nat.reduceAdd, nc0, nc1, nc2, nc3, nc4, nc5, nc6, nc7, nc8, nc9, eq_self, decide_true, decide_false, Int.reduceEq, Int.reduceLT, Int.reduceLE, Int.reduceNeg, Bool.not_true, Bool.not_false, Bool.false_eq_true, if_true, if_false, ↓reduceIte, false_and, and_false, List.all_cons, List.all_nil, List.any_cons, List.any_nil, id_eq, Bool.and_true, Bool.true_and, Bool.or_false, Bool.false_or, Bool.and_false, Bool.false_and, gCut, eqD_b, neD_b, giZip, reduceCtorEq, Bool.true_eq_false, Bool.false_eq_true, gRevL, gSl, goNone, goSome, slD_l, ne_eq, not_false_eq_true, not_true_eq_false, gBM, isTy_l, isTy_s, new_at, new_set, isTy_new, cellK_new, append_new, popAt_new, gFrz_eq, frzK_new, fLen_new, fTuple_new, ixD_new, slA_l, slA_t, slA_new, addTD_t, addCD_l, mulCD_l, isbD_b, isnotbD_b, mSplitC_s, gLstC, gTr, ggSub, lstK_l, lstK_r, addLD_eq]
  refine ⟨mulx_ok (a := 10) (b := 1) (Nat.lt_of_le_of_lt (show (m : Int).natAbs ≤ 8 by omega) (by decide)) (by decide) (by decide), ⟨by omega, by omega⟩, ?_⟩
  have em : ((m : Int) * 1).toNat = m := by omega
  rw [em]
  refine ⟨fun rem ρ w' => ∃ (rs : List Row) (room : Int) (x5 x6 x7 x8 : Option D) (c' : Nat), ρ = [some .st, some (.lst (ss.map D.str)), some (.int m), some (.int room), some (.rf w.M.length), x5, x6, x7, x8] ∧ w' = ⟨w.M ++ [.lst (rs.map rowD)], some c'⟩ ∧
    rs.length + rem.length ≤ m ∧ (∀ r ∈ rs, RowOk r ∧ LeftOk r) ∧ UnitW rs (60 - room) ∧ (0 ≤ room ∧ room ≤ 60) ∧ n + 21 * rem.length ≤ c', ⟨[], 60, none, none, none, none, c, rfl, by rw [hn]; rfl, ?_, (by intro r hr; cases hr), unitW_nil (by decide), by decide, ?_⟩, ?_, ?_⟩
  · rw [range_len]
    simp
  · rw [range_len]
    exact hc
  · rintro ρ w' ⟨rs, room, x5, x6, x7, x8, c', rfl, rfl, h1, h2, h3, h4, h5⟩
    rw [List.length_nil] at h1 h5
    refine ⟨trivial, ?_⟩
    simp only [sem0, List.map_cons, List.map_nil, List.length_cons, List.length_nil, gSeq, gNext, gRet, gRetN, gIfS, gSet, gPar, gAsg, gDrop, gVar, gC, gBin, gUn, gB, gTru, gAnd, gOr, gNot, gAndV, gOrV, gNotV, gIf, gChain, gaNil, gaCons, DL.gTup, gLst, gCB, gCall0, gAug, addD_i, addD_s, addD_l, addD_t, subD_i, mulD_i, mulD_l, fdivD_i, modD_i, powD_i, ltD_i, ltD_s, leD_i, gtD_i, geD_i, isD_n, isnotD_n, isNonD_non, isNonD_bl, isNonD_int, isNonD_str, isNonD_lst, isNonD_tup, negD_i, iaddD_i, truD_non, truD_bl, truD_int, truD_str, truD_lst, truD_tup, someK_some, ixD_l, ixD_t, fAbs_i, fInt_i, fInt_b, fMin2_i, fLen_l, fLen_t, fLen_s, fList_l, fList_t, fTuple_l, fTuple_t, optBK_some, fIsi_non, fIsi_bl, fIsi_int, fIsi_str, fIsi_lst, fIsi_tup, List.getElem?_cons_zero, List.getElem?_cons_succ, List.set_cons_zero, List.set_cons_succ, DL.ggName, ggNil0, ggCons1, ggTup2, ggTup3, gFor, giSeq, gLc, gYes, wipeR, true_and, and_true, at_0, at_1, at_2, kit_int_int, kit_bool_int, kit_str_int, kit_non_int, kit_list_int, kit_tuple_int, kit_int_bool, kit_bool_bool, kit_str_bool, kit_non_bool, kit_list_bool, kit_tuple_bool, kit_int_str, kit_bool_str, kit_str_str, kit_non_str, kit_list_str, kit_tuple_str, kit_int_list, kit_bool_list, kit_str_list, kit_non_list, kit_list_list, kit_tuple_list, kit_int_tuple, kit_bool_tuple, kit_str_tuple, kit_non_tuple, kit_list_tuple, kit_tuple_tuple, eqD_i, neD_i, eqD_s, neD_s, eqD_f, neD_f, Nat.zero_add, Nat.reduceAdd, nc0, nc1, nc2, nc3, nc4, nc5, nc6, nc7, nc8, nc9, eq_self, decide_true, decide_false, Int.reduceEq, Int.reduceLT, Int.reduceLE, Int.reduceNeg, Bool.not_true, Bool.not_false, Bool.false_eq_true, if_true, if_false, ↓reduceIte, false_and, and_false, List.all_cons, List.all_nil, List.any_cons, List.any_nil, id_eq, Bool.and_true, Bool.true_and, Bool.or_false, Bool.false_or, Bool.and_false, Bool.false_and, gCut, eqD_b, neD_b, giZip, reduceCtorEq, Bool.true_eq_false, Bool.false_eq_true, gRevL, gSl, goNone, goSome, slD_l, ne_eq, not_false_eq_true, not_true_eq_false, gBM, isTy_l, isTy_s, new_at, new_set, isTy_new, cellK_new, append_new, popAt_new, gFrz_eq, frzK_new, fLen_new, fTuple_new, ixD_new, slA_l, slA_t, slA_new, addTD_t, addCD_l, mulCD_l, isbD_b, isnotbD_b, mSplitC_s, gLstC, gTr, ggSub, lstK_l, lstK_r, addLD_eq]
    exact ⟨⟨_, rfl⟩, low_rows rs, hk rs c' ⟨h1, fun r hr => (h2 r hr).1⟩ ⟨fun r hr => (h2 r hr).2, unitW_mono (fun r hr => (h2 r hr).1) h3 (by omega)⟩ h5⟩
  · rintro z xs ρ w' ⟨rs, room, x5, x6, x7, x8, c', rfl, rfl, h1, h2, h3, ⟨h4, h4'⟩, h5⟩
    rw [List.length_cons] at h1 h5
    refine ⟨trivial, ?_⟩
    simp only [sem0, List.map_cons, List.map_nil, List.length_cons, List.length_nil, gSeq, gNext, gRet, gRetN, gIfS, gSet, gPar, gAsg, gDrop, gVar, gC, gBin, gUn, gB, gTru, gAnd, gOr, gNot, gAndV, gOrV, gNotV, gIf, gChain, gaNil, gaCons, DL.gTup, gLst, gCB, gCall0, gAug, addD_i, addD_s, addD_l, addD_t, subD_i, mulD_i, mulD_l, fdivD_i, modD_i, powD_i, ltD_i, ltD_s, leD_i, gtD_i, geD_i, isD_n, isnotD_n, isNonD_non, isNonD_bl, isNonD_int, isNonD_str, isNonD_lst, isNonD_tup, negD_i, iaddD_i, truD_non, truD_bl, truD_int, truD_str, truD_lst, truD_tup, someK_some, ixD_l, ixD_t, fAbs_i, fInt_i, fInt_b, fMin2_i, fLen_l, fLen_t, fLen_s, fList_l, fList_t, fTuple_l, fTuple_t, optBK_some, fIsi_non, fIsi_bl, fIsi_int, fIsi_str, fIsi_lst, fIsi_tup, List.getElem?_cons_zero, List.getElem?_cons_succ, List.set_cons_zero, List.set_cons_succ, DL.ggName, ggNil0, ggCons1, ggTup2, ggTup3, gFor, giSeq, gLc, gYes, wipeR, true_and, and_true, at_0, at_1, at_2, kit_int_int, kit_bool_int, kit_str_int, kit_non_int, kit_list_int, kit_tuple_int, kit_int_bool, kit_bool_bool, kit_str_bool, kit_non_bool, kit_list_bool, kit_tuple_bool, kit_int_str, kit_bool_str, kit_str_str, kit_non_str, kit_list_str, kit_tuple_str, kit_int_list, kit_bool_list, kit_str_list, kit_non_list, kit_list_list, kit_tuple_list, kit_int_tuple, kit_bool_tuple, kit_str_tuple, kit_non_tuple, kit_list_tuple, kit_tuple_tuple, eqD_i, neD_i, eqD_s, neD_s, eqD_f, neD_f, Nat.zero_add, Nat.reduceAdd, nc0, nc1, nc2, nc3, nc4, nc5, nc6, nc7, nc8, nc9, eq_self, decide_true, decide_false, Int.reduceEq, Int.reduceLT, Int.reduceLE, Int.reduceNeg, Bool.not_true, Bool.not_false, Bool.false_eq_true, if_true, if_false, ↓reduceIte, false_and, and_false, List.all_cons, List.all_nil, List.any_cons, List.any_nil, id_eq, Bool.and_true, Bool.true_and, Bool.or_false, Bool.false_or, Bool.and_false, Bool.false_and, gCut, eqD_b, neD_b, giZip, reduceCtorEq, Bool.true_eq_false, Bool.false_eq_true, gRevL, gSl, goNone, goSome, slD_l, ne_eq, not_false_eq_true, not_true_eq_false, gBM, isTy_l, isTy_s, new_at, new_set, isTy_new, cellK_new, append_new, popAt_new, gFrz_eq, frzK_new, fLen_new, fTuple_new, ixD_new, slA_l, slA_t, slA_new, addTD_t, addCD_l, mulCD_l, isbD_b, isnotbD_b, mSplitC_s, gLstC, gTr, ggSub, lstK_l, lstK_r, addLD_eq]
    have hlen : ((ss.map D.str).length : Int) = ss.length := by rw [List.length_map]
    refine take_use (n + 21 * xs.length + 20) rfl (by omega) ⟨by omega, log_int (by omega) (by omega)⟩ fun r1 c1 g0 g1 hc1 => ?_
    refine ix_all (fun d => ∃ s : Str, d = .str s) g0 g1 (fun x hx => ?_) ?_
    · obtain ⟨s, _, rfl⟩ := List.mem_map.mp hx
      exact ⟨s, rfl⟩
    rintro d ⟨s, rfl⟩
    refine row_use (n + 21 * xs.length) rfl (by omega) ⟨h4, h4'⟩ fun r t c2 g2 g2l g3 g4 g5 hc2 => ?_
    simp only [row0, sem0, List.map_cons, List.map_nil, List.length_cons, List.length_nil, gSeq, gNext, gRet, gRetN, gIfS, gSet, gPar, gAsg, gDrop, gVar, gC, gBin, gUn, gB, gTru, gAnd, gOr, gNot, gAndV, gOrV, gNotV, gIf, gChain, gaNil, gaCons, DL.gTup, gLst, gCB, gCall0, gAug, addD_i, addD_s, addD_l, addD_t, subD_i, mulD_i, mulD_l, fdivD_i, modD_i, powD_i, ltD_i, ltD_s, leD_i, gtD_i, geD_i, isD_n, isnotD_n, isNonD_non, isNonD_bl, isNonD_int, isNonD_str, isNonD_lst, isNonD_tup, negD_i, iaddD_i, truD_non, truD_bl, truD_int, truD_str, truD_lst, truD_tup, someK_some, ixD_l, ixD_t, fAbs_i, fInt_i, fInt_b, fMin2_i, fLen_l, fLen_t, fLen_s, fList_l, fList_t, fTuple_l, fTuple_t, optBK_some, fIsi_non, fIsi_bl, fIsi_int, fIsi_str, fIsi_lst, fIsi_tup, List.getElem?_cons_zero, List.getElem?_cons_succ, List.set_cons_zero, List.set_cons_succ, DL.ggName, ggNil0, ggCons1, ggTup2, ggTup3, gFor, giSeq, gLc, gYes, wipeR, true_and, and_true, at_0, at_1, at_2, kit_int_int, kit_bool_int, kit_str_int, kit_non_int, kit_list_int, kit_tuple_int, kit_int_bool, kit_bool_bool, kit_str_bool, kit_non_bool, kit_list_bool, kit_tuple_bool, kit_int_str, kit_bool_str, kit_str_str, kit_non_str, kit_list_str, kit_tuple_str, kit_int_list, kit_bool_list, kit_str_list, kit_non_list, kit_list_list, kit_tuple_list, kit_int_tuple, kit_bool_tuple, kit_str_tuple, kit_non_tuple, kit_list_tuple, kit_tuple_tuple, eqD_i, neD_i, eqD_s, neD_s, eqD_f, neD_f, Nat.zero_add, Nat.reduceAdd, nc0, nc1, nc2, nc3, nc4, nc5, nc6, nc7, nc8, nc9, eq_self, decide_true, decide_false, Int.reduceEq, Int.reduceLT, Int.reduceLE, Int.reduceNeg, Bool.not_true, Bool.not_false, Bool.false_eq_true, if_true, if_false, ↓reduceIte, false_and, and_false, List.all_cons, List.all_nil, List.any_cons, List.any_nil, id_eq, Bool.and_true, Bool.true_and, Bool.or_false, Bool.false_or, Bool.and_false, Bool.false_and, gCut, eqD_b, neD_b, giZip, reduceCtorEq, Bool.true_eq_false, Bool.false_eq_true, gRevL, gSl, goNone, goSome, slD_l, ne_eq, not_false_eq_true, not_true_eq_false, gBM, isTy_l, isTy_s, new_at, new_set, isTy_new, cellK_new, append_new, popAt_new, gFrz_eq, frzK_new, fLen_new, fTuple_new, ixD_new, slA_l, slA_t, slA_new, addTD_t, addCD_l, mulCD_l, isbD_b, isnotbD_b, mSplitC_s, gLstC, gTr, ggSub, lstK_l, lstK_r, addLD_eq]
    have more : ∃ rs' room' y5 y6 y7 y8 c', ([some .st, some (.lst (ss.map D.str)), some (.int m), some (.int (room - t)), some (.rf w.M.length), some z, some (rowD r), some (.int t), x8] : Rho) = [some .st, some (.lst (ss.map D.str)), some (.int m), some (.int room'), some (.rf w.M.length), y5, y6, y7, y8] ∧ (⟨w.M ++ [.lst ((rs ++ [r]).map rowD)], some c2⟩ : Wd) = ⟨w.M ++ [.lst (rs'.map rowD)], some c'⟩ ∧
      rs'.length + xs.length ≤ m ∧ (∀ r ∈ rs', RowOk r ∧ LeftOk r) ∧ UnitW rs' (60 - room') ∧ (0 ≤ room' ∧ room' ≤ 60) ∧ n + 21 * xs.length ≤ c' := by
      refine ⟨rs ++ [r], room - t, _, _, _, _, c2, rfl, rfl, by rw [List.length_append]; simp; omega, fun q hq => ?_, ?_, ⟨by omega, by omega⟩, hc2⟩
      · rcases List.mem_append.mp hq with hq | hq
        · exact h2 q hq
        · rw [List.mem_singleton.mp hq]
          exact ⟨g2, g2l⟩
      · have := unitW_add (fun r hr => (h2 r hr).1) g2 h3 g4 g3
        rw [show 60 - (room - t) = 60 - room + t by omega]
        exact this
    have less : ∃ rs' room' y5 y6 y7 y8 c', ([some .st, some (.lst (ss.map D.str)), some (.int m), some (.int (room - t)), some (.rf w.M.length), some z, some (rowD r), some (.int t), x8] : Rho) = [some .st, some (.lst (ss.map D.str)), some (.int m), some (.int room'), some (.rf w.M.length), y5, y6, y7, y8] ∧ (⟨w.M ++ [.lst (rs.map rowD)], some c2⟩ : Wd) = ⟨w.M ++ [.lst (rs'.map rowD)], some c'⟩ ∧
      rs'.length + xs.length ≤ m ∧ (∀ r ∈ rs', RowOk r ∧ LeftOk r) ∧ UnitW rs' (60 - room') ∧ (0 ≤ room' ∧ room' ≤ 60) ∧ n + 21 * xs.length ≤ c' :=
      ⟨rs, room - t, _, _, _, _, c2, rfl, rfl, by omega, h2, unitW_mono (fun r hr => (h2 r hr).1) h3 (by omega), ⟨by omega, by omega⟩, hc2⟩
    rw [List.map_append] at more
    have hl : (rs.map rowD).length ≤ 100000 := by rw [List.length_map]; omega
    refine ite2 (fun _ => ⟨lt_sl hl, more⟩) (fun _ => ?_)
    refine lc_map rowK new_at hl (fun x hx k' hk' => ?_) ?_
    · obtain ⟨q, _, rfl⟩ := List.mem_map.mp hx
      rw [rowK_row] at hk'
      simp only [row0, sem0, List.map_cons, List.map_nil, List.length_cons, List.length_nil, gSeq, gNext, gRet, gRetN, gIfS, gSet, gPar, gAsg, gDrop, gVar, gC, gBin, gUn, gB, gTru, gAnd, gOr, gNot, gAndV, gOrV, gNotV, gIf, gChain, gaNil, gaCons, DL.gTup, gLst, gCB, gCall0, gAug, addD_i, addD_s, addD_l, addD_t, subD_i, mulD_i, mulD_l, fdivD_i, modD_i, powD_i, ltD_i, ltD_s, leD_i, gtD_i, geD_i, isD_n, isnotD_n, isNonD_non, isNonD_bl, isNonD_int, isNonD_str, isNonD_lst, isNonD_tup, negD_i, iaddD_i, truD_non, truD_bl, truD_int, truD_str, truD_lst, truD_tup, someK_some, ixD_l, ixD_t, fAbs_i, fInt_i, fInt_b, fMin2_i, fLen_l, fLen_t, fLen_s, fList_l, fList_t, fTuple_l, fTuple_t, optBK_some, fIsi_non, fIsi_bl, fIsi_int, fIsi_str, fIsi_lst, fIsi_tup, List.getElem?_cons_zero, List.getElem?_cons_succ, List.set_cons_zero, List.set_cons_succ, DL.ggName, ggNil0, ggCons1, ggTup2, ggTup3, gFor, giSeq, gLc, gYes, wipeR, true_and, and_true, at_0, at_1, at_2, kit_int_int, kit_bool_int, kit_str_int, kit_non_int, kit_list_int, kit_tuple_int, kit_int_bool, kit_bool_bool, kit_str_bool, kit_non_bool, kit_list_bool, kit_tuple_bool, kit_int_str, kit_bool_str, kit_str_str, kit_non_str, kit_list_str, kit_tuple_str, kit_int_list, kit_bool_list, kit_str_list, kit_non_list, kit_list_list, kit_tuple_list, kit_int_tuple, kit_bool_tuple, kit_str_tuple, kit_non_tuple, kit_list_tuple, kit_tuple_tuple, eqD_i, neD_i, eqD_s, neD_s, eqD_f, neD_f, Nat.zero_add, Nat.reduceAdd, nc0, nc1, nc2, nc3, nc4, nc5, nc6, nc7, nc8, nc9, eq_self, decide_true, decide_false, Int.reduceEq, Int.reduceLT, Int.reduceLE, Int.reduceNeg, Bool.not_true, Bool.not_false, Bool.false_eq_true, if_true, if_false, ↓reduceIte, false_and, and_false, List.all_cons, List.all_nil, List.any_cons, List.any_nil, id_eq, Bool.and_true, Bool.true_and, Bool.or_false, Bool.false_or, Bool.and_false, Bool.false_and, gCut, eqD_b, neD_b, giZip, reduceCtorEq, Bool.true_eq_false, Bool.false_eq_true, gRevL, gSl, goNone, goSome, slD_l, ne_eq, not_false_eq_true, not_true_eq_false, gBM, isTy_l, isTy_s, new_at, new_set, isTy_new, cellK_new, append_new, popAt_new, gFrz_eq, frzK_new, fLen_new, fTuple_new, ixD_new, slA_l, slA_t, slA_new, addTD_t, addCD_l, mulCD_l, isbD_b, isnotbD_b, mSplitC_s, gLstC, gTr, ggSub, lstK_l, lstK_r, addLD_eq]
      exact hk'
    · rw [rowK_rows]
      refine ⟨rfl, ⟨_, allStr_map _, fun cc _ => ?_⟩⟩
      simp only [sem0, List.map_cons, List.map_nil, List.length_cons, List.length_nil, gSeq, gNext, gRet, gRetN, gIfS, gSet, gPar, gAsg, gDrop, gVar, gC, gBin, gUn, gB, gTru, gAnd, gOr, gNot, gAndV, gOrV, gNotV, gIf, gChain, gaNil, gaCons, DL.gTup, gLst, gCB, gCall0, gAug, addD_i, addD_s, addD_l, addD_t, subD_i, mulD_i, mulD_l, fdivD_i, modD_i, powD_i, ltD_i, ltD_s, leD_i, gtD_i, geD_i, isD_n, isnotD_n, isNonD_non, isNonD_bl, isNonD_int, isNonD_str, isNonD_lst, isNonD_tup, negD_i, iaddD_i, truD_non, truD_bl, truD_int, truD_str, truD_lst, truD_tup, someK_some, ixD_l, ixD_t, fAbs_i, fInt_i, fInt_b, fMin2_i, fLen_l, fLen_t, fLen_s, fList_l, fList_t, fTuple_l, fTuple_t, optBK_some, fIsi_non, fIsi_bl, fIsi_int, fIsi_str, fIsi_lst, fIsi_tup, List.getElem?_cons_zero, List.getElem?_cons_succ, List.set_cons_zero, List.set_cons_succ, DL.ggName, ggNil0, ggCons1, ggTup2, ggTup3, gFor, giSeq, gLc, gYes, wipeR, true_and, and_true, at_0, at_1, at_2, kit_int_int, kit_bool_int, kit_str_int, kit_non_int, kit_list_int, kit_tuple_int, kit_int_bool, kit_bool_bool, kit_str_bool, kit_non_bool, kit_list_bool, kit_tuple_bool, kit_int_str, kit_bool_str, kit_str_str, kit_non_str, kit_list_str, kit_tuple_str, kit_int_list, kit_bool_list, kit_str_list, kit_non_list, kit_list_list, kit_tuple_list, kit_int_tuple, kit_bool_tuple, kit_str_tuple, kit_non_tuple, kit_list_tuple, kit_tuple_tuple, eqD_i, neD_i, eqD_s, neD_s, eqD_f, neD_f, Nat.zero_add, Nat.reduceAdd, nc0, nc1, nc2, nc3, nc4, nc5, nc6, nc7, nc8, nc9, eq_self, decide_true, decide_false, Int.reduceEq, Int.reduceLT, Int.reduceLE, Int.reduceNeg, Bool.not_true, Bool.not_false, Bool.false_eq_true, if_true, if_false, ↓reduceIte, false_and, and_false, List.all_cons, List.all_nil, List.any_cons, List.any_nil, id_eq, Bool.and_true, Bool.true_and, Bool.or_false, Bool.false_or, Bool.and_false, Bool.false_and, gCut, eqD_b, neD_b, giZip, reduceCtorEq, Bool.true_eq_false, Bool.false_eq_true, gRevL, gSl, goNone, goSome, slD_l, ne_eq, not_false_eq_true, not_true_eq_false, gBM, isTy_l, isTy_s, new_at, new_set, isTy_new, cellK_new, append_new, popAt_new, gFrz_eq, frzK_new, fLen_new, fTuple_new, ixD_new, slA_l, slA_t, slA_new, addTD_t, addCD_l, mulCD_l, isbD_b, isnotbD_b, mSplitC_s, gLstC, gTr, ggSub, lstK_l, lstK_r, addLD_eq]
      exact ite2 (fun _ => ⟨lt_sl hl, more⟩) (fun _ => less)
theorem ok__law_rows {P : Program} {w : World} {K : PySem.W.Frag} {mg : Str → Option Value} {base : Heap} (T : DefAt K mg "_law_rows" s__law_rows ["_law_state", "_law_names_here", "_law_many"]) (B : Blt mg) (F__law_row : FnAt P w K mg base CX0 3 "_law_row" 3 sp__law_row) (F__law_take : FnAt P w K mg base CX0 1 "_law_take" 2 sp__law_take) : FnAt P w K mg base CX0 4 "_law_rows" 3 sp__law_rows := (w__law_rows T B F__law_row F__law_take).trunc.imp v__law_rows

def sp__law_some_rows : GF := fun ds w _ k => ∃ c n : Nat, ds = [.st] ∧ (w.n = some c ∧ n + 190 ≤ c) ∧ ∀ rs c', RowsOk rs 8 → Rows9 rs → n ≤ c' → k (.tup (rs.map rowD)) ⟨w.M, some c'⟩
abbrev s__law_some_rows : Stmt := topS 25
theorem sc__law_some_rows : FnScope ["_law_state", "_law_many"] ["_law_state"] (defScope s__law_some_rows) := ⟨rfl, rfl, rfl, by decide +kernel, rfl, by decide +kernel, by decide +kernel⟩
def g__law_some_rows : GS := (gSeq (gSet 1 (gBin ixD (gLst (gaCons (gCall0 2 sp__law_take (gaCons (gVar 0) (gaCons (gC (.int 5)) gaNil))) (gaCons (gCall0 2 sp__law_take (gaCons (gVar 0) (gaCons (gC (.int 9)) gaNil))) gaNil))) (gCB fInt (gaCons (gBin eqD (gCall0 2 sp__law_take (gaCons (gVar 0) (gaCons (gC (.int 6)) gaNil))) (gC (.int 0))) gaNil))))
  (gRet (gCall0 3 sp__law_rows (gaCons (gVar 0) (gaCons (gCall0 2 sp__law_names (gaCons (gVar 0) (gaCons (gBin addD (gC (.int 1)) (gCall0 2 sp__law_take (gaCons (gVar 0) (gaCons (gC (.int 5)) gaNil)))) gaNil))) (gaCons (gVar 1) gaNil))))))
theorem w__law_some_rows {P : Program} {w : World} {K : PySem.W.Frag} {mg : Str → Option Value} {base : Heap} (T : DefAt K mg "_law_some_rows" s__law_some_rows ["_law_state"]) (B : Blt mg) (F__law_rows : FnAt P w K mg base CX0 4 "_law_rows" 3 sp__law_rows) (F__law_names : FnAt P w K mg base CX0 2 "_law_names" 2 sp__law_names) (F__law_take : FnAt P w K mg base CX0 1 "_law_take" 2 sp__law_take) : FnAt P w K mg base CX0 5 "_law_some_rows" 1 (sem0 2 g__law_some_rows) := by
  have nd := sc__law_some_rows.nd
  exact T.fn0 sc__law_some_rows (fun f cdv A outer s H E hr => (dss_cons (ds_set (i := 1) nd rfl (by first | exact Or.inl rfl | exact Or.inr rfl) (de_ix (de_lst (da_cons (de_call0 F__law_take hr (by rfl) (da_cons (de_var 0) (da_cons de_int da_nil))) (da_cons (de_call0 F__law_take hr (by rfl) (da_cons (de_var 0) (da_cons de_int da_nil))) da_nil))) (de_toint B (by rfl) (da_cons (de_eq hr (de_call0 F__law_take hr (by rfl) (da_cons (de_var 0) (da_cons de_int da_nil))) de_int) da_nil))))
  (dss_one (ds_ret (de_call0 F__law_rows hr (by rfl) (da_cons (de_var 0) (da_cons (de_call0 F__law_names hr (by rfl) (da_cons (de_var 0) (da_cons (de_add de_int (de_call0 F__law_take hr (by rfl) (da_cons (de_var 0) (da_cons de_int da_nil)))) da_nil))) (da_cons (de_var 1) da_nil))))))))

theorem v__law_some_rows : ∀ ds w kx k, sp__law_some_rows ds w kx k → sem0 2 g__law_some_rows ds w kx k := by
  rintro ds w kx k ⟨c, n, rfl, ⟨hn, hc⟩, hk⟩
  have e : rho 2 [D.st] = [some .st, none] := rfl
  simp only [g__law_some_rows, e, sp__law_take, sem0, List.map_cons, List.map_nil, List.length_cons, List.length_nil, gSeq, gNext, gRet, gRetN, gIfS, gSet, gPar, gAsg, gDrop, gVar, gC, gBin, gUn, gB, gTru, gAnd, gOr, gNot, gAndV, gOrV, gNotV, gIf, gChain, gaNil, gaCons, DL.gTup, gLst, gCB, gCall0, gAug, addD_i, addD_s, addD_l, addD_t, subD_i, mulD_i, mulD_l, fdivD_i, modD_i, powD_i, ltD_i, ltD_s, leD_i, gtD_i, geD_i, isD_n, isnotD_n, isNonD_non, isNonD_bl, isNonD_int, isNonD_str, isNonD_lst, isNonD_tup, negD_i, iaddD_i, truD_non, truD_bl, truD_int, truD_str, truD_lst, truD_tup, someK_some, ixD_l, ixD_t, fAbs_i, fInt_i, fInt_b, fMin2_i, fLen_l, fLen_t, fLen_s, fList_l, fList_t, fTuple_l, fTuple_t, optBK_some, fIsi_non, fIsi_bl, fIsi_int, fIsi_str, fIsi_lst, fIsi_tup, List.getElem?_cons_zero, List.getElem?_cons_succ, List.set_cons_zero, List.set_cons_succ, DL.ggName, ggNil0, ggCons1, ggTup2, ggTup3, gFor, giSeq, gLc, gYes, wipeR, true_and, and_true, at_0, at_1, at_2, kit_int_int, kit_bool_int, kit_str_int, kit_non_int, kit_list_int, kit_tuple_int, kit_int_bool, kit_bool_bool, kit_str_bool, kit_non_bool, kit_list_bool, kit_tuple_bool, kit_int_str, kit_bool_str, kit_str_str, kit_non_str, kit_list_str, kit_tuple_str, kit_int_list, kit_bool_list, kit_str_list, kit_non_list, kit_list_list, kit_tuple_list, kit_int_tuple, kit_bool_tuple, kit_str_tuple, kit_non_tuple, kit_list_tuple, kit_tuple_tuple, eqD_i, neD_i, eqD_s, neD_s, eqD_f, neD_f, Nat.zero_add, Nat.reduceAdd, nc0, nc1, nc2, nc3, nc4, nc5, nc6, nc7, nc8, nc9, eq_self, decide_true, decide_false, Int.reduceEq, Int.reduceLT, Int.reduceLE, Int.reduceNeg, Bool.not_true, Bool.not_false, Bool.false_eq_true, if_true, if_false, ↓reduceIte, false_and, and_false, List.all_cons, List.all_nil, List.any_cons, List.any_nil, id_eq, Bool.and_true, Bool.true_and, Bool.or_false, Bool.false_or, Bool.and_false, Bool.false_and, gCut, eqD_b, neD_b, giZip, reduceCtorEq, Bool.true_eq_false, Bool.false_eq_true, gRevL, gSl, goNone, goSome, slD_l, ne_eq, not_false_eq_true, not_true_eq_false, gBM, isTy_l, isTy_s, new_at, new_set, isTy_new, cellK_new, append_new, popAt_new, gFrz_eq, frzK_new, fLen_new, fTuple_new, ixD_new, slA_l, slA_t, slA_new, addTD_t, addCD_l, mulCD_l, isbD_b, isnotbD_b, mSplitC_s, gLstC, gTr, ggSub, lstK_l, lstK_r, addLD_eq]
  refine take_use (n + 189) hn (by omega) ⟨by decide, log_of (by decide)⟩ fun r1 c1 a0 a1 hc1 => ?_
  refine take_use (n + 188) rfl (by omega) ⟨by decide, log_of (by decide)⟩ fun r2 c2 a2 a3 hc2 => ⟨by decide, take_use (n + 187) rfl (by omega) ⟨by decide, log_of (by decide)⟩ fun r3 c3 a4 a5 hc3 => ?_⟩
  rw [eqD_i, fInt_b]
  have hi : 0 ≤ (if decide (r3 = 0) = true then (1 : Int) else 0) ∧ (if decide (r3 = 0) = true then (1 : Int) else 0) < 2 := by split <;> decide
  refine ix_all (fun d => ∃ b : Int, d = .int b ∧ 0 ≤ b ∧ b ≤ 8) hi.1 hi.2 (all_cons ⟨_, rfl, by omega, by omega⟩ (all_cons ⟨_, rfl, by omega, by omega⟩ all_nil)) ?_
  rintro d ⟨b, rfl, hb0, hb⟩
  refine take_use (n + 186) rfl (by omega) ⟨by decide, log_of (by decide)⟩ fun r4 c4 a6 a7 hc4 => ?_
  rw [addD_i]
  refine names_use (n + 170) rfl (by omega) ⟨by omega, by omega⟩ fun ss c5 b1 b2 hc5 => ?_
  refine ⟨ss, b.toNat, c5, n, by rw [Int.toNat_of_nonneg hb0], ⟨⟨by omega, by omega, by omega, b2⟩, rfl, by omega⟩, fun rs c6 b3 b4 hc6 => hk rs c6 ⟨Nat.le_trans b3.len (by omega), b3.ok⟩ b4 hc6⟩
theorem some_rows_use {w : Wd} {c : Nat} {kx : KX} {k : KD} (n : Nat) (hn : w.n = some c) (hc : n + 190 ≤ c) (h : ∀ rs c', RowsOk rs 8 → Rows9 rs → n ≤ c' → k (.tup (rs.map rowD)) ⟨w.M, some c'⟩) : sp__law_some_rows [.st] w kx k := ⟨c, n, rfl, ⟨hn, hc⟩, h⟩
theorem ok__law_some_rows {P : Program} {w : World} {K : PySem.W.Frag} {mg : Str → Option Value} {base : Heap} (T : DefAt K mg "_law_some_rows" s__law_some_rows ["_law_state"]) (B : Blt mg) (F__law_rows : FnAt P w K mg base CX0 4 "_law_rows" 3 sp__law_rows) (F__law_names : FnAt P w K mg base CX0 2 "_law_names" 2 sp__law_names) (F__law_take : FnAt P w K mg base CX0 1 "_law_take" 2 sp__law_take) : FnAt P w K mg base CX0 5 "_law_some_rows" 1 sp__law_some_rows := (w__law_some_rows T B F__law_rows F__law_names F__law_take).imp v__law_some_rows


end LW

namespace LW
open PySem PySem.Spec PyProof.Rows L2 RZ DL

theorem part_c {a b : Int} (h : Fr (a, b) := by exact ⟨by decide, by decide⟩) (h1 : 0 < a ∧ a < 4000 ∧ b < 4000) : Part (a, b) := ⟨h, lt212 ⟨by show a.natAbs ≤ 4000; omega, by have : 0 < b := h.pos; show b.natAbs ≤ 4000; omega⟩, h1.1⟩
/-- fixed rows: built up row by row -/
theorem rows9_add {rs : List Row} {r : Row} {m t : Int} (hs : ∀ x ∈ rs, RowOk x ∧ LeftOk x) (h : UnitW rs m) (hr : RowOk r) (hl : LeftOk r) (ht : 0 ≤ t) (hw : RowW r t) : (∀ x ∈ rs ++ [r], RowOk x ∧ LeftOk x) ∧ UnitW (rs ++ [r]) (m + t) := ⟨fun x hx => by
  rcases List.mem_append.mp hx with hx | hx
  · exact hs x hx
  · rw [List.mem_singleton.mp hx]
    exact ⟨hr, hl⟩, unitW_add (fun x hx => (hs x hx).1) hr h ht hw⟩
theorem rows9_nil : (∀ x ∈ ([] : List Row), RowOk x ∧ LeftOk x) ∧ UnitW [] 0 := ⟨(fun _ h => nomatch h), unitW_nil (by decide)⟩
theorem rows9_fin {rs : List Row} {m : Int} (h : (∀ x ∈ rs, RowOk x ∧ LeftOk x) ∧ UnitW rs m) (hl : rs.length ≤ 8) (hm : m ≤ 60) : RowsOk rs 8 ∧ Rows9 rs := ⟨⟨hl, fun r hr => (h.1 r hr).1⟩, ⟨fun r hr => (h.1 r hr).2, unitW_mono (fun r hr => (h.1 r hr).1) h.2 hm⟩⟩
theorem rates_w (h1 : Part (1, 1)) (h2 : Part (1, 2)) : Rates [(some 4, (1, 1)), (none, (1, 2))] := ⟨by decide, fun r hr => by
  rcases List.mem_cons.mp hr with rfl | hr
  · exact h1
  · rw [List.mem_singleton.mp hr]
    exact h2, (1, 2), by simp⟩
theorem whole_rows (s : Str) : (RowsOk [.of s (1, 3), .of "a" (2, 3)] 8 ∧ Rows9 [.of s (1, 3), .of "a" (2, 3)]) ∧ (RowsOk [.left s (1, 1), .left "b" (1, 2)] 8 ∧ Rows9 [.left s (1, 1), .left "b" (1, 2)]) ∧
    (RowsOk [.of s (1, 1), .length "ab" 3, .left "b" (1, 2)] 8 ∧ Rows9 [.of s (1, 1), .length "ab" 3, .left "b" (1, 2)]) ∧ (RowsOk [.steps s [(some 4, (1, 1)), (none, (1, 2))]] 8 ∧ Rows9 [.steps s [(some 4, (1, 1)), (none, (1, 2))]]) := by
  have p11 : Part (1, 1) := part_c (h1 := by decide)
  have p12 : Part (1, 2) := part_c (h1 := by decide)
  have p13 : Part (1, 3) := part_c (h1 := by decide)
  have p23 : Part (2, 3) := part_c (h1 := by decide)
  refine ⟨?_, ?_, ?_, ?_⟩
  · have a := rows9_add rows9_nil.1 rows9_nil.2 (r := .of s (1, 3)) (t := 20) p13 trivial (by decide) (by show (60 : Int) * 1 ≤ 20 * 3; decide)
    have b := rows9_add a.1 a.2 (r := .of "a" (2, 3)) (t := 40) p23 trivial (by decide) (by show (60 : Int) * 2 ≤ 40 * 3; decide)
    exact rows9_fin b (Nat.le_of_ble_eq_true rfl) (by decide)
  · have a := rows9_add rows9_nil.1 rows9_nil.2 (r := .left s (1, 1)) (t := 0) p11 (by show (1 : Int) ≤ 1; decide) (by decide) trivial
    have b := rows9_add a.1 a.2 (r := .left "b" (1, 2)) (t := 0) p12 (by show (1 : Int) ≤ 2; decide) (by decide) trivial
    exact rows9_fin b (Nat.le_of_ble_eq_true rfl) (by decide)
  · have a := rows9_add rows9_nil.1 rows9_nil.2 (r := .of s (1, 1)) (t := 60) p11 trivial (by decide) (by show (60 : Int) * 1 ≤ 60 * 1; decide)
    have b := rows9_add a.1 a.2 (r := .length "ab" 3) (t := 0) (by show (0 : Int) < 3 ∧ (3 : Int) ≤ 1000; decide) trivial (by decide) trivial
    have c := rows9_add b.1 b.2 (r := .left "b" (1, 2)) (t := 0) p12 (by show (1 : Int) ≤ 2; decide) (by decide) trivial
    exact rows9_fin c (Nat.le_of_ble_eq_true rfl) (by decide)
  · have a := rows9_add rows9_nil.1 rows9_nil.2 (r := .steps s [(some 4, (1, 1)), (none, (1, 2))]) (t := 60) (rates_w p11 p12) trivial (by decide) (fun r hr => by
      rcases List.mem_cons.mp hr with rfl | hr
      · show (60 : Int) * 1 ≤ 60 * 1
        decide
      · rw [List.mem_singleton.mp hr]
        show (60 : Int) * 1 ≤ 60 * 2
        decide)
    exact rows9_fin a (Nat.le_of_ble_eq_true rfl) (by decide)
/-- plain data, evaluated piece by piece -/
def Ev (ρ : Rho) (g : GE) (d : D) : Prop := ∀ w kx k, k d w → g ρ w kx k
def EvA (ρ : Rho) (g : GA) (ds : List D) : Prop := ∀ w kx k, k ds w → g ρ w kx k
theorem ev_c {ρ : Rho} {d : D} : Ev ρ (gC d) d := fun _ _ _ h => h
theorem ev_var {ρ : Rho} {i : Nat} {d : D} (e : ρ[i]? = some (some d) := by rfl) : Ev ρ (gVar i) d := fun _ _ _ h => by
  unfold gVar
  rw [e]
  exact h
theorem ev_nil {ρ : Rho} : EvA ρ gaNil [] := fun _ _ _ h => h
theorem ev_cons {ρ : Rho} {g : GE} {r : GA} {d : D} {ds : List D} (h1 : Ev ρ g d) (h2 : EvA ρ r ds) : EvA ρ (gaCons g r) (d :: ds) := fun _ _ _ h => h1 _ _ _ (h2 _ _ _ h)
theorem one_sl : 1 ≤ sizeLine := by decide
theorem two_sl : 2 ≤ sizeLine := by decide
theorem three_sl : 3 ≤ sizeLine := by decide
theorem ev_t1 {ρ : Rho} {g : GE} {d : D} (h : Ev ρ g d) : Ev ρ (DL.gTup (gaCons g gaNil)) (.tup [d]) := fun _ _ _ k => h _ _ _ ⟨one_sl, k⟩
theorem ev_t2 {ρ : Rho} {g1 g2 : GE} {d1 d2 : D} (h1 : Ev ρ g1 d1) (h2 : Ev ρ g2 d2) : Ev ρ (DL.gTup (gaCons g1 (gaCons g2 gaNil))) (.tup [d1, d2]) := fun _ _ _ k => h1 _ _ _ (h2 _ _ _ ⟨two_sl, k⟩)
theorem ev_t3 {ρ : Rho} {g1 g2 g3 : GE} {d1 d2 d3 : D} (h1 : Ev ρ g1 d1) (h2 : Ev ρ g2 d2) (h3 : Ev ρ g3 d3) : Ev ρ (DL.gTup (gaCons g1 (gaCons g2 (gaCons g3 gaNil)))) (.tup [d1, d2, d3]) := fun _ _ _ k => h1 _ _ _ (h2 _ _ _ (h3 _ _ _ ⟨three_sl, k⟩))
theorem some_all {xs : List D} {r : Int} {f : D → Prop} (Pd : D → Prop) (h0 : 0 ≤ r) (h1 : r < xs.length) (hP : ∀ x ∈ xs, Pd x) (hk : ∀ x, Pd x → f x) : someK (atI xs r) f := by
  obtain ⟨x, hx, e⟩ := at_some h0 h1
  rw [e]
  exact hk x (hP x hx)
theorem four_sl : 4 ≤ sizeLine := by decide
theorem ix_one {d : D} {w : Wd} {k : KD} (h : k d w) : ixD (.lst [d]) (.int 0) w k := h
theorem lstC_use {ρ : Rho} {w : Wd} {kx : KX} {k : KD} {ga : GA} {ds : List D} (h : EvA ρ ga ds) (l : ds.length ≤ sizeLine) (hk : k (.rf w.M.length) ⟨w.M ++ [.lst ds], w.n⟩) : gLstC ga ρ w kx k := h _ _ _ ⟨l, hk⟩
theorem gapp_use {ρ : Rho} {F : DEnds} {go ga : GE} {d : D} {M : List Cell} {xs : List D} {n : Option Nat} (h1 : Ev ρ go (.rf M.length)) (h2 : Ev ρ ga d) (hl : xs.length < sizeLine) (h : F.nx ρ ⟨M ++ [.lst (xs ++ [d])], n⟩) : gDrop (gBM "list" mAppend go (gaCons ga gaNil)) F ρ ⟨M ++ [.lst xs], n⟩ := by
  unfold gDrop gBM
  refine h1 _ _ _ ⟨by rw [isTy_new], ?_⟩
  refine ev_cons h2 ev_nil _ _ _ ?_
  show mAppend (.rf M.length) [d] ⟨M ++ [.lst xs], n⟩ _
  rw [append_new]
  exact ⟨hl, h⟩
def whole4 (s : Str) : List (List Row) := [[.of s (1, 3), .of "a" (2, 3)], [.left s (1, 1), .left "b" (1, 2)], [.of s (1, 1), .length "ab" 3, .left "b" (1, 2)], [.steps s [(some 4, (1, 1)), (none, (1, 2))]]]
def sp__law_whole : GF := fun ds w _ k => ∃ c n : Nat, ds = [.st] ∧ (w.n = some c ∧ n + 13 ≤ c) ∧ ∀ rs c', RowsOk rs 8 → Rows9 rs → n ≤ c' → k (.tup (rs.map rowD)) ⟨w.M, some c'⟩
abbrev s__law_whole : Stmt := topS 27
theorem sc__law_whole : FnScope ["_law_state", "_law_name", "_law_some"] ["_law_state"] (defScope s__law_whole) := ⟨rfl, rfl, rfl, by decide +kernel, rfl, by decide +kernel, by decide +kernel⟩
def g__law_whole : GS := (gSeq (gSet 1 (gBin ixD (gCall0 2 sp__law_names (gaCons (gVar 0) (gaCons (gC (.int 1)) gaNil))) (gC (.int 0))))
  (gSeq (gSet 2 (gLstC (gaCons (gTup (gaCons (gTup (gaCons (gC (.str "of")) (gaCons (gVar 1) (gaCons (gTup (gaCons (gC (.int 1)) (gaCons (gC (.int 3)) gaNil))) gaNil)))) (gaCons (gTup (gaCons (gC (.str "of")) (gaCons (gC (.str "a")) (gaCons (gTup (gaCons (gC (.int 2)) (gaCons (gC (.int 3)) gaNil))) gaNil)))) gaNil))) (gaCons (gTup (gaCons (gTup (gaCons (gC (.str "left")) (gaCons (gVar 1) (gaCons (gTup (gaCons (gC (.int 1)) (gaCons (gC (.int 1)) gaNil))) gaNil)))) (gaCons (gTup (gaCons (gC (.str "left")) (gaCons (gC (.str "b")) (gaCons (gTup (gaCons (gC (.int 1)) (gaCons (gC (.int 2)) gaNil))) gaNil)))) gaNil))) gaNil))))
  (gSeq (gDrop (gBM "list" mAppend (gVar 2) (gaCons (gTup (gaCons (gTup (gaCons (gC (.str "of")) (gaCons (gVar 1) (gaCons (gTup (gaCons (gC (.int 1)) (gaCons (gC (.int 1)) gaNil))) gaNil)))) (gaCons (gTup (gaCons (gC (.str "length")) (gaCons (gC (.str "ab")) (gaCons (gC (.int 3)) gaNil)))) (gaCons (gTup (gaCons (gC (.str "left")) (gaCons (gC (.str "b")) (gaCons (gTup (gaCons (gC (.int 1)) (gaCons (gC (.int 2)) gaNil))) gaNil)))) gaNil)))) gaNil)))
  (gSeq (gDrop (gBM "list" mAppend (gVar 2) (gaCons (gTup (gaCons (gTup (gaCons (gC (.str "steps")) (gaCons (gVar 1) (gaCons (gTup (gaCons (gTup (gaCons (gC (.int 4)) (gaCons (gTup (gaCons (gC (.int 1)) (gaCons (gC (.int 1)) gaNil))) gaNil))) (gaCons (gTup (gaCons (gC .non) (gaCons (gTup (gaCons (gC (.int 1)) (gaCons (gC (.int 2)) gaNil))) gaNil))) gaNil))) gaNil)))) gaNil)) gaNil)))
  (gRet (gBin ixD (gVar 2) (gCall0 2 sp__law_take (gaCons (gVar 0) (gaCons (gC (.int 4)) gaNil)))))))))
theorem w__law_whole {P : Program} {w : World} {K : PySem.W.Frag} {mg : Str → Option Value} {base : Heap} (T : DefAt K mg "_law_whole" s__law_whole ["_law_state"]) (B : Blt mg) (F__law_names : FnAt P w K mg base CX0 2 "_law_names" 2 sp__law_names) (F__law_take : FnAt P w K mg base CX0 1 "_law_take" 2 sp__law_take) : FnAt P w K mg base CX0 3 "_law_whole" 1 (sem0 3 g__law_whole) := by
  have nd := sc__law_whole.nd
  exact T.fn0 sc__law_whole (fun f cdv A outer s H E hr => (dss_cons (ds_set (i := 1) nd rfl (by first | exact Or.inl rfl | exact Or.inr rfl) (de_ix (de_call0 F__law_names hr (by rfl) (da_cons (de_var 0) (da_cons de_int da_nil))) de_int))
  (dss_cons (ds_set (i := 2) nd rfl (by first | exact Or.inl rfl | exact Or.inr rfl) (de_lstC (da_cons (de_tup (da_cons (de_tup (da_cons de_str (da_cons (de_var 1) (da_cons (de_tup (da_cons de_int (da_cons de_int da_nil))) da_nil)))) (da_cons (de_tup (da_cons de_str (da_cons de_str (da_cons (de_tup (da_cons de_int (da_cons de_int da_nil))) da_nil)))) da_nil))) (da_cons (de_tup (da_cons (de_tup (da_cons de_str (da_cons (de_var 1) (da_cons (de_tup (da_cons de_int (da_cons de_int da_nil))) da_nil)))) (da_cons (de_tup (da_cons de_str (da_cons de_str (da_cons (de_tup (da_cons de_int (da_cons de_int da_nil))) da_nil)))) da_nil))) da_nil))))
  (dss_cons (ds_expr (de_bm PySem.F.plainAttrs_list PySem.F.slot_list_append (by rfl) mt_append ok_append (de_var 2) (da_cons (de_tup (da_cons (de_tup (da_cons de_str (da_cons (de_var 1) (da_cons (de_tup (da_cons de_int (da_cons de_int da_nil))) da_nil)))) (da_cons (de_tup (da_cons de_str (da_cons de_str (da_cons de_int da_nil)))) (da_cons (de_tup (da_cons de_str (da_cons de_str (da_cons (de_tup (da_cons de_int (da_cons de_int da_nil))) da_nil)))) da_nil)))) da_nil) (by rfl) (by rfl) (by rfl) (by rfl) (by rfl)))
  (dss_cons (ds_expr (de_bm PySem.F.plainAttrs_list PySem.F.slot_list_append (by rfl) mt_append ok_append (de_var 2) (da_cons (de_tup (da_cons (de_tup (da_cons de_str (da_cons (de_var 1) (da_cons (de_tup (da_cons (de_tup (da_cons de_int (da_cons (de_tup (da_cons de_int (da_cons de_int da_nil))) da_nil))) (da_cons (de_tup (da_cons de_non (da_cons (de_tup (da_cons de_int (da_cons de_int da_nil))) da_nil))) da_nil))) da_nil)))) da_nil)) da_nil) (by rfl) (by rfl) (by rfl) (by rfl) (by rfl)))
  (dss_one (ds_ret (de_ix (de_var 2) (de_call0 F__law_take hr (by rfl) (da_cons (de_var 0) (da_cons de_int da_nil)))))))))))

theorem v__law_whole : ∀ ds w kx k, sp__law_whole ds w kx k → gTr (sem0 3 g__law_whole) ds w kx k := by
  rintro ds w kx k ⟨c, n, rfl, ⟨hn, hc⟩, hk⟩
  have e : rho 3 [D.st] = [some .st, none, none] := rfl
  unfold gTr sem0 g__law_whole
  rw [e]
  unfold gSeq
  show gSet 1 _ _ _ _
  unfold gSet gBin gCall0
  refine (ev_cons (ev_var (d := .st)) (ev_cons ev_c ev_nil)) _ _ _ ⟨rfl, ?_⟩
  refine names_use (n + 1) hn (by omega) ⟨by decide, by decide⟩ fun ss c5 b1 b2 hc5 => ?_
  cases ss with
  | nil => simp at b1
  | cons s ss =>
    have : ss = [] := by
      rw [List.length_cons] at b1
      exact List.length_eq_zero_iff.mp (by omega)
    subst this
    refine ev_c _ _ _ ?_
    show ixD (.lst [.str s]) (.int 0) _ _
    refine ix_one ?_
    dsimp only
    refine lstC_use (ds := [.tup [rowD (.of s (1, 3)), rowD (.of "a" (2, 3))], .tup [rowD (.left s (1, 1)), rowD (.left "b" (1, 2))]]) ?ev ?l ?_
    case ev => exact (ev_cons (ev_t2 (ev_t3 ev_c ev_var (ev_t2 ev_c ev_c)) (ev_t3 ev_c ev_c (ev_t2 ev_c ev_c))) (ev_cons (ev_t2 (ev_t3 ev_c ev_var (ev_t2 ev_c ev_c)) (ev_t3 ev_c ev_c (ev_t2 ev_c ev_c))) ev_nil))
    case l => exact two_sl
    dsimp only
    refine gapp_use (d := .tup [rowD (.of s (1, 1)), rowD (.length "ab" 3), rowD (.left "b" (1, 2))]) ?go ?ev three_sl ?_
    case go => exact ev_var
    case ev => exact (ev_t3 (ev_t3 ev_c ev_var (ev_t2 ev_c ev_c)) (ev_t3 ev_c ev_c ev_c) (ev_t3 ev_c ev_c (ev_t2 ev_c ev_c)))
    dsimp only
    refine gapp_use (d := .tup [rowD (.steps s [(some 4, (1, 1)), (none, (1, 2))])]) ?go ?ev four_sl ?_
    case go => exact ev_var
    case ev => exact (ev_t1 (ev_t3 ev_c ev_var (ev_t2 (ev_t2 ev_c (ev_t2 ev_c ev_c)) (ev_t2 ev_c (ev_t2 ev_c ev_c)))))
    obtain ⟨⟨a1, a2⟩, ⟨b3, b4⟩, ⟨c1, c2⟩, d1, d2⟩ := whole_rows s
    dsimp only [gRet]
    refine ev_var (d := .rf w.M.length) rfl _ _ _ ?_
    refine ev_cons (ev_var (d := .st)) (ev_cons ev_c ev_nil) _ _ _ ⟨rfl, ?_⟩
    refine take_use n rfl (by omega) ⟨by decide, log_of (by decide)⟩ fun r c6 g0 g1 hc6 => ?_
    rw [ixD_new]
    refine some_all (fun d => ∃ rs : List Row, d = .tup (rs.map rowD) ∧ RowsOk rs 8 ∧ Rows9 rs) g0 g1 (fun x hx => ?_) ?_
    · rcases List.mem_append.mp hx with hx | hx
      · rcases List.mem_append.mp hx with hx | hx
        · rcases List.mem_cons.mp hx with rfl | hx
          · exact ⟨[.of s (1, 3), .of "a" (2, 3)], rfl, a1, a2⟩
          · rw [List.mem_singleton.mp hx]
            exact ⟨[.left s (1, 1), .left "b" (1, 2)], rfl, b3, b4⟩
        · rw [List.mem_singleton.mp hx]
          exact ⟨[.of s (1, 1), .length "ab" 3, .left "b" (1, 2)], rfl, c1, c2⟩
      · rw [List.mem_singleton.mp hx]
        exact ⟨[.steps s [(some 4, (1, 1)), (none, (1, 2))]], rfl, d1, d2⟩
    rintro d ⟨rs, rfl, h1, h2⟩
    exact ⟨⟨_, rfl⟩, low_rows rs, hk rs c6 h1 h2 hc6⟩
theorem ok__law_whole {P : Program} {w : World} {K : PySem.W.Frag} {mg : Str → Option Value} {base : Heap} (T : DefAt K mg "_law_whole" s__law_whole ["_law_state"]) (B : Blt mg) (F__law_names : FnAt P w K mg base CX0 2 "_law_names" 2 sp__law_names) (F__law_take : FnAt P w K mg base CX0 1 "_law_take" 2 sp__law_take) : FnAt P w K mg base CX0 3 "_law_whole" 1 sp__law_whole := (w__law_whole T B F__law_names F__law_take).trunc.imp v__law_whole


end LW

namespace LW
open PySem PySem.Spec PyProof.Rows L2 RZ DL

theorem step_flat {a : Nat} {ls : List (List Qp)} (hF : ∀ l ∈ ls, FrB a l) (hz : (a + 1) * ls.flatten.length + 3 ≤ 3990) : StepOk (ls.map sumQ) := by
  intro ys z zs e
  obtain ⟨l1, l2, rfl, e1, e2⟩ := List.map_eq_append_iff.mp e
  obtain ⟨l, l3, rfl, e3, e4⟩ := List.map_eq_cons_iff.mp e2
  subst e1
  subst e3
  have h1 : ∀ m ∈ l1, ∀ x ∈ m, Fr x := fun m hm x hx => (hF m (List.mem_append_left _ hm) x hx).1
  have hl : FrB a l := hF l (by simp)
  have hf : FrB a l1.flatten := fun x hx => by
    obtain ⟨m, hm, hx⟩ := List.mem_flatten.mp hx
    exact hF m (List.mem_append_left _ hm) x hx
  refine ⟨fun x hx => ?_, fr_sum fun x hx => (hl x hx).1, (a + 1) * l1.flatten.length + 1, (a + 1) * l.length + 1, by rw [← sum_flat h1]; exact sum_lt rfl hf, sum_lt rfl hl, ?_⟩
  · obtain ⟨m, hm, rfl⟩ := List.mem_map.mp hx
    exact fr_sum (h1 m hm)
  · rw [List.flatten_append, List.flatten_cons, List.length_append, List.length_append, Nat.mul_add, Nat.mul_add] at hz
    omega
theorem tell_nn {rs : List Row} {u : Int} (hr : RowsOk rs 8) (h9 : Rows9 rs) : ∀ x ∈ tellP rs u, 0 ≤ x.2.1 := fun x hx => by
  obtain ⟨f0, l0⟩ := rest0_ok (u := u) hr.ok hr.len
  obtain ⟨n1, n2⟩ := lefts_nn f0 (rest0_nn hr.ok (h9.unit u)) fun y hy => ⟨hr.ok y hy, h9.left y hy⟩
  obtain ⟨_, g2, _⟩ := lefts_sum f0 hr.ok
  rcases List.mem_append.mp hx with hx | hx
  · rcases List.mem_append.mp hx with hx | hx
    · exact told0_nn hr.ok x hx
    · exact n1 x hx
  · obtain ⟨y, hy, rfl⟩ := List.mem_map.mp hx
    have hL : ∀ z ∈ lenRows rs, IsLen z := fun z hz => by
      obtain ⟨g1, g2⟩ := flt_mem hz
      obtain ⟨s, l, rfl⟩ := kind_len g2
      exact ⟨s, l, rfl, (hr.ok _ g1).1, (hr.ok _ g1).2⟩
    obtain ⟨s, l, rfl, a1, a2⟩ := hL y hy
    obtain ⟨c1, c2⟩ := tot_bd hL
    have lpos : 0 < (lenRows rs).length := List.length_pos_of_mem hy
    have p2 := g2.pos
    exact norm_nn (Int.mul_nonneg n2 (show (0 : Int) ≤ l by omega)) (Int.mul_pos p2 (by omega))
theorem fr_rest {rs : List Row} {u : Int} (hr : RowsOk rs 8) : Fr (restP rs u) ∧ Lt2 343 (restP rs u) := by
  obtain ⟨f0, l0⟩ := rest0_ok (u := u) hr.ok hr.len
  obtain ⟨f1, l1, h1⟩ := lefts_ok (m := 8) hr.ok f0 l0 hr.len
  unfold restP
  cases lenRows rs with
  | nil => exact ⟨f1, l1.mono (by decide)⟩
  | cons a as => exact (show Fr ((0, 1) : Qp) ∧ Lt2 343 ((0, 1) : Qp) from ⟨⟨by decide, by decide⟩, ⟨by decide, by decide⟩⟩)
theorem flat_len {T : Told} {ys : List Str} (nd : ys.Nodup) : ((ys.map fun s => nameParts s T).flatten).length ≤ T.length := by
  rw [← (names_perm T nd).length_eq, List.length_map]
  exact List.length_filter_le _ _
theorem waits_one {rs : List Row} {u : Int} {ys : List Str} (hr : RowsOk rs 8) (h9 : Rows9 rs) (hK : IsKeys (tellP rs u) ys) : sumQ (restLw rs u :: (pairsOf ys (tellP rs u)).map Prod.snd) = (1, 1) ∧ StepOk (restLw rs u :: (pairsOf ys (tellP rs u)).map Prod.snd) := by
  obtain ⟨t1, t2⟩ := tell_ok (u := u) hr.ok hr.len
  obtain ⟨f1, l1⟩ := fr_rest (u := u) hr
  rw [← restP_eq hr.ok]
  have e1 : (pairsOf ys (tellP rs u)).map Prod.snd = (ys.map fun s => nameParts s (tellP rs u)).map sumQ := by
    unfold pairsOf
    rw [List.map_map, List.map_map]
    rfl
  have hF : ∀ l ∈ ys.map fun s => nameParts s (tellP rs u), FrB 343 l := fun l hl x hx => by
    obtain ⟨s, _, rfl⟩ := List.mem_map.mp hl
    exact t1 _ (np_mem hx).1
  have hpf : ∀ y ∈ (pairsOf ys (tellP rs u)).map Prod.snd, Fr y := fun y hy => by
    rw [e1] at hy
    obtain ⟨l, hl, rfl⟩ := List.mem_map.mp hy
    exact fr_sum fun x hx => (hF l hl x hx).1
  have hTf : ∀ y ∈ (tellP rs u).map Prod.snd, Fr y := fun y hy => by
    obtain ⟨x, hx, rfl⟩ := List.mem_map.mp hy
    exact (t1 x hx).1
  constructor
  · rw [sum_cons f1 hpf, group_sum (fun x hx => (t1 x hx).1) hK, sum_pos fun x hx => ⟨(t1 x hx).1, tell_nn hr h9 x hx⟩, ← sum_cons f1 hTf]
    exact total hr.ok hr.len
  · have e2 : restP rs u :: (pairsOf ys (tellP rs u)).map Prod.snd = ([restP rs u] :: ys.map fun s => nameParts s (tellP rs u)).map sumQ := by
      rw [List.map_cons, sumQ_one f1, e1]
    rw [e2]
    refine step_flat (a := 343) (fun l hl => ?_) ?_
    · rcases List.mem_cons.mp hl with rfl | hl
      · intro x hx
        rw [List.mem_singleton.mp hx]
        exact ⟨f1, l1⟩
      · exact hF l hl
    · rw [List.flatten_cons, List.length_append]
      have := flat_len (T := tellP rs u) hK.nd
      have : (343 + 1) * ([restP rs u].length + ((ys.map fun s => nameParts s (tellP rs u)).flatten).length) ≤ (343 + 1) * (1 + 8) := Nat.mul_le_mul_left _ (Nat.add_le_add (Nat.le_refl _) (by omega))
      omega
theorem flat_ge : ∀ {ls : List (List Qp)}, (∀ l ∈ ls, 0 < l.length) → ls.length ≤ ls.flatten.length
  | [], _ => Nat.le_refl _
  | l :: ls, h => by
    have := flat_ge (ls := ls) fun m hm => h m (List.mem_cons_of_mem _ hm)
    have := h l List.mem_cons_self
    rw [List.flatten_cons, List.length_append, List.length_cons]
    omega
theorem keysP_len {T : Told} {ys : List Str} (h : IsKeys T ys) : ys.length ≤ T.length := by
  have h1 := flat_len (T := T) h.nd
  have h2 := flat_ge (ls := ys.map fun s => nameParts s T) fun l hl => by
    obtain ⟨s, hs, rfl⟩ := List.mem_map.mp hl
    obtain ⟨p, g1, g2⟩ := (h.mem s).mp hs
    have : p ∈ nameParts s T := List.mem_map.mpr ⟨(s, p), List.mem_filter.mpr ⟨g1, by simp [g2]⟩, rfl⟩
    exact List.length_pos_of_mem this
  rw [List.length_map] at h2
  omega
theorem whole_use {w : Wd} {c : Nat} {kx : KX} {k : KD} (n : Nat) (hn : w.n = some c) (hc : n + 13 ≤ c) (h : ∀ rs c', RowsOk rs 8 → Rows9 rs → n ≤ c' → k (.tup (rs.map rowD)) ⟨w.M, some c'⟩) : sp__law_whole [.st] w kx k := ⟨c, n, rfl, ⟨hn, hc⟩, h⟩
def sp_law : GF := gLaw
abbrev s_law : Stmt := topS 28
theorem sc_law : FnScope ["_law_script", "_law_state", "_law_turn", "_law_rows_here", "_law_unit", "_law_found", "_law_name", "_law_part_here"] ["_law_script"] (defScope s_law) := ⟨rfl, rfl, rfl, by decide +kernel, rfl, by decide +kernel, by decide +kernel⟩
def g_law : GS := (gSeq (gSet 1 (gCall0 1 sp__law_begin (gaCons (gVar 0) gaNil)))
  (gSeq (gFor (giRange1 (gaCons (gC (.int 5)) gaNil)) (ggName 2) (gFor (giSeq (gTup (gaCons (gCall0 1 sp__law_some_rows (gaCons (gVar 1) gaNil)) (gaCons (gCall0 1 sp__law_whole (gaCons (gVar 1) gaNil)) gaNil)))) (ggName 3) (gFor (giSeq (gCall0 2 sp__law_units (gaCons (gVar 1) (gaCons (gVar 3) gaNil)))) (ggName 4) (gSeq (gSet 5 (gCall0 2 sp_waits_at (gaCons (gVar 3) (gaCons (gVar 4) gaNil))))
  (gSeq (gIfS (gOr (gNot (gTru (gCall0 2 sp__law_same (gaCons (gVar 5) (gaCons (gBin ixD (gCall0 2 sp__law_parted (gaCons (gVar 3) (gaCons (gVar 4) gaNil))) (gC (.int 1))) gaNil))))) (gNot (gTru (gCall0 2 sp__law_same (gaCons (gCall0 2 sp_waits_at (gaCons (gVar 3) (gaCons (gVar 4) gaNil))) (gaCons (gVar 5) gaNil)))))) (gRet (gC (.bl false))) gNext)
  (gIfS (gB (gBin neD (gCall0 1 sp__law_sum (gaCons (gBin addD (gLst (gaCons (gVar 5) gaNil)) (gLc (giSeq (gCall0 2 sp_parts_at (gaCons (gVar 3) (gaCons (gVar 4) gaNil)))) (ggTup 2 (ggCons (ggName 6) (ggCons (ggName 7) ggNil))) gYes (gVar 7) [6, 7])) gaNil)) (gTup (gaCons (gC (.int 1)) (gaCons (gC (.int 1)) gaNil))))) (gRet (gC (.bl false))) gNext))))))
  (gRet (gCall0 2 sp__law_same (gaCons (gCall0 2 sp_waits_at (gaCons (gTup gaNil) (gaCons (gC (.int 5)) gaNil))) (gaCons (gTup (gaCons (gC (.int 1)) (gaCons (gC (.int 1)) gaNil))) gaNil))))))
theorem w_law {P : Program} {w : World} {K : PySem.W.Frag} {mg : Str → Option Value} {base : Heap} {f : Addr} {fd : FuncData} (T : Fun K "law" "law" s_law f fd) (B : Blt mg) (F__law_begin : FnAt P w K mg base CX0 1 "_law_begin" 1 sp__law_begin) (F__law_same : FnAt P w K mg base CX0 6 "_law_same" 2 sp__law_same) (F_waits_at : FnAt P w K mg base CX0 8 "waits_at" 2 sp_waits_at) (F__law_some_rows : FnAt P w K mg base CX0 5 "_law_some_rows" 1 sp__law_some_rows) (F__law_whole : FnAt P w K mg base CX0 3 "_law_whole" 1 sp__law_whole) (F__law_units : FnAt P w K mg base CX0 2 "_law_units" 2 sp__law_units) (F__law_sum : FnAt P w K mg base CX0 2 "_law_sum" 1 sp__law_sum) (F__law_parted : FnAt P w K mg base CX0 3 "_law_parted" 2 sp__law_parted) (F_parts_at : FnAt P w K mg base CX0 8 "parts_at" 2 sp_parts_at) : FnOk P w K mg base CX0 9 f fd ["_law_script"] (upF 1 K (sem0 8 g_law)) := by
  have nd := sc_law.nd
  exact fun_fn0 T sc_law (fun f cdv A outer s H E hr => (dss_cons (ds_set (i := 1) nd rfl (by first | exact Or.inl rfl | exact Or.inr rfl) (de_call0 F__law_begin hr (by rfl) (da_cons (de_var 0) da_nil)))
  (dss_cons (ds_for PassesOwn.never rfl (di_range1 B (by rfl) (da_cons de_int da_nil)) (dg_name (i := 2) nd rfl (by first | exact Or.inl rfl | exact Or.inr rfl)) (dss_one (ds_for PassesOwn.never rfl (di_seq (de_tup (da_cons (de_call0 F__law_some_rows hr (by rfl) (da_cons (de_var 1) da_nil)) (da_cons (de_call0 F__law_whole hr (by rfl) (da_cons (de_var 1) da_nil)) da_nil)))) (dg_name (i := 3) nd rfl (by first | exact Or.inl rfl | exact Or.inr rfl)) (dss_one (ds_for PassesOwn.never rfl (di_seq (de_call0 F__law_units hr (by rfl) (da_cons (de_var 1) (da_cons (de_var 3) da_nil)))) (dg_name (i := 4) nd rfl (by first | exact Or.inl rfl | exact Or.inr rfl)) (dss_cons (ds_set (i := 5) nd rfl (by first | exact Or.inl rfl | exact Or.inr rfl) (de_call0 F_waits_at hr (by rfl) (da_cons (de_var 3) (da_cons (de_var 4) da_nil))))
  (dss_cons (ds_if (dt_w (dw_or (dt_not (dt_truth (de_call0 F__law_same hr (by rfl) (da_cons (de_var 5) (da_cons (de_ix (de_call0 F__law_parted hr (by rfl) (da_cons (de_var 3) (da_cons (de_var 4) da_nil))) de_int) da_nil))))) (dw_or1 (dt_not (dt_truth (de_call0 F__law_same hr (by rfl) (da_cons (de_call0 F_waits_at hr (by rfl) (da_cons (de_var 3) (da_cons (de_var 4) da_nil))) (da_cons (de_var 5) da_nil)))))))) (dss_one (ds_ret de_bl)) dss_nil)
  (dss_one (ds_if (dt_ne hr (de_call0 F__law_sum hr (by rfl) (da_cons (de_add (de_lst (da_cons (de_var 5) da_nil)) (de_lc (own := [("_law_name", 6), ("_law_part_here", 7)]) (us := [6, 7]) rfl nd (di_seq (de_call0 F_parts_at hr (by rfl) (da_cons (de_var 3) (da_cons (de_var 4) da_nil)))) (blkOk_by (N := ["_law_script", "_law_state", "_law_turn", "_law_rows_here", "_law_unit", "_law_found", "_law_name", "_law_part_here"]) (sc := defScope s_law) (by decide +kernel)) (by decide) (fun _ _ _ _ _ => (dg_tup rfl (dgs_cons (dg_name (i := 6) nd rfl (by first | exact Or.inl rfl | exact Or.inr rfl)) (dgs_cons (dg_name (i := 7) nd rfl (by first | exact Or.inl rfl | exact Or.inr rfl)) dgs_nil)))) (fun _ _ _ _ _ => dts_nil) (fun _ _ _ _ _ => (de_var 7)))) da_nil)) (de_tup (da_cons de_int (da_cons de_int da_nil)))) (dss_one (ds_ret de_bl)) dss_nil)))))))))
  (dss_one (ds_ret (de_call0 F__law_same hr (by rfl) (da_cons (de_call0 F_waits_at hr (by rfl) (da_cons (de_tup da_nil) (da_cons de_int da_nil))) (da_cons (de_tup (da_cons de_int (da_cons de_int da_nil))) da_nil))))))))

theorem v_law : ∀ ds w kx k, sp_law ds w kx k → sem0 8 g_law ds w kx k := by
  rintro ds w kx k ⟨ns, rfl, hl, rfl, hk⟩
  have e : rho 8 [D.scr ns] = [some (.scr ns), none, none, none, none, none, none, none] := rfl
  simp only [g_law, e, sp__law_begin, sem0, List.map_cons, List.map_nil, List.length_cons, List.length_nil, gSeq, gNext, gRet, gRetN, gIfS, gSet, gPar, gAsg, gDrop, gVar, gC, gBin, gUn, gB, gTru, gAnd, gOr, gNot, gAndV, gOrV, gNotV, gIf, gChain, gaNil, gaCons, DL.gTup, gLst, gCB, gCall0, gAug, addD_i, addD_s, addD_l, addD_t, subD_i, mulD_i, mulD_l, fdivD_i, modD_i, powD_i, ltD_i, ltD_s, leD_i, gtD_i, geD_i, isD_n, isnotD_n, isNonD_non, isNonD_bl, isNonD_int, isNonD_str, isNonD_lst, isNonD_tup, negD_i, iaddD_i, truD_non, truD_bl, truD_int, truD_str, truD_lst, truD_tup, someK_some, ixD_l, ixD_t, fAbs_i, fInt_i, fInt_b, fMin2_i, fLen_l, fLen_t, fLen_s, fList_l, fList_t, fTuple_l, fTuple_t, optBK_some, fIsi_non, fIsi_bl, fIsi_int, fIsi_str, fIsi_lst, fIsi_tup, List.getElem?_cons_zero, List.getElem?_cons_succ, List.set_cons_zero, List.set_cons_succ, DL.ggName, ggNil0, ggCons1, ggTup2, ggTup3, gFor, giSeq, gLc, gYes, wipeR, true_and, and_true, at_0, at_1, at_2, kit_int_int, kit_bool_int, kit_str_int, kit_non_int, kit_list_int, kit_tuple_int, kit_int_bool, kit_bool_bool, kit_str_bool, kit_non_bool, kit_list_bool, kit_tuple_bool, kit_int_str, kit_bool_str, kit_str_str, kit_non_str, kit_list_str, kit_tuple_str, kit_int_list, kit_bool_list, kit_str_list, kit_non_list, kit_list_list, kit_tuple_list, kit_int_tuple, kit_bool_tuple, kit_str_tuple, kit_non_tuple, kit_list_tuple, kit_tuple_tuple, eqD_i, neD_i, eqD_s, neD_s, eqD_f, neD_f, Nat.zero_add, Nat.reduceAdd, nc0, nc1, nc2, nc3, nc4, nc5, nc6, nc7, nc8, nc9, eq_self, decide_true, decide_false, Int.reduceEq, Int.reduceLT, Int.reduceLE, Int.reduceNeg, Bool.not_true, Bool.not_false, Bool.false_eq_true, if_true, if_false, ↓reduceIte, false_and, and_false, List.all_cons, List.all_nil, List.any_cons, List.any_nil, id_eq, Bool.and_true, Bool.true_and, Bool.or_false, Bool.false_or, Bool.and_false, Bool.false_and, gCut, eqD_b, neD_b, giZip, reduceCtorEq, Bool.true_eq_false, Bool.false_eq_true, gRevL, gSl, goNone, goSome, slD_l, ne_eq, not_false_eq_true, not_true_eq_false, gBM, isTy_l, isTy_s, new_at, new_set, isTy_new, cellK_new, append_new, popAt_new, gFrz_eq, frzK_new, fLen_new, fTuple_new, ixD_new, slA_l, slA_t, slA_new, addTD_t, addCD_l, mulCD_l, isbD_b, isnotbD_b, mSplitC_s, gLstC, gTr, ggSub, lstK_l, lstK_r, addLD_eq]
  refine ⟨ns, rfl, rfl, ?_⟩
  simp only [giRange1, sem0, List.map_cons, List.map_nil, List.length_cons, List.length_nil, gSeq, gNext, gRet, gRetN, gIfS, gSet, gPar, gAsg, gDrop, gVar, gC, gBin, gUn, gB, gTru, gAnd, gOr, gNot, gAndV, gOrV, gNotV, gIf, gChain, gaNil, gaCons, DL.gTup, gLst, gCB, gCall0, gAug, addD_i, addD_s, addD_l, addD_t, subD_i, mulD_i, mulD_l, fdivD_i, modD_i, powD_i, ltD_i, ltD_s, leD_i, gtD_i, geD_i, isD_n, isnotD_n, isNonD_non, isNonD_bl, isNonD_int, isNonD_str, isNonD_lst, isNonD_tup, negD_i, iaddD_i, truD_non, truD_bl, truD_int, truD_str, truD_lst, truD_tup, someK_some, ixD_l, ixD_t, fAbs_i, fInt_i, fInt_b, fMin2_i, fLen_l, fLen_t, fLen_s, fList_l, fList_t, fTuple_l, fTuple_t, optBK_some, fIsi_non, fIsi_bl, fIsi_int, fIsi_str, fIsi_lst, fIsi_tup, List.getElem?_cons_zero, List.getElem?_cons_succ, List.set_cons_zero, List.set_cons_succ, DL.ggName, ggNil0, ggCons1, ggTup2, ggTup3, gFor, giSeq, gLc, gYes, wipeR, true_and, and_true, at_0, at_1, at_2, kit_int_int, kit_bool_int, kit_str_int, kit_non_int, kit_list_int, kit_tuple_int, kit_int_bool, kit_bool_bool, kit_str_bool, kit_non_bool, kit_list_bool, kit_tuple_bool, kit_int_str, kit_bool_str, kit_str_str, kit_non_str, kit_list_str, kit_tuple_str, kit_int_list, kit_bool_list, kit_str_list, kit_non_list, kit_list_list, kit_tuple_list, kit_int_tuple, kit_bool_tuple, kit_str_tuple, kit_non_tuple, kit_list_tuple, kit_tuple_tuple, eqD_i, neD_i, eqD_s, neD_s, eqD_f, neD_f, Nat.zero_add, Nat.reduceAdd, nc0, nc1, nc2, nc3, nc4, nc5, nc6, nc7, nc8, nc9, eq_self, decide_true, decide_false, Int.reduceEq, Int.reduceLT, Int.reduceLE, Int.reduceNeg, Bool.not_true, Bool.not_false, Bool.false_eq_true, if_true, if_false, ↓reduceIte, false_and, and_false, List.all_cons, List.all_nil, List.any_cons, List.any_nil, id_eq, Bool.and_true, Bool.true_and, Bool.or_false, Bool.false_or, Bool.and_false, Bool.false_and, gCut, eqD_b, neD_b, giZip, reduceCtorEq, Bool.true_eq_false, Bool.false_eq_true, gRevL, gSl, goNone, goSome, slD_l, ne_eq, not_false_eq_true, not_true_eq_false, gBM, isTy_l, isTy_s, new_at, new_set, isTy_new, cellK_new, append_new, popAt_new, gFrz_eq, frzK_new, fLen_new, fTuple_new, ixD_new, slA_l, slA_t, slA_new, addTD_t, addCD_l, mulCD_l, isbD_b, isnotbD_b, mSplitC_s, gLstC, gTr, ggSub, lstK_l, lstK_r, addLD_eq]
  refine ⟨by decide, fun xs ρ w => ∃ a2 a3 a4 a5 a6 a7 M n, ρ = [some (.scr ns), some .st, a2, a3, a4, a5, a6, a7] ∧ w = ⟨M, some n⟩ ∧ 230 * xs.length + 10 ≤ n, ⟨none, none, none, none, none, none, _, _, rfl, rfl, ?_⟩, ?_, ?_⟩
  · rw [range_len]
    decide
  · rintro ρ w ⟨a2, a3, a4, a5, a6, a7, M, n, rfl, rfl, _⟩
    refine ⟨trivial, ?_⟩
    simp only [sem0, List.map_cons, List.map_nil, List.length_cons, List.length_nil, gSeq, gNext, gRet, gRetN, gIfS, gSet, gPar, gAsg, gDrop, gVar, gC, gBin, gUn, gB, gTru, gAnd, gOr, gNot, gAndV, gOrV, gNotV, gIf, gChain, gaNil, gaCons, DL.gTup, gLst, gCB, gCall0, gAug, addD_i, addD_s, addD_l, addD_t, subD_i, mulD_i, mulD_l, fdivD_i, modD_i, powD_i, ltD_i, ltD_s, leD_i, gtD_i, geD_i, isD_n, isnotD_n, isNonD_non, isNonD_bl, isNonD_int, isNonD_str, isNonD_lst, isNonD_tup, negD_i, iaddD_i, truD_non, truD_bl, truD_int, truD_str, truD_lst, truD_tup, someK_some, ixD_l, ixD_t, fAbs_i, fInt_i, fInt_b, fMin2_i, fLen_l, fLen_t, fLen_s, fList_l, fList_t, fTuple_l, fTuple_t, optBK_some, fIsi_non, fIsi_bl, fIsi_int, fIsi_str, fIsi_lst, fIsi_tup, List.getElem?_cons_zero, List.getElem?_cons_succ, List.set_cons_zero, List.set_cons_succ, DL.ggName, ggNil0, ggCons1, ggTup2, ggTup3, gFor, giSeq, gLc, gYes, wipeR, true_and, and_true, at_0, at_1, at_2, kit_int_int, kit_bool_int, kit_str_int, kit_non_int, kit_list_int, kit_tuple_int, kit_int_bool, kit_bool_bool, kit_str_bool, kit_non_bool, kit_list_bool, kit_tuple_bool, kit_int_str, kit_bool_str, kit_str_str, kit_non_str, kit_list_str, kit_tuple_str, kit_int_list, kit_bool_list, kit_str_list, kit_non_list, kit_list_list, kit_tuple_list, kit_int_tuple, kit_bool_tuple, kit_str_tuple, kit_non_tuple, kit_list_tuple, kit_tuple_tuple, eqD_i, neD_i, eqD_s, neD_s, eqD_f, neD_f, Nat.zero_add, Nat.reduceAdd, nc0, nc1, nc2, nc3, nc4, nc5, nc6, nc7, nc8, nc9, eq_self, decide_true, decide_false, Int.reduceEq, Int.reduceLT, Int.reduceLE, Int.reduceNeg, Bool.not_true, Bool.not_false, Bool.false_eq_true, if_true, if_false, ↓reduceIte, false_and, and_false, List.all_cons, List.all_nil, List.any_cons, List.any_nil, id_eq, Bool.and_true, Bool.true_and, Bool.or_false, Bool.false_or, Bool.and_false, Bool.false_and, gCut, eqD_b, neD_b, giZip, reduceCtorEq, Bool.true_eq_false, Bool.false_eq_true, gRevL, gSl, goNone, goSome, slD_l, ne_eq, not_false_eq_true, not_true_eq_false, gBM, isTy_l, isTy_s, new_at, new_set, isTy_new, cellK_new, append_new, popAt_new, gFrz_eq, frzK_new, fLen_new, fTuple_new, ixD_new, slA_l, slA_t, slA_new, addTD_t, addCD_l, mulCD_l, isbD_b, isnotbD_b, mSplitC_s, gLstC, gTr, ggSub, lstK_l, lstK_r, addLD_eq]
    refine ⟨by decide, [], 5, rfl, ⟨by decide, (by intro r hr; cases hr)⟩, two_sl, ?_⟩
    exact same_yes (a := fD (1, 1)) rfl (by rw [dep_f]; decide) (by rw [wid_f]) (hk _)
  · rintro z xs ρ w ⟨a2, a3, a4, a5, a6, a7, M, n, rfl, rfl, hn⟩
    rw [List.length_cons] at hn
    refine ⟨trivial, ?_⟩
    simp only [sem0, List.map_cons, List.map_nil, List.length_cons, List.length_nil, gSeq, gNext, gRet, gRetN, gIfS, gSet, gPar, gAsg, gDrop, gVar, gC, gBin, gUn, gB, gTru, gAnd, gOr, gNot, gAndV, gOrV, gNotV, gIf, gChain, gaNil, gaCons, DL.gTup, gLst, gCB, gCall0, gAug, addD_i, addD_s, addD_l, addD_t, subD_i, mulD_i, mulD_l, fdivD_i, modD_i, powD_i, ltD_i, ltD_s, leD_i, gtD_i, geD_i, isD_n, isnotD_n, isNonD_non, isNonD_bl, isNonD_int, isNonD_str, isNonD_lst, isNonD_tup, negD_i, iaddD_i, truD_non, truD_bl, truD_int, truD_str, truD_lst, truD_tup, someK_some, ixD_l, ixD_t, fAbs_i, fInt_i, fInt_b, fMin2_i, fLen_l, fLen_t, fLen_s, fList_l, fList_t, fTuple_l, fTuple_t, optBK_some, fIsi_non, fIsi_bl, fIsi_int, fIsi_str, fIsi_lst, fIsi_tup, List.getElem?_cons_zero, List.getElem?_cons_succ, List.set_cons_zero, List.set_cons_succ, DL.ggName, ggNil0, ggCons1, ggTup2, ggTup3, gFor, giSeq, gLc, gYes, wipeR, true_and, and_true, at_0, at_1, at_2, kit_int_int, kit_bool_int, kit_str_int, kit_non_int, kit_list_int, kit_tuple_int, kit_int_bool, kit_bool_bool, kit_str_bool, kit_non_bool, kit_list_bool, kit_tuple_bool, kit_int_str, kit_bool_str, kit_str_str, kit_non_str, kit_list_str, kit_tuple_str, kit_int_list, kit_bool_list, kit_str_list, kit_non_list, kit_list_list, kit_tuple_list, kit_int_tuple, kit_bool_tuple, kit_str_tuple, kit_non_tuple, kit_list_tuple, kit_tuple_tuple, eqD_i, neD_i, eqD_s, neD_s, eqD_f, neD_f, Nat.zero_add, Nat.reduceAdd, nc0, nc1, nc2, nc3, nc4, nc5, nc6, nc7, nc8, nc9, eq_self, decide_true, decide_false, Int.reduceEq, Int.reduceLT, Int.reduceLE, Int.reduceNeg, Bool.not_true, Bool.not_false, Bool.false_eq_true, if_true, if_false, ↓reduceIte, false_and, and_false, List.all_cons, List.all_nil, List.any_cons, List.any_nil, id_eq, Bool.and_true, Bool.true_and, Bool.or_false, Bool.false_or, Bool.and_false, Bool.false_and, gCut, eqD_b, neD_b, giZip, reduceCtorEq, Bool.true_eq_false, Bool.false_eq_true, gRevL, gSl, goNone, goSome, slD_l, ne_eq, not_false_eq_true, not_true_eq_false, gBM, isTy_l, isTy_s, new_at, new_set, isTy_new, cellK_new, append_new, popAt_new, gFrz_eq, frzK_new, fLen_new, fTuple_new, ixD_new, slA_l, slA_t, slA_new, addTD_t, addCD_l, mulCD_l, isbD_b, isnotbD_b, mSplitC_s, gLstC, gTr, ggSub, lstK_l, lstK_r, addLD_eq]
    refine some_rows_use (230 * xs.length + 50) rfl (by omega) fun r1 c1 h1 h1' hc1 => ?_
    refine whole_use (230 * xs.length + 30) rfl (by omega) fun r2 c2 h2 h2' hc2 => ?_
    simp only [sem0, List.map_cons, List.map_nil, List.length_cons, List.length_nil, gSeq, gNext, gRet, gRetN, gIfS, gSet, gPar, gAsg, gDrop, gVar, gC, gBin, gUn, gB, gTru, gAnd, gOr, gNot, gAndV, gOrV, gNotV, gIf, gChain, gaNil, gaCons, DL.gTup, gLst, gCB, gCall0, gAug, addD_i, addD_s, addD_l, addD_t, subD_i, mulD_i, mulD_l, fdivD_i, modD_i, powD_i, ltD_i, ltD_s, leD_i, gtD_i, geD_i, isD_n, isnotD_n, isNonD_non, isNonD_bl, isNonD_int, isNonD_str, isNonD_lst, isNonD_tup, negD_i, iaddD_i, truD_non, truD_bl, truD_int, truD_str, truD_lst, truD_tup, someK_some, ixD_l, ixD_t, fAbs_i, fInt_i, fInt_b, fMin2_i, fLen_l, fLen_t, fLen_s, fList_l, fList_t, fTuple_l, fTuple_t, optBK_some, fIsi_non, fIsi_bl, fIsi_int, fIsi_str, fIsi_lst, fIsi_tup, List.getElem?_cons_zero, List.getElem?_cons_succ, List.set_cons_zero, List.set_cons_succ, DL.ggName, ggNil0, ggCons1, ggTup2, ggTup3, gFor, giSeq, gLc, gYes, wipeR, true_and, and_true, at_0, at_1, at_2, kit_int_int, kit_bool_int, kit_str_int, kit_non_int, kit_list_int, kit_tuple_int, kit_int_bool, kit_bool_bool, kit_str_bool, kit_non_bool, kit_list_bool, kit_tuple_bool, kit_int_str, kit_bool_str, kit_str_str, kit_non_str, kit_list_str, kit_tuple_str, kit_int_list, kit_bool_list, kit_str_list, kit_non_list, kit_list_list, kit_tuple_list, kit_int_tuple, kit_bool_tuple, kit_str_tuple, kit_non_tuple, kit_list_tuple, kit_tuple_tuple, eqD_i, neD_i, eqD_s, neD_s, eqD_f, neD_f, Nat.zero_add, Nat.reduceAdd, nc0, nc1, nc2, nc3, nc4, nc5, nc6, nc7, nc8, nc9, eq_self, decide_true, decide_false, Int.reduceEq, Int.reduceLT, Int.reduceLE, Int.reduceNeg, Bool.not_true, Bool.not_false, Bool.false_eq_true, if_true, if_false, ↓reduceIte, false_and, and_false, List.all_cons, List.all_nil, List.any_cons, List.any_nil, id_eq, Bool.and_true, Bool.true_and, Bool.or_false, Bool.false_or, Bool.and_false, Bool.false_and, gCut, eqD_b, neD_b, giZip, reduceCtorEq, Bool.true_eq_false, Bool.false_eq_true, gRevL, gSl, goNone, goSome, slD_l, ne_eq, not_false_eq_true, not_true_eq_false, gBM, isTy_l, isTy_s, new_at, new_set, isTy_new, cellK_new, append_new, popAt_new, gFrz_eq, frzK_new, fLen_new, fTuple_new, ixD_new, slA_l, slA_t, slA_new, addTD_t, addCD_l, mulCD_l, isbD_b, isnotbD_b, mSplitC_s, gLstC, gTr, ggSub, lstK_l, lstK_r, addLD_eq]
    refine ⟨two_sl, fun rem ρ w => ∃ (ts : List (List Row)) (a3 a4 a5 a6 a7 : Option D) (M : List Cell) (c : Nat), rem = ts.map (fun rs => D.tup (rs.map rowD)) ∧ (∀ rs ∈ ts, RowsOk rs 8 ∧ Rows9 rs) ∧ ρ = [some (.scr ns), some .st, some z, a3, a4, a5, a6, a7] ∧ w = ⟨M, some c⟩ ∧ 230 * xs.length + 10 + 2 * ts.length ≤ c, ⟨[r1, r2], _, _, _, _, _, _, _, rfl, ?_, rfl, rfl, ?_⟩, ?_, ?_⟩
    · intro rs hrs
      rcases List.mem_cons.mp hrs with rfl | hrs
      · exact ⟨h1, h1'⟩
      · rw [List.mem_singleton.mp hrs]
        exact ⟨h2, h2'⟩
    · show _ + 2 * 2 ≤ _
      omega
    · rintro ρ w ⟨ts, a3, a4, a5, a6, a7, M, c, h3, h4, rfl, rfl, hc⟩
      exact ⟨trivial, _, _, _, _, _, _, _, _, rfl, rfl, by omega⟩
    · rintro y rem ρ w ⟨ts, a3, a4, a5, a6, a7, M, c, h3, h4, rfl, rfl, hc⟩
      cases ts with
      | nil => cases h3
      | cons rs ts =>
        rw [List.map_cons] at h3
        injection h3 with h3 h3'
        subst h3
        subst h3'
        obtain ⟨hrs, h9⟩ := h4 rs List.mem_cons_self
        have h4' : ∀ rs ∈ ts, RowsOk rs 8 ∧ Rows9 rs := fun x hx => h4 x (List.mem_cons_of_mem _ hx)
        rw [List.length_cons] at hc
        refine ⟨trivial, ?_⟩
        simp only [sem0, List.map_cons, List.map_nil, List.length_cons, List.length_nil, gSeq, gNext, gRet, gRetN, gIfS, gSet, gPar, gAsg, gDrop, gVar, gC, gBin, gUn, gB, gTru, gAnd, gOr, gNot, gAndV, gOrV, gNotV, gIf, gChain, gaNil, gaCons, DL.gTup, gLst, gCB, gCall0, gAug, addD_i, addD_s, addD_l, addD_t, subD_i, mulD_i, mulD_l, fdivD_i, modD_i, powD_i, ltD_i, ltD_s, leD_i, gtD_i, geD_i, isD_n, isnotD_n, isNonD_non, isNonD_bl, isNonD_int, isNonD_str, isNonD_lst, isNonD_tup, negD_i, iaddD_i, truD_non, truD_bl, truD_int, truD_str, truD_lst, truD_tup, someK_some, ixD_l, ixD_t, fAbs_i, fInt_i, fInt_b, fMin2_i, fLen_l, fLen_t, fLen_s, fList_l, fList_t, fTuple_l, fTuple_t, optBK_some, fIsi_non, fIsi_bl, fIsi_int, fIsi_str, fIsi_lst, fIsi_tup, List.getElem?_cons_zero, List.getElem?_cons_succ, List.set_cons_zero, List.set_cons_succ, DL.ggName, ggNil0, ggCons1, ggTup2, ggTup3, gFor, giSeq, gLc, gYes, wipeR, true_and, and_true, at_0, at_1, at_2, kit_int_int, kit_bool_int, kit_str_int, kit_non_int, kit_list_int, kit_tuple_int, kit_int_bool, kit_bool_bool, kit_str_bool, kit_non_bool, kit_list_bool, kit_tuple_bool, kit_int_str, kit_bool_str, kit_str_str, kit_non_str, kit_list_str, kit_tuple_str, kit_int_list, kit_bool_list, kit_str_list, kit_non_list, kit_list_list, kit_tuple_list, kit_int_tuple, kit_bool_tuple, kit_str_tuple, kit_non_tuple, kit_list_tuple, kit_tuple_tuple, eqD_i, neD_i, eqD_s, neD_s, eqD_f, neD_f, Nat.zero_add, Nat.reduceAdd, nc0, nc1, nc2, nc3, nc4, nc5, nc6, nc7, nc8, nc9, eq_self, decide_true, decide_false, Int.reduceEq, Int.reduceLT, Int.reduceLE, Int.reduceNeg, Bool.not_true, Bool.not_false, Bool.false_eq_true, if_true, if_false, ↓reduceIte, false_and, and_false, List.all_cons, List.all_nil, List.any_cons, List.any_nil, id_eq, Bool.and_true, Bool.true_and, Bool.or_false, Bool.false_or, Bool.and_false, Bool.false_and, gCut, eqD_b, neD_b, giZip, reduceCtorEq, Bool.true_eq_false, Bool.false_eq_true, gRevL, gSl, goNone, goSome, slD_l, ne_eq, not_false_eq_true, not_true_eq_false, gBM, isTy_l, isTy_s, new_at, new_set, isTy_new, cellK_new, append_new, popAt_new, gFrz_eq, frzK_new, fLen_new, fTuple_new, ixD_new, slA_l, slA_t, slA_new, addTD_t, addCD_l, mulCD_l, isbD_b, isnotbD_b, mSplitC_s, gLstC, gTr, ggSub, lstK_l, lstK_r, addLD_eq]
        refine units_use (230 * xs.length + 10 + 2 * ts.length) hrs rfl (by omega) fun us c3 hc3 => ?_
        simp only [sem0, List.map_cons, List.map_nil, List.length_cons, List.length_nil, gSeq, gNext, gRet, gRetN, gIfS, gSet, gPar, gAsg, gDrop, gVar, gC, gBin, gUn, gB, gTru, gAnd, gOr, gNot, gAndV, gOrV, gNotV, gIf, gChain, gaNil, gaCons, DL.gTup, gLst, gCB, gCall0, gAug, addD_i, addD_s, addD_l, addD_t, subD_i, mulD_i, mulD_l, fdivD_i, modD_i, powD_i, ltD_i, ltD_s, leD_i, gtD_i, geD_i, isD_n, isnotD_n, isNonD_non, isNonD_bl, isNonD_int, isNonD_str, isNonD_lst, isNonD_tup, negD_i, iaddD_i, truD_non, truD_bl, truD_int, truD_str, truD_lst, truD_tup, someK_some, ixD_l, ixD_t, fAbs_i, fInt_i, fInt_b, fMin2_i, fLen_l, fLen_t, fLen_s, fList_l, fList_t, fTuple_l, fTuple_t, optBK_some, fIsi_non, fIsi_bl, fIsi_int, fIsi_str, fIsi_lst, fIsi_tup, List.getElem?_cons_zero, List.getElem?_cons_succ, List.set_cons_zero, List.set_cons_succ, DL.ggName, ggNil0, ggCons1, ggTup2, ggTup3, gFor, giSeq, gLc, gYes, wipeR, true_and, and_true, at_0, at_1, at_2, kit_int_int, kit_bool_int, kit_str_int, kit_non_int, kit_list_int, kit_tuple_int, kit_int_bool, kit_bool_bool, kit_str_bool, kit_non_bool, kit_list_bool, kit_tuple_bool, kit_int_str, kit_bool_str, kit_str_str, kit_non_str, kit_list_str, kit_tuple_str, kit_int_list, kit_bool_list, kit_str_list, kit_non_list, kit_list_list, kit_tuple_list, kit_int_tuple, kit_bool_tuple, kit_str_tuple, kit_non_tuple, kit_list_tuple, kit_tuple_tuple, eqD_i, neD_i, eqD_s, neD_s, eqD_f, neD_f, Nat.zero_add, Nat.reduceAdd, nc0, nc1, nc2, nc3, nc4, nc5, nc6, nc7, nc8, nc9, eq_self, decide_true, decide_false, Int.reduceEq, Int.reduceLT, Int.reduceLE, Int.reduceNeg, Bool.not_true, Bool.not_false, Bool.false_eq_true, if_true, if_false, ↓reduceIte, false_and, and_false, List.all_cons, List.all_nil, List.any_cons, List.any_nil, id_eq, Bool.and_true, Bool.true_and, Bool.or_false, Bool.false_or, Bool.and_false, Bool.false_and, gCut, eqD_b, neD_b, giZip, reduceCtorEq, Bool.true_eq_false, Bool.false_eq_true, gRevL, gSl, goNone, goSome, slD_l, ne_eq, not_false_eq_true, not_true_eq_false, gBM, isTy_l, isTy_s, new_at, new_set, isTy_new, cellK_new, append_new, popAt_new, gFrz_eq, frzK_new, fLen_new, fTuple_new, ixD_new, slA_l, slA_t, slA_new, addTD_t, addCD_l, mulCD_l, isbD_b, isnotbD_b, mSplitC_s, gLstC, gTr, ggSub, lstK_l, lstK_r, addLD_eq]
        refine ⟨fun rem ρ w => ∃ (vs : List Int) (a4 a5 a6 a7 : Option D) (M : List Cell), rem = vs.map D.int ∧ ρ = [some (.scr ns), some .st, some z, some (.tup (rs.map rowD)), a4, a5, a6, a7] ∧ w = ⟨M, some c3⟩, ⟨us, _, _, _, _, _, rfl, rfl, rfl⟩, ?_, ?_⟩
        · rintro ρ w ⟨vs, a4, a5, a6, a7, M, _, rfl, rfl⟩
          exact ⟨trivial, ts, _, _, _, _, _, _, _, rfl, h4', rfl, rfl, hc3⟩
        · rintro y rem ρ w ⟨vs, a4, a5, a6, a7, M, h5, rfl, rfl⟩
          cases vs with
          | nil => cases h5
          | cons u vs =>
            rw [List.map_cons] at h5
            injection h5 with h5 h5'
            subst h5
            subst h5'
            refine ⟨trivial, ?_⟩
            simp only [sem0, List.map_cons, List.map_nil, List.length_cons, List.length_nil, gSeq, gNext, gRet, gRetN, gIfS, gSet, gPar, gAsg, gDrop, gVar, gC, gBin, gUn, gB, gTru, gAnd, gOr, gNot, gAndV, gOrV, gNotV, gIf, gChain, gaNil, gaCons, DL.gTup, gLst, gCB, gCall0, gAug, addD_i, addD_s, addD_l, addD_t, subD_i, mulD_i, mulD_l, fdivD_i, modD_i, powD_i, ltD_i, ltD_s, leD_i, gtD_i, geD_i, isD_n, isnotD_n, isNonD_non, isNonD_bl, isNonD_int, isNonD_str, isNonD_lst, isNonD_tup, negD_i, iaddD_i, truD_non, truD_bl, truD_int, truD_str, truD_lst, truD_tup, someK_some, ixD_l, ixD_t, fAbs_i, fInt_i, fInt_b, fMin2_i, fLen_l, fLen_t, fLen_s, fList_l, fList_t, fTuple_l, fTuple_t, optBK_some, fIsi_non, fIsi_bl, fIsi_int, fIsi_str, fIsi_lst, fIsi_tup, List.getElem?_cons_zero, List.getElem?_cons_succ, List.set_cons_zero, List.set_cons_succ, DL.ggName, ggNil0, ggCons1, ggTup2, ggTup3, gFor, giSeq, gLc, gYes, wipeR, true_and, and_true, at_0, at_1, at_2, kit_int_int, kit_bool_int, kit_str_int, kit_non_int, kit_list_int, kit_tuple_int, kit_int_bool, kit_bool_bool, kit_str_bool, kit_non_bool, kit_list_bool, kit_tuple_bool, kit_int_str, kit_bool_str, kit_str_str, kit_non_str, kit_list_str, kit_tuple_str, kit_int_list, kit_bool_list, kit_str_list, kit_non_list, kit_list_list, kit_tuple_list, kit_int_tuple, kit_bool_tuple, kit_str_tuple, kit_non_tuple, kit_list_tuple, kit_tuple_tuple, eqD_i, neD_i, eqD_s, neD_s, eqD_f, neD_f, Nat.zero_add, Nat.reduceAdd, nc0, nc1, nc2, nc3, nc4, nc5, nc6, nc7, nc8, nc9, eq_self, decide_true, decide_false, Int.reduceEq, Int.reduceLT, Int.reduceLE, Int.reduceNeg, Bool.not_true, Bool.not_false, Bool.false_eq_true, if_true, if_false, ↓reduceIte, false_and, and_false, List.all_cons, List.all_nil, List.any_cons, List.any_nil, id_eq, Bool.and_true, Bool.true_and, Bool.or_false, Bool.false_or, Bool.and_false, Bool.false_and, gCut, eqD_b, neD_b, giZip, reduceCtorEq, Bool.true_eq_false, Bool.false_eq_true, gRevL, gSl, goNone, goSome, slD_l, ne_eq, not_false_eq_true, not_true_eq_false, gBM, isTy_l, isTy_s, new_at, new_set, isTy_new, cellK_new, append_new, popAt_new, gFrz_eq, frzK_new, fLen_new, fTuple_new, ixD_new, slA_l, slA_t, slA_new, addTD_t, addCD_l, mulCD_l, isbD_b, isnotbD_b, mSplitC_s, gLstC, gTr, ggSub, lstK_l, lstK_r, addLD_eq]
            refine ⟨rs, u, rfl, hrs, ?_⟩
            simp only [sem0, List.map_cons, List.map_nil, List.length_cons, List.length_nil, gSeq, gNext, gRet, gRetN, gIfS, gSet, gPar, gAsg, gDrop, gVar, gC, gBin, gUn, gB, gTru, gAnd, gOr, gNot, gAndV, gOrV, gNotV, gIf, gChain, gaNil, gaCons, DL.gTup, gLst, gCB, gCall0, gAug, addD_i, addD_s, addD_l, addD_t, subD_i, mulD_i, mulD_l, fdivD_i, modD_i, powD_i, ltD_i, ltD_s, leD_i, gtD_i, geD_i, isD_n, isnotD_n, isNonD_non, isNonD_bl, isNonD_int, isNonD_str, isNonD_lst, isNonD_tup, negD_i, iaddD_i, truD_non, truD_bl, truD_int, truD_str, truD_lst, truD_tup, someK_some, ixD_l, ixD_t, fAbs_i, fInt_i, fInt_b, fMin2_i, fLen_l, fLen_t, fLen_s, fList_l, fList_t, fTuple_l, fTuple_t, optBK_some, fIsi_non, fIsi_bl, fIsi_int, fIsi_str, fIsi_lst, fIsi_tup, List.getElem?_cons_zero, List.getElem?_cons_succ, List.set_cons_zero, List.set_cons_succ, DL.ggName, ggNil0, ggCons1, ggTup2, ggTup3, gFor, giSeq, gLc, gYes, wipeR, true_and, and_true, at_0, at_1, at_2, kit_int_int, kit_bool_int, kit_str_int, kit_non_int, kit_list_int, kit_tuple_int, kit_int_bool, kit_bool_bool, kit_str_bool, kit_non_bool, kit_list_bool, kit_tuple_bool, kit_int_str, kit_bool_str, kit_str_str, kit_non_str, kit_list_str, kit_tuple_str, kit_int_list, kit_bool_list, kit_str_list, kit_non_list, kit_list_list, kit_tuple_list, kit_int_tuple, kit_bool_tuple, kit_str_tuple, kit_non_tuple, kit_list_tuple, kit_tuple_tuple, eqD_i, neD_i, eqD_s, neD_s, eqD_f, neD_f, Nat.zero_add, Nat.reduceAdd, nc0, nc1, nc2, nc3, nc4, nc5, nc6, nc7, nc8, nc9, eq_self, decide_true, decide_false, Int.reduceEq, Int.reduceLT, Int.reduceLE, Int.reduceNeg, Bool.not_true, Bool.not_false, Bool.false_eq_true, if_true, if_false, ↓reduceIte, false_and, and_false, List.all_cons, List.all_nil, List.any_cons, List.any_nil, id_eq, Bool.and_true, Bool.true_and, Bool.or_false, Bool.false_or, Bool.and_false, Bool.false_and, gCut, eqD_b, neD_b, giZip, reduceCtorEq, Bool.true_eq_false, Bool.false_eq_true, gRevL, gSl, goNone, goSome, slD_l, ne_eq, not_false_eq_true, not_true_eq_false, gBM, isTy_l, isTy_s, new_at, new_set, isTy_new, cellK_new, append_new, popAt_new, gFrz_eq, frzK_new, fLen_new, fTuple_new, ixD_new, slA_l, slA_t, slA_new, addTD_t, addCD_l, mulCD_l, isbD_b, isnotbD_b, mSplitC_s, gLstC, gTr, ggSub, lstK_l, lstK_r, addLD_eq]
            refine ⟨rs, u, rfl, hrs, fun ks hKs hkl => ?_⟩
            simp only [sem0, List.map_cons, List.map_nil, List.length_cons, List.length_nil, gSeq, gNext, gRet, gRetN, gIfS, gSet, gPar, gAsg, gDrop, gVar, gC, gBin, gUn, gB, gTru, gAnd, gOr, gNot, gAndV, gOrV, gNotV, gIf, gChain, gaNil, gaCons, DL.gTup, gLst, gCB, gCall0, gAug, addD_i, addD_s, addD_l, addD_t, subD_i, mulD_i, mulD_l, fdivD_i, modD_i, powD_i, ltD_i, ltD_s, leD_i, gtD_i, geD_i, isD_n, isnotD_n, isNonD_non, isNonD_bl, isNonD_int, isNonD_str, isNonD_lst, isNonD_tup, negD_i, iaddD_i, truD_non, truD_bl, truD_int, truD_str, truD_lst, truD_tup, someK_some, ixD_l, ixD_t, fAbs_i, fInt_i, fInt_b, fMin2_i, fLen_l, fLen_t, fLen_s, fList_l, fList_t, fTuple_l, fTuple_t, optBK_some, fIsi_non, fIsi_bl, fIsi_int, fIsi_str, fIsi_lst, fIsi_tup, List.getElem?_cons_zero, List.getElem?_cons_succ, List.set_cons_zero, List.set_cons_succ, DL.ggName, ggNil0, ggCons1, ggTup2, ggTup3, gFor, giSeq, gLc, gYes, wipeR, true_and, and_true, at_0, at_1, at_2, kit_int_int, kit_bool_int, kit_str_int, kit_non_int, kit_list_int, kit_tuple_int, kit_int_bool, kit_bool_bool, kit_str_bool, kit_non_bool, kit_list_bool, kit_tuple_bool, kit_int_str, kit_bool_str, kit_str_str, kit_non_str, kit_list_str, kit_tuple_str, kit_int_list, kit_bool_list, kit_str_list, kit_non_list, kit_list_list, kit_tuple_list, kit_int_tuple, kit_bool_tuple, kit_str_tuple, kit_non_tuple, kit_list_tuple, kit_tuple_tuple, eqD_i, neD_i, eqD_s, neD_s, eqD_f, neD_f, Nat.zero_add, Nat.reduceAdd, nc0, nc1, nc2, nc3, nc4, nc5, nc6, nc7, nc8, nc9, eq_self, decide_true, decide_false, Int.reduceEq, Int.reduceLT, Int.reduceLE, Int.reduceNeg, Bool.not_true, Bool.not_false, Bool.false_eq_true, if_true, if_false, ↓reduceIte, false_and, and_false, List.all_cons, List.all_nil, List.any_cons, List.any_nil, id_eq, Bool.and_true, Bool.true_and, Bool.or_false, Bool.false_or, Bool.and_false, Bool.false_and, gCut, eqD_b, neD_b, giZip, reduceCtorEq, Bool.true_eq_false, Bool.false_eq_true, gRevL, gSl, goNone, goSome, slD_l, ne_eq, not_false_eq_true, not_true_eq_false, gBM, isTy_l, isTy_s, new_at, new_set, isTy_new, cellK_new, append_new, popAt_new, gFrz_eq, frzK_new, fLen_new, fTuple_new, ixD_new, slA_l, slA_t, slA_new, addTD_t, addCD_l, mulCD_l, isbD_b, isnotbD_b, mSplitC_s, gLstC, gTr, ggSub, lstK_l, lstK_r, addLD_eq]
            refine same_yes rfl (by rw [dep_f]; decide) (by rw [wid_f]) ?_
            simp only [sem0, List.map_cons, List.map_nil, List.length_cons, List.length_nil, gSeq, gNext, gRet, gRetN, gIfS, gSet, gPar, gAsg, gDrop, gVar, gC, gBin, gUn, gB, gTru, gAnd, gOr, gNot, gAndV, gOrV, gNotV, gIf, gChain, gaNil, gaCons, DL.gTup, gLst, gCB, gCall0, gAug, addD_i, addD_s, addD_l, addD_t, subD_i, mulD_i, mulD_l, fdivD_i, modD_i, powD_i, ltD_i, ltD_s, leD_i, gtD_i, geD_i, isD_n, isnotD_n, isNonD_non, isNonD_bl, isNonD_int, isNonD_str, isNonD_lst, isNonD_tup, negD_i, iaddD_i, truD_non, truD_bl, truD_int, truD_str, truD_lst, truD_tup, someK_some, ixD_l, ixD_t, fAbs_i, fInt_i, fInt_b, fMin2_i, fLen_l, fLen_t, fLen_s, fList_l, fList_t, fTuple_l, fTuple_t, optBK_some, fIsi_non, fIsi_bl, fIsi_int, fIsi_str, fIsi_lst, fIsi_tup, List.getElem?_cons_zero, List.getElem?_cons_succ, List.set_cons_zero, List.set_cons_succ, DL.ggName, ggNil0, ggCons1, ggTup2, ggTup3, gFor, giSeq, gLc, gYes, wipeR, true_and, and_true, at_0, at_1, at_2, kit_int_int, kit_bool_int, kit_str_int, kit_non_int, kit_list_int, kit_tuple_int, kit_int_bool, kit_bool_bool, kit_str_bool, kit_non_bool, kit_list_bool, kit_tuple_bool, kit_int_str, kit_bool_str, kit_str_str, kit_non_str, kit_list_str, kit_tuple_str, kit_int_list, kit_bool_list, kit_str_list, kit_non_list, kit_list_list, kit_tuple_list, kit_int_tuple, kit_bool_tuple, kit_str_tuple, kit_non_tuple, kit_list_tuple, kit_tuple_tuple, eqD_i, neD_i, eqD_s, neD_s, eqD_f, neD_f, Nat.zero_add, Nat.reduceAdd, nc0, nc1, nc2, nc3, nc4, nc5, nc6, nc7, nc8, nc9, eq_self, decide_true, decide_false, Int.reduceEq, Int.reduceLT, Int.reduceLE, Int.reduceNeg, Bool.not_true, Bool.not_false, Bool.false_eq_true, if_true, if_false, ↓reduceIte, false_and, and_false, List.all_cons, List.all_nil, List.any_cons, List.any_nil, id_eq, Bool.and_true, Bool.true_and, Bool.or_false, Bool.false_or, Bool.and_false, Bool.false_and, gCut, eqD_b, neD_b, giZip, reduceCtorEq, Bool.true_eq_false, Bool.false_eq_true, gRevL, gSl, goNone, goSome, slD_l, ne_eq, not_false_eq_true, not_true_eq_false, gBM, isTy_l, isTy_s, new_at, new_set, isTy_new, cellK_new, append_new, popAt_new, gFrz_eq, frzK_new, fLen_new, fTuple_new, ixD_new, slA_l, slA_t, slA_new, addTD_t, addCD_l, mulCD_l, isbD_b, isnotbD_b, mSplitC_s, gLstC, gTr, ggSub, lstK_l, lstK_r, addLD_eq]
            refine ⟨rs, u, rfl, hrs, ?_⟩
            refine same_yes rfl (by rw [dep_f]; decide) (by rw [wid_f]) ?_
            simp only [sem0, List.map_cons, List.map_nil, List.length_cons, List.length_nil, gSeq, gNext, gRet, gRetN, gIfS, gSet, gPar, gAsg, gDrop, gVar, gC, gBin, gUn, gB, gTru, gAnd, gOr, gNot, gAndV, gOrV, gNotV, gIf, gChain, gaNil, gaCons, DL.gTup, gLst, gCB, gCall0, gAug, addD_i, addD_s, addD_l, addD_t, subD_i, mulD_i, mulD_l, fdivD_i, modD_i, powD_i, ltD_i, ltD_s, leD_i, gtD_i, geD_i, isD_n, isnotD_n, isNonD_non, isNonD_bl, isNonD_int, isNonD_str, isNonD_lst, isNonD_tup, negD_i, iaddD_i, truD_non, truD_bl, truD_int, truD_str, truD_lst, truD_tup, someK_some, ixD_l, ixD_t, fAbs_i, fInt_i, fInt_b, fMin2_i, fLen_l, fLen_t, fLen_s, fList_l, fList_t, fTuple_l, fTuple_t, optBK_some, fIsi_non, fIsi_bl, fIsi_int, fIsi_str, fIsi_lst, fIsi_tup, List.getElem?_cons_zero, List.getElem?_cons_succ, List.set_cons_zero, List.set_cons_succ, DL.ggName, ggNil0, ggCons1, ggTup2, ggTup3, gFor, giSeq, gLc, gYes, wipeR, true_and, and_true, at_0, at_1, at_2, kit_int_int, kit_bool_int, kit_str_int, kit_non_int, kit_list_int, kit_tuple_int, kit_int_bool, kit_bool_bool, kit_str_bool, kit_non_bool, kit_list_bool, kit_tuple_bool, kit_int_str, kit_bool_str, kit_str_str, kit_non_str, kit_list_str, kit_tuple_str, kit_int_list, kit_bool_list, kit_str_list, kit_non_list, kit_list_list, kit_tuple_list, kit_int_tuple, kit_bool_tuple, kit_str_tuple, kit_non_tuple, kit_list_tuple, kit_tuple_tuple, eqD_i, neD_i, eqD_s, neD_s, eqD_f, neD_f, Nat.zero_add, Nat.reduceAdd, nc0, nc1, nc2, nc3, nc4, nc5, nc6, nc7, nc8, nc9, eq_self, decide_true, decide_false, Int.reduceEq, Int.reduceLT, Int.reduceLE, Int.reduceNeg, Bool.not_true, Bool.not_false, Bool.false_eq_true, if_true, if_false, ↓reduceIte, false_and, and_false, List.all_cons, List.all_nil, List.any_cons, List.any_nil, id_eq, Bool.and_true, Bool.true_and, Bool.or_false, Bool.false_or, Bool.and_false, Bool.false_and, gCut, eqD_b, neD_b, giZip, reduceCtorEq, Bool.true_eq_false, Bool.false_eq_true, gRevL, gSl, goNone, goSome, slD_l, ne_eq, not_false_eq_true, not_true_eq_false, gBM, isTy_l, isTy_s, new_at, new_set, isTy_new, cellK_new, append_new, popAt_new, gFrz_eq, frzK_new, fLen_new, fTuple_new, ixD_new, slA_l, slA_t, slA_new, addTD_t, addCD_l, mulCD_l, isbD_b, isnotbD_b, mSplitC_s, gLstC, gTr, ggSub, lstK_l, lstK_r, addLD_eq]
            refine ⟨one_sl, rs, u, rfl, hrs, fun ys R hK => ?_⟩
            obtain ⟨s1, s2⟩ := waits_one hrs h9 hK
            obtain ⟨t1, t2⟩ := tell_ok (u := u) hrs.ok hrs.len
            have hpl : (pairsOf ys (tellP rs u)).length ≤ 8 := by
              have := keysP_len hK
              unfold pairsOf
              rw [List.length_map]
              omega
            simp only [sem0, List.map_cons, List.map_nil, List.length_cons, List.length_nil, gSeq, gNext, gRet, gRetN, gIfS, gSet, gPar, gAsg, gDrop, gVar, gC, gBin, gUn, gB, gTru, gAnd, gOr, gNot, gAndV, gOrV, gNotV, gIf, gChain, gaNil, gaCons, DL.gTup, gLst, gCB, gCall0, gAug, addD_i, addD_s, addD_l, addD_t, subD_i, mulD_i, mulD_l, fdivD_i, modD_i, powD_i, ltD_i, ltD_s, leD_i, gtD_i, geD_i, isD_n, isnotD_n, isNonD_non, isNonD_bl, isNonD_int, isNonD_str, isNonD_lst, isNonD_tup, negD_i, iaddD_i, truD_non, truD_bl, truD_int, truD_str, truD_lst, truD_tup, someK_some, ixD_l, ixD_t, fAbs_i, fInt_i, fInt_b, fMin2_i, fLen_l, fLen_t, fLen_s, fList_l, fList_t, fTuple_l, fTuple_t, optBK_some, fIsi_non, fIsi_bl, fIsi_int, fIsi_str, fIsi_lst, fIsi_tup, List.getElem?_cons_zero, List.getElem?_cons_succ, List.set_cons_zero, List.set_cons_succ, DL.ggName, ggNil0, ggCons1, ggTup2, ggTup3, gFor, giSeq, gLc, gYes, wipeR, true_and, and_true, at_0, at_1, at_2, kit_int_int, kit_bool_int, kit_str_int, kit_non_int, kit_list_int, kit_tuple_int, kit_int_bool, kit_bool_bool, kit_str_bool, kit_non_bool, kit_list_bool, kit_tuple_bool, kit_int_str, kit_bool_str, kit_str_str, kit_non_str, kit_list_str, kit_tuple_str, kit_int_list, kit_bool_list, kit_str_list, kit_non_list, kit_list_list, kit_tuple_list, kit_int_tuple, kit_bool_tuple, kit_str_tuple, kit_non_tuple, kit_list_tuple, kit_tuple_tuple, eqD_i, neD_i, eqD_s, neD_s, eqD_f, neD_f, Nat.zero_add, Nat.reduceAdd, nc0, nc1, nc2, nc3, nc4, nc5, nc6, nc7, nc8, nc9, eq_self, decide_true, decide_false, Int.reduceEq, Int.reduceLT, Int.reduceLE, Int.reduceNeg, Bool.not_true, Bool.not_false, Bool.false_eq_true, if_true, if_false, ↓reduceIte, false_and, and_false, List.all_cons, List.all_nil, List.any_cons, List.any_nil, id_eq, Bool.and_true, Bool.true_and, Bool.or_false, Bool.false_or, Bool.and_false, Bool.false_and, gCut, eqD_b, neD_b, giZip, reduceCtorEq, Bool.true_eq_false, Bool.false_eq_true, gRevL, gSl, goNone, goSome, slD_l, ne_eq, not_false_eq_true, not_true_eq_false, gBM, isTy_l, isTy_s, new_at, new_set, isTy_new, cellK_new, append_new, popAt_new, gFrz_eq, frzK_new, fLen_new, fTuple_new, ixD_new, slA_l, slA_t, slA_new, addTD_t, addCD_l, mulCD_l, isbD_b, isnotbD_b, mSplitC_s, gLstC, gTr, ggSub, lstK_l, lstK_r, addLD_eq]
            refine lc_ty pairD (fun x => fD x.2) (pairsOf ys (tellP rs u)) new_at (by omega) (fun a _ k' hk' => ?_) ?_
            · simp only [pair_tup, sem0, List.map_cons, List.map_nil, List.length_cons, List.length_nil, gSeq, gNext, gRet, gRetN, gIfS, gSet, gPar, gAsg, gDrop, gVar, gC, gBin, gUn, gB, gTru, gAnd, gOr, gNot, gAndV, gOrV, gNotV, gIf, gChain, gaNil, gaCons, DL.gTup, gLst, gCB, gCall0, gAug, addD_i, addD_s, addD_l, addD_t, subD_i, mulD_i, mulD_l, fdivD_i, modD_i, powD_i, ltD_i, ltD_s, leD_i, gtD_i, geD_i, isD_n, isnotD_n, isNonD_non, isNonD_bl, isNonD_int, isNonD_str, isNonD_lst, isNonD_tup, negD_i, iaddD_i, truD_non, truD_bl, truD_int, truD_str, truD_lst, truD_tup, someK_some, ixD_l, ixD_t, fAbs_i, fInt_i, fInt_b, fMin2_i, fLen_l, fLen_t, fLen_s, fList_l, fList_t, fTuple_l, fTuple_t, optBK_some, fIsi_non, fIsi_bl, fIsi_int, fIsi_str, fIsi_lst, fIsi_tup, List.getElem?_cons_zero, List.getElem?_cons_succ, List.set_cons_zero, List.set_cons_succ, DL.ggName, ggNil0, ggCons1, ggTup2, ggTup3, gFor, giSeq, gLc, gYes, wipeR, true_and, and_true, at_0, at_1, at_2, kit_int_int, kit_bool_int, kit_str_int, kit_non_int, kit_list_int, kit_tuple_int, kit_int_bool, kit_bool_bool, kit_str_bool, kit_non_bool, kit_list_bool, kit_tuple_bool, kit_int_str, kit_bool_str, kit_str_str, kit_non_str, kit_list_str, kit_tuple_str, kit_int_list, kit_bool_list, kit_str_list, kit_non_list, kit_list_list, kit_tuple_list, kit_int_tuple, kit_bool_tuple, kit_str_tuple, kit_non_tuple, kit_list_tuple, kit_tuple_tuple, eqD_i, neD_i, eqD_s, neD_s, eqD_f, neD_f, Nat.zero_add, Nat.reduceAdd, nc0, nc1, nc2, nc3, nc4, nc5, nc6, nc7, nc8, nc9, eq_self, decide_true, decide_false, Int.reduceEq, Int.reduceLT, Int.reduceLE, Int.reduceNeg, Bool.not_true, Bool.not_false, Bool.false_eq_true, if_true, if_false, ↓reduceIte, false_and, and_false, List.all_cons, List.all_nil, List.any_cons, List.any_nil, id_eq, Bool.and_true, Bool.true_and, Bool.or_false, Bool.false_or, Bool.and_false, Bool.false_and, gCut, eqD_b, neD_b, giZip, reduceCtorEq, Bool.true_eq_false, Bool.false_eq_true, gRevL, gSl, goNone, goSome, slD_l, ne_eq, not_false_eq_true, not_true_eq_false, gBM, isTy_l, isTy_s, new_at, new_set, isTy_new, cellK_new, append_new, popAt_new, gFrz_eq, frzK_new, fLen_new, fTuple_new, ixD_new, slA_l, slA_t, slA_new, addTD_t, addCD_l, mulCD_l, isbD_b, isnotbD_b, mSplitC_s, gLstC, gTr, ggSub, lstK_l, lstK_r, addLD_eq]
              exact hk'
            have em : ((pairsOf ys (tellP rs u)).map fun x => fD x.2) = ((pairsOf ys (tellP rs u)).map Prod.snd).map fD := by rw [List.map_map]; rfl
            rw [em, addD_l]
            refine ⟨le_sl (by rw [List.length_map, List.length_map]; simp; omega), restLw rs u :: (pairsOf ys (tellP rs u)).map Prod.snd, rfl, s2, ?_⟩
            rw [s1]
            refine ⟨two_sl, ?_⟩
            show neD (.tup [.int 1, .int 1]) (.tup [.int 1, .int 1]) _ _
            rw [neD_f]
            exact ⟨vs, _, _, _, _, _, rfl, rfl, rfl⟩
theorem ok_law {P : Program} {w : World} {K : PySem.W.Frag} {mg : Str → Option Value} {base : Heap} {f : Addr} {fd : FuncData} (T : Fun K "law" "law" s_law f fd) (B : Blt mg) (F__law_begin : FnAt P w K mg base CX0 1 "_law_begin" 1 sp__law_begin) (F__law_same : FnAt P w K mg base CX0 6 "_law_same" 2 sp__law_same) (F_waits_at : FnAt P w K mg base CX0 8 "waits_at" 2 sp_waits_at) (F__law_some_rows : FnAt P w K mg base CX0 5 "_law_some_rows" 1 sp__law_some_rows) (F__law_whole : FnAt P w K mg base CX0 3 "_law_whole" 1 sp__law_whole) (F__law_units : FnAt P w K mg base CX0 2 "_law_units" 2 sp__law_units) (F__law_sum : FnAt P w K mg base CX0 2 "_law_sum" 1 sp__law_sum) (F__law_parted : FnAt P w K mg base CX0 3 "_law_parted" 2 sp__law_parted) (F_parts_at : FnAt P w K mg base CX0 8 "parts_at" 2 sp_parts_at) : FnOk P w K mg base CX0 9 f fd ["_law_script"] (upF 1 K sp_law) := (w_law T B F__law_begin F__law_same F_waits_at F__law_some_rows F__law_whole F__law_units F__law_sum F__law_parted F_parts_at).imp (up_imp v_law)

theorem all_mk {l : PySem.W.OpenLaw} {w : World} {K : PySem.W.Frag} {h : Heap} {mg : Str → Option Value} {fa : Addr} (X : K.In h) (G : h.Ns mainGlobals mg) (hfa : mg "law" = some (.ref fa))
    {C_Parting : Addr} (aC0 : PySem.W.nsIn K mainGlobals "Parting" = some (some (.ref C_Parting))) (pg0 : PySem.W.plainGet K C_Parting Str.empty = true) (hd0 : PySem.W.hasDictIn K C_Parting = true) (po0 : PySem.W.plainOver K C_Parting = true) (sa0 : PySem.W.findIn K (.ref C_Parting) "__setattr__" = some (some (.builtin "object.__setattr__"))) (mk0 : PySem.W.makesIn K C_Parting = true) (kc0 : PySem.W.keepIn K (.ref C_Parting) = true)
    (n0_0 : PySem.W.findIn K (.ref C_Parting) "told" = some none)
    (n0_1 : PySem.W.findIn K (.ref C_Parting) "rest" = some none)
    {f0 : Addr} {od0 an0 : Option Addr} {sl0 : Array (Option Value)} {oc0 kV0 dc0 pm0 cd0 ct0 : Value}
    (a0 : PySem.W.nsIn K mainGlobals "_law_begin" = some (some (.ref f0)))
    (l0 : K.lookup f0 = some ⟨oc0, od0, .func (PySem.W.fnOf "_law_begin" "_law_begin" (defArgs s__law_begin) (defBody s__law_begin) (defScope s__law_begin) .none kV0 dc0 pm0 an0 cd0 ct0), sl0⟩) (c0 : PySem.W.codeIn K cd0 "_law_begin" = true) (k0 : PySem.W.keepIn K (.ref f0) = true)
    {f1 : Addr} {od1 an1 : Option Addr} {sl1 : Array (Option Value)} {oc1 kV1 dc1 pm1 cd1 ct1 : Value}
    (a1 : PySem.W.nsIn K mainGlobals "_law_same" = some (some (.ref f1)))
    (l1 : K.lookup f1 = some ⟨oc1, od1, .func (PySem.W.fnOf "_law_same" "_law_same" (defArgs s__law_same) (defBody s__law_same) (defScope s__law_same) .none kV1 dc1 pm1 an1 cd1 ct1), sl1⟩) (c1 : PySem.W.codeIn K cd1 "_law_same" = true) (k1 : PySem.W.keepIn K (.ref f1) = true)
    {f2 : Addr} {od2 an2 : Option Addr} {sl2 : Array (Option Value)} {oc2 kV2 dc2 pm2 cd2 ct2 : Value}
    (a2 : PySem.W.nsIn K mainGlobals "divisor_of" = some (some (.ref f2)))
    (l2 : K.lookup f2 = some ⟨oc2, od2, .func (PySem.W.fnOf "divisor_of" "divisor_of" (defArgs s_divisor_of) (defBody s_divisor_of) (defScope s_divisor_of) .none kV2 dc2 pm2 an2 cd2 ct2), sl2⟩) (c2 : PySem.W.codeIn K cd2 "divisor_of" = true) (k2 : PySem.W.keepIn K (.ref f2) = true)
    {f3 : Addr} {od3 an3 : Option Addr} {sl3 : Array (Option Value)} {oc3 kV3 dc3 pm3 cd3 ct3 : Value}
    (a3 : PySem.W.nsIn K mainGlobals "fraction_of" = some (some (.ref f3)))
    (l3 : K.lookup f3 = some ⟨oc3, od3, .func (PySem.W.fnOf "fraction_of" "fraction_of" (defArgs s_fraction_of) (defBody s_fraction_of) (defScope s_fraction_of) .none kV3 dc3 pm3 an3 cd3 ct3), sl3⟩) (c3 : PySem.W.codeIn K cd3 "fraction_of" = true) (k3 : PySem.W.keepIn K (.ref f3) = true)
    {f4 : Addr} {od4 an4 : Option Addr} {sl4 : Array (Option Value)} {oc4 kV4 dc4 pm4 cd4 ct4 : Value}
    (a4 : PySem.W.nsIn K mainGlobals "taken_from" = some (some (.ref f4)))
    (l4 : K.lookup f4 = some ⟨oc4, od4, .func (PySem.W.fnOf "taken_from" "taken_from" (defArgs s_taken_from) (defBody s_taken_from) (defScope s_taken_from) .none kV4 dc4 pm4 an4 cd4 ct4), sl4⟩) (c4 : PySem.W.codeIn K cd4 "taken_from" = true) (k4 : PySem.W.keepIn K (.ref f4) = true)
    {f5 : Addr} {od5 an5 : Option Addr} {sl5 : Array (Option Value)} {oc5 kV5 dc5 pm5 cd5 ct5 : Value}
    (a5 : PySem.W.nsIn K mainGlobals "rows_by" = some (some (.ref f5)))
    (l5 : K.lookup f5 = some ⟨oc5, od5, .func (PySem.W.fnOf "rows_by" "rows_by" (defArgs s_rows_by) (defBody s_rows_by) (defScope s_rows_by) .none kV5 dc5 pm5 an5 cd5 ct5), sl5⟩) (c5 : PySem.W.codeIn K cd5 "rows_by" = true) (k5 : PySem.W.keepIn K (.ref f5) = true)
    {f6 : Addr} {od6 an6 : Option Addr} {sl6 : Array (Option Value)} {oc6 kV6 dc6 pm6 cd6 ct6 : Value}
    (a6 : PySem.W.findIn K (.ref C_Parting) "give" = some (some (.ref f6))) (i6 : PySem.W.isFn K (.ref f6) = true)
    (l6 : K.lookup f6 = some ⟨oc6, od6, .func (PySem.W.fnOf "give" "Parting.give" (defArgs s_Parting_give) (defBody s_Parting_give) (defScope s_Parting_give) .none kV6 dc6 pm6 an6 cd6 ct6), sl6⟩) (c6 : PySem.W.codeIn K cd6 "Parting.give" = true) (k6 : PySem.W.keepIn K (.ref f6) = true)
    {f7 : Addr} {od7 an7 : Option Addr} {sl7 : Array (Option Value)} {oc7 kV7 dc7 pm7 cd7 ct7 : Value}
    (a7 : PySem.W.nsIn K mainGlobals "product_of" = some (some (.ref f7)))
    (l7 : K.lookup f7 = some ⟨oc7, od7, .func (PySem.W.fnOf "product_of" "product_of" (defArgs s_product_of) (defBody s_product_of) (defScope s_product_of) .none kV7 dc7 pm7 an7 cd7 ct7), sl7⟩) (c7 : PySem.W.codeIn K cd7 "product_of" = true) (k7 : PySem.W.keepIn K (.ref f7) = true)
    {f8 : Addr} {od8 an8 : Option Addr} {sl8 : Array (Option Value)} {oc8 kV8 dc8 pm8 cd8 ct8 : Value}
    (a8 : PySem.W.findIn K (.ref C_Parting) "by_lengths" = some (some (.ref f8))) (i8 : PySem.W.isFn K (.ref f8) = true)
    (l8 : K.lookup f8 = some ⟨oc8, od8, .func (PySem.W.fnOf "by_lengths" "Parting.by_lengths" (defArgs s_Parting_by_lengths) (defBody s_Parting_by_lengths) (defScope s_Parting_by_lengths) .none kV8 dc8 pm8 an8 cd8 ct8), sl8⟩) (c8 : PySem.W.codeIn K cd8 "Parting.by_lengths" = true) (k8 : PySem.W.keepIn K (.ref f8) = true)
    {f9 : Addr} {od9 an9 : Option Addr} {sl9 : Array (Option Value)} {oc9 kV9 dc9 pm9 cd9 ct9 : Value}
    (a9 : PySem.W.nsIn K mainGlobals "sum_of" = some (some (.ref f9)))
    (l9 : K.lookup f9 = some ⟨oc9, od9, .func (PySem.W.fnOf "sum_of" "sum_of" (defArgs s_sum_of) (defBody s_sum_of) (defScope s_sum_of) .none kV9 dc9 pm9 an9 cd9 ct9), sl9⟩) (c9 : PySem.W.codeIn K cd9 "sum_of" = true) (k9 : PySem.W.keepIn K (.ref f9) = true)
    {f10 : Addr} {od10 an10 : Option Addr} {sl10 : Array (Option Value)} {oc10 kV10 dc10 pm10 cd10 ct10 : Value}
    (a10 : PySem.W.nsIn K mainGlobals "part_at" = some (some (.ref f10)))
    (l10 : K.lookup f10 = some ⟨oc10, od10, .func (PySem.W.fnOf "part_at" "part_at" (defArgs s_part_at) (defBody s_part_at) (defScope s_part_at) .none kV10 dc10 pm10 an10 cd10 ct10), sl10⟩) (c10 : PySem.W.codeIn K cd10 "part_at" = true) (k10 : PySem.W.keepIn K (.ref f10) = true)
    {f11 : Addr} {od11 an11 : Option Addr} {sl11 : Array (Option Value)} {oc11 kV11 dc11 pm11 cd11 ct11 : Value}
    (a11 : PySem.W.findIn K (.ref C_Parting) "__init__" = some (some (.ref f11))) (i11 : PySem.W.isFn K (.ref f11) = true)
    (l11 : K.lookup f11 = some ⟨oc11, od11, .func (PySem.W.fnOf "__init__" "Parting.__init__" (defArgs s_Parting___init__) (defBody s_Parting___init__) (defScope s_Parting___init__) .none kV11 dc11 pm11 an11 cd11 ct11), sl11⟩) (c11 : PySem.W.codeIn K cd11 "Parting.__init__" = true) (k11 : PySem.W.keepIn K (.ref f11) = true)
    {f12 : Addr} {od12 an12 : Option Addr} {sl12 : Array (Option Value)} {oc12 kV12 dc12 pm12 cd12 ct12 : Value}
    (a12 : PySem.W.nsIn K mainGlobals "waits_at" = some (some (.ref f12)))
    (l12 : K.lookup f12 = some ⟨oc12, od12, .func (PySem.W.fnOf "waits_at" "waits_at" (defArgs s_waits_at) (defBody s_waits_at) (defScope s_waits_at) .none kV12 dc12 pm12 an12 cd12 ct12), sl12⟩) (c12 : PySem.W.codeIn K cd12 "waits_at" = true) (k12 : PySem.W.keepIn K (.ref f12) = true)
    {f13 : Addr} {od13 an13 : Option Addr} {sl13 : Array (Option Value)} {oc13 kV13 dc13 pm13 cd13 ct13 : Value}
    (a13 : PySem.W.nsIn K mainGlobals "_law_take" = some (some (.ref f13)))
    (l13 : K.lookup f13 = some ⟨oc13, od13, .func (PySem.W.fnOf "_law_take" "_law_take" (defArgs s__law_take) (defBody s__law_take) (defScope s__law_take) .none kV13 dc13 pm13 an13 cd13 ct13), sl13⟩) (c13 : PySem.W.codeIn K cd13 "_law_take" = true) (k13 : PySem.W.keepIn K (.ref f13) = true)
    {f14 : Addr} {od14 an14 : Option Addr} {sl14 : Array (Option Value)} {oc14 kV14 dc14 pm14 cd14 ct14 : Value}
    (a14 : PySem.W.nsIn K mainGlobals "_law_lowest" = some (some (.ref f14)))
    (l14 : K.lookup f14 = some ⟨oc14, od14, .func (PySem.W.fnOf "_law_lowest" "_law_lowest" (defArgs s__law_lowest) (defBody s__law_lowest) (defScope s__law_lowest) .none kV14 dc14 pm14 an14 cd14 ct14), sl14⟩) (c14 : PySem.W.codeIn K cd14 "_law_lowest" = true) (k14 : PySem.W.keepIn K (.ref f14) = true)
    {f15 : Addr} {od15 an15 : Option Addr} {sl15 : Array (Option Value)} {oc15 kV15 dc15 pm15 cd15 ct15 : Value}
    (a15 : PySem.W.nsIn K mainGlobals "_law_part" = some (some (.ref f15)))
    (l15 : K.lookup f15 = some ⟨oc15, od15, .func (PySem.W.fnOf "_law_part" "_law_part" (defArgs s__law_part) (defBody s__law_part) (defScope s__law_part) .none kV15 dc15 pm15 an15 cd15 ct15), sl15⟩) (c15 : PySem.W.codeIn K cd15 "_law_part" = true) (k15 : PySem.W.keepIn K (.ref f15) = true)
    {f16 : Addr} {od16 an16 : Option Addr} {sl16 : Array (Option Value)} {oc16 kV16 dc16 pm16 cd16 ct16 : Value}
    (a16 : PySem.W.nsIn K mainGlobals "_law_row" = some (some (.ref f16)))
    (l16 : K.lookup f16 = some ⟨oc16, od16, .func (PySem.W.fnOf "_law_row" "_law_row" (defArgs s__law_row) (defBody s__law_row) (defScope s__law_row) .none kV16 dc16 pm16 an16 cd16 ct16), sl16⟩) (c16 : PySem.W.codeIn K cd16 "_law_row" = true) (k16 : PySem.W.keepIn K (.ref f16) = true)
    {f17 : Addr} {od17 an17 : Option Addr} {sl17 : Array (Option Value)} {oc17 kV17 dc17 pm17 cd17 ct17 : Value}
    (a17 : PySem.W.nsIn K mainGlobals "_law_rows" = some (some (.ref f17)))
    (l17 : K.lookup f17 = some ⟨oc17, od17, .func (PySem.W.fnOf "_law_rows" "_law_rows" (defArgs s__law_rows) (defBody s__law_rows) (defScope s__law_rows) .none kV17 dc17 pm17 an17 cd17 ct17), sl17⟩) (c17 : PySem.W.codeIn K cd17 "_law_rows" = true) (k17 : PySem.W.keepIn K (.ref f17) = true)
    {f18 : Addr} {od18 an18 : Option Addr} {sl18 : Array (Option Value)} {oc18 kV18 dc18 pm18 cd18 ct18 : Value}
    (a18 : PySem.W.nsIn K mainGlobals "_law_names" = some (some (.ref f18)))
    (l18 : K.lookup f18 = some ⟨oc18, od18, .func (PySem.W.fnOf "_law_names" "_law_names" (defArgs s__law_names) (defBody s__law_names) (defScope s__law_names) .none kV18 dc18 pm18 an18 cd18 ct18), sl18⟩) (c18 : PySem.W.codeIn K cd18 "_law_names" = true) (k18 : PySem.W.keepIn K (.ref f18) = true)
    {f19 : Addr} {od19 an19 : Option Addr} {sl19 : Array (Option Value)} {oc19 kV19 dc19 pm19 cd19 ct19 : Value}
    (a19 : PySem.W.nsIn K mainGlobals "_law_some_rows" = some (some (.ref f19)))
    (l19 : K.lookup f19 = some ⟨oc19, od19, .func (PySem.W.fnOf "_law_some_rows" "_law_some_rows" (defArgs s__law_some_rows) (defBody s__law_some_rows) (defScope s__law_some_rows) .none kV19 dc19 pm19 an19 cd19 ct19), sl19⟩) (c19 : PySem.W.codeIn K cd19 "_law_some_rows" = true) (k19 : PySem.W.keepIn K (.ref f19) = true)
    {f20 : Addr} {od20 an20 : Option Addr} {sl20 : Array (Option Value)} {oc20 kV20 dc20 pm20 cd20 ct20 : Value}
    (a20 : PySem.W.nsIn K mainGlobals "_law_whole" = some (some (.ref f20)))
    (l20 : K.lookup f20 = some ⟨oc20, od20, .func (PySem.W.fnOf "_law_whole" "_law_whole" (defArgs s__law_whole) (defBody s__law_whole) (defScope s__law_whole) .none kV20 dc20 pm20 an20 cd20 ct20), sl20⟩) (c20 : PySem.W.codeIn K cd20 "_law_whole" = true) (k20 : PySem.W.keepIn K (.ref f20) = true)
    {f21 : Addr} {od21 an21 : Option Addr} {sl21 : Array (Option Value)} {oc21 kV21 dc21 pm21 cd21 ct21 : Value}
    (a21 : PySem.W.nsIn K mainGlobals "_law_units" = some (some (.ref f21)))
    (l21 : K.lookup f21 = some ⟨oc21, od21, .func (PySem.W.fnOf "_law_units" "_law_units" (defArgs s__law_units) (defBody s__law_units) (defScope s__law_units) .none kV21 dc21 pm21 an21 cd21 ct21), sl21⟩) (c21 : PySem.W.codeIn K cd21 "_law_units" = true) (k21 : PySem.W.keepIn K (.ref f21) = true)
    {f22 : Addr} {od22 an22 : Option Addr} {sl22 : Array (Option Value)} {oc22 kV22 dc22 pm22 cd22 ct22 : Value}
    (a22 : PySem.W.nsIn K mainGlobals "_law_sum" = some (some (.ref f22)))
    (l22 : K.lookup f22 = some ⟨oc22, od22, .func (PySem.W.fnOf "_law_sum" "_law_sum" (defArgs s__law_sum) (defBody s__law_sum) (defScope s__law_sum) .none kV22 dc22 pm22 an22 cd22 ct22), sl22⟩) (c22 : PySem.W.codeIn K cd22 "_law_sum" = true) (k22 : PySem.W.keepIn K (.ref f22) = true)
    {f23 : Addr} {od23 an23 : Option Addr} {sl23 : Array (Option Value)} {oc23 kV23 dc23 pm23 cd23 ct23 : Value}
    (a23 : PySem.W.nsIn K mainGlobals "_law_times" = some (some (.ref f23)))
    (l23 : K.lookup f23 = some ⟨oc23, od23, .func (PySem.W.fnOf "_law_times" "_law_times" (defArgs s__law_times) (defBody s__law_times) (defScope s__law_times) .none kV23 dc23 pm23 an23 cd23 ct23), sl23⟩) (c23 : PySem.W.codeIn K cd23 "_law_times" = true) (k23 : PySem.W.keepIn K (.ref f23) = true)
    {f24 : Addr} {od24 an24 : Option Addr} {sl24 : Array (Option Value)} {oc24 kV24 dc24 pm24 cd24 ct24 : Value}
    (a24 : PySem.W.nsIn K mainGlobals "_law_parted" = some (some (.ref f24)))
    (l24 : K.lookup f24 = some ⟨oc24, od24, .func (PySem.W.fnOf "_law_parted" "_law_parted" (defArgs s__law_parted) (defBody s__law_parted) (defScope s__law_parted) .none kV24 dc24 pm24 an24 cd24 ct24), sl24⟩) (c24 : PySem.W.codeIn K cd24 "_law_parted" = true) (k24 : PySem.W.keepIn K (.ref f24) = true)
    {f25 : Addr} {od25 an25 : Option Addr} {sl25 : Array (Option Value)} {oc25 kV25 dc25 pm25 cd25 ct25 : Value}
    (a25 : PySem.W.nsIn K mainGlobals "is_less" = some (some (.ref f25)))
    (l25 : K.lookup f25 = some ⟨oc25, od25, .func (PySem.W.fnOf "is_less" "is_less" (defArgs s_is_less) (defBody s_is_less) (defScope s_is_less) .none kV25 dc25 pm25 an25 cd25 ct25), sl25⟩) (c25 : PySem.W.codeIn K cd25 "is_less" = true) (k25 : PySem.W.keepIn K (.ref f25) = true)
    {f26 : Addr} {od26 an26 : Option Addr} {sl26 : Array (Option Value)} {oc26 kV26 dc26 pm26 cd26 ct26 : Value}
    (a26 : PySem.W.findIn K (.ref C_Parting) "pairs" = some (some (.ref f26))) (i26 : PySem.W.isFn K (.ref f26) = true)
    (l26 : K.lookup f26 = some ⟨oc26, od26, .func (PySem.W.fnOf "pairs" "Parting.pairs" (defArgs s_Parting_pairs) (defBody s_Parting_pairs) (defScope s_Parting_pairs) .none kV26 dc26 pm26 an26 cd26 ct26), sl26⟩) (c26 : PySem.W.codeIn K cd26 "Parting.pairs" = true) (k26 : PySem.W.keepIn K (.ref f26) = true)
    {f27 : Addr} {od27 an27 : Option Addr} {sl27 : Array (Option Value)} {oc27 kV27 dc27 pm27 cd27 ct27 : Value}
    (a27 : PySem.W.nsIn K mainGlobals "parts_at" = some (some (.ref f27)))
    (l27 : K.lookup f27 = some ⟨oc27, od27, .func (PySem.W.fnOf "parts_at" "parts_at" (defArgs s_parts_at) (defBody s_parts_at) (defScope s_parts_at) .none kV27 dc27 pm27 an27 cd27 ct27), sl27⟩) (c27 : PySem.W.codeIn K cd27 "parts_at" = true) (k27 : PySem.W.keepIn K (.ref f27) = true)
    {f28 : Addr} {od28 an28 : Option Addr} {sl28 : Array (Option Value)} {oc28 kV28 dc28 pm28 cd28 ct28 : Value}
    (a28 : PySem.W.nsIn K mainGlobals "law" = some (some (.ref f28)))
    (l28 : K.lookup f28 = some ⟨oc28, od28, .func (PySem.W.fnOf "law" "law" (defArgs s_law) (defBody s_law) (defScope s_law) .none kV28 dc28 pm28 an28 cd28 ct28), sl28⟩) (c28 : PySem.W.codeIn K cd28 "law" = true) (k28 : PySem.W.keepIn K (.ref f28) = true)
    (z0 : PySem.W.nsIn K mainGlobals "abs" = some none)
    (z1 : PySem.W.nsIn K mainGlobals "len" = some none)
    (z2 : PySem.W.nsIn K mainGlobals "isinstance" = some none)
    (z3 : PySem.W.nsIn K mainGlobals "all" = some none)
    (z4 : PySem.W.nsIn K mainGlobals "any" = some none)
    (z5 : PySem.W.nsIn K mainGlobals "sum" = some none)
    (z6 : PySem.W.nsIn K mainGlobals "list" = some none)
    (z7 : PySem.W.nsIn K mainGlobals "tuple" = some none)
    (z8 : PySem.W.nsIn K mainGlobals "int" = some none)
    (z9 : PySem.W.nsIn K mainGlobals "bool" = some none)
    (z10 : PySem.W.nsIn K mainGlobals "str" = some none)
    (z11 : PySem.W.nsIn K mainGlobals "min" = some none)
    (z12 : PySem.W.nsIn K mainGlobals "max" = some none)
    (z13 : PySem.W.nsIn K mainGlobals "range" = some none)
    (z14 : PySem.W.nsIn K mainGlobals "zip" = some none)
    (z15 : PySem.W.nsIn K mainGlobals "sorted" = some none)
    (z16 : PySem.W.nsIn K mainGlobals "enumerate" = some none)
    (z17 : PySem.W.nsIn K mainGlobals "divmod" = some none)
    : ∃ fd : FuncData, (∀ (s : Shared) (v : Value), BindsTo s fd ⟨[v], []⟩ [("_law_script", v)]) ∧ ∀ base : Heap, K.In base → base.Ns mainGlobals mg → FnOk l.prog w K mg base CX0 9 fa fd ["_law_script"] (upF 1 K sp_law) := by
  have e := hfa.symm.trans (PySem.W.mg_of X G a28)
  cases e
  have B : Blt mg := ⟨PySem.W.mg_none_of X G z0, PySem.W.mg_none_of X G z1, PySem.W.mg_none_of X G z2, PySem.W.mg_none_of X G z3, PySem.W.mg_none_of X G z4, PySem.W.mg_none_of X G z5, PySem.W.mg_none_of X G z6, PySem.W.mg_none_of X G z7, PySem.W.mg_none_of X G z8, PySem.W.mg_none_of X G z9, PySem.W.mg_none_of X G z10, PySem.W.mg_none_of X G z11, PySem.W.mg_none_of X G z12, PySem.W.mg_none_of X G z13, PySem.W.mg_none_of X G z14, PySem.W.mg_none_of X G z15, PySem.W.mg_none_of X G z16, PySem.W.mg_none_of X G z17⟩
  have CL_Parting : ClsAt K mg "Parting" C_Parting ["told", "rest"] := ⟨⟨pg0, hd0, po0, sa0⟩, PySem.W.mg_of X G aC0, (List.forall_mem_cons.mpr ⟨n0_0, (List.forall_mem_cons.mpr ⟨n0_1, (fun _ h => nomatch h)⟩)⟩)⟩
  have U0 := fun_mk (st := s__law_begin) l0 c0 k0
  have T0 : DefAt K mg "_law_begin" s__law_begin ["_law_script"] := ⟨_, _, U0, PySem.W.mg_of X G a0, U0.binds (ps := ["_law_script"]) fun _ _ _ _ _ _ us hl => match us, hl with | [_], _ => rfl⟩
  have U1 := fun_mk (st := s__law_same) l1 c1 k1
  have T1 : DefAt K mg "_law_same" s__law_same ["_law_found", "_law_due"] := ⟨_, _, U1, PySem.W.mg_of X G a1, U1.binds (ps := ["_law_found", "_law_due"]) fun _ _ _ _ _ _ us hl => match us, hl with | [_, _], _ => rfl⟩
  have U2 := fun_mk (st := s_divisor_of) l2 c2 k2
  have T2 : DefAt K mg "divisor_of" s_divisor_of ["one", "other"] := ⟨_, _, U2, PySem.W.mg_of X G a2, U2.binds (ps := ["one", "other"]) fun _ _ _ _ _ _ us hl => match us, hl with | [_, _], _ => rfl⟩
  have U3 := fun_mk (st := s_fraction_of) l3 c3 k3
  have T3 : DefAt K mg "fraction_of" s_fraction_of ["top", "below"] := ⟨_, _, U3, PySem.W.mg_of X G a3, U3.binds (ps := ["top", "below"]) fun _ _ _ _ _ _ us hl => match us, hl with | [_, _], _ => rfl⟩
  have U4 := fun_mk (st := s_taken_from) l4 c4 k4
  have T4 : DefAt K mg "taken_from" s_taken_from ["one", "other"] := ⟨_, _, U4, PySem.W.mg_of X G a4, U4.binds (ps := ["one", "other"]) fun _ _ _ _ _ _ us hl => match us, hl with | [_, _], _ => rfl⟩
  have U5 := fun_mk (st := s_rows_by) l5 c5 k5
  have T5 : DefAt K mg "rows_by" s_rows_by ["rows", "kind"] := ⟨_, _, U5, PySem.W.mg_of X G a5, U5.binds (ps := ["rows", "kind"]) fun _ _ _ _ _ _ us hl => match us, hl with | [_, _], _ => rfl⟩
  have U6 := fun_mk (st := s_Parting_give) l6 c6 k6
  have T6 : MethAt K C_Parting "give" "Parting.give" s_Parting_give ["self", "name", "part"] := ⟨_, _, U6, ⟨a6, i6, k6⟩, U6.binds (ps := ["self", "name", "part"]) fun _ _ _ _ _ _ us hl => match us, hl with | [_, _, _], _ => rfl⟩
  have U7 := fun_mk (st := s_product_of) l7 c7 k7
  have T7 : DefAt K mg "product_of" s_product_of ["one", "other"] := ⟨_, _, U7, PySem.W.mg_of X G a7, U7.binds (ps := ["one", "other"]) fun _ _ _ _ _ _ us hl => match us, hl with | [_, _], _ => rfl⟩
  have U8 := fun_mk (st := s_Parting_by_lengths) l8 c8 k8
  have T8 : MethAt K C_Parting "by_lengths" "Parting.by_lengths" s_Parting_by_lengths ["self", "rows"] := ⟨_, _, U8, ⟨a8, i8, k8⟩, U8.binds (ps := ["self", "rows"]) fun _ _ _ _ _ _ us hl => match us, hl with | [_, _], _ => rfl⟩
  have U9 := fun_mk (st := s_sum_of) l9 c9 k9
  have T9 : DefAt K mg "sum_of" s_sum_of ["parts"] := ⟨_, _, U9, PySem.W.mg_of X G a9, U9.binds (ps := ["parts"]) fun _ _ _ _ _ _ us hl => match us, hl with | [_], _ => rfl⟩
  have U10 := fun_mk (st := s_part_at) l10 c10 k10
  have T10 : DefAt K mg "part_at" s_part_at ["rates", "unit"] := ⟨_, _, U10, PySem.W.mg_of X G a10, U10.binds (ps := ["rates", "unit"]) fun _ _ _ _ _ _ us hl => match us, hl with | [_, _], _ => rfl⟩
  have U11 := fun_mk (st := s_Parting___init__) l11 c11 k11
  have T11 : InitAt K C_Parting "Parting.__init__" s_Parting___init__ ["self", "rows", "unit"] := ⟨_, _, U11, ⟨mk0, a11, i11, kc0⟩, U11.binds (ps := ["self", "rows", "unit"]) fun _ _ _ _ _ _ us hl => match us, hl with | [_, _, _], _ => rfl⟩
  have U12 := fun_mk (st := s_waits_at) l12 c12 k12
  have T12 : DefAt K mg "waits_at" s_waits_at ["rows", "unit"] := ⟨_, _, U12, PySem.W.mg_of X G a12, U12.binds (ps := ["rows", "unit"]) fun _ _ _ _ _ _ us hl => match us, hl with | [_, _], _ => rfl⟩
  have U13 := fun_mk (st := s__law_take) l13 c13 k13
  have T13 : DefAt K mg "_law_take" s__law_take ["_law_state", "_law_many"] := ⟨_, _, U13, PySem.W.mg_of X G a13, U13.binds (ps := ["_law_state", "_law_many"]) fun _ _ _ _ _ _ us hl => match us, hl with | [_, _], _ => rfl⟩
  have U14 := fun_mk (st := s__law_lowest) l14 c14 k14
  have T14 : DefAt K mg "_law_lowest" s__law_lowest ["_law_top", "_law_below"] := ⟨_, _, U14, PySem.W.mg_of X G a14, U14.binds (ps := ["_law_top", "_law_below"]) fun _ _ _ _ _ _ us hl => match us, hl with | [_, _], _ => rfl⟩
  have U15 := fun_mk (st := s__law_part) l15 c15 k15
  have T15 : DefAt K mg "_law_part" s__law_part ["_law_state"] := ⟨_, _, U15, PySem.W.mg_of X G a15, U15.binds (ps := ["_law_state"]) fun _ _ _ _ _ _ us hl => match us, hl with | [_], _ => rfl⟩
  have U16 := fun_mk (st := s__law_row) l16 c16 k16
  have T16 : DefAt K mg "_law_row" s__law_row ["_law_state", "_law_name", "_law_room"] := ⟨_, _, U16, PySem.W.mg_of X G a16, U16.binds (ps := ["_law_state", "_law_name", "_law_room"]) fun _ _ _ _ _ _ us hl => match us, hl with | [_, _, _], _ => rfl⟩
  have U17 := fun_mk (st := s__law_rows) l17 c17 k17
  have T17 : DefAt K mg "_law_rows" s__law_rows ["_law_state", "_law_names_here", "_law_many"] := ⟨_, _, U17, PySem.W.mg_of X G a17, U17.binds (ps := ["_law_state", "_law_names_here", "_law_many"]) fun _ _ _ _ _ _ us hl => match us, hl with | [_, _, _], _ => rfl⟩
  have U18 := fun_mk (st := s__law_names) l18 c18 k18
  have T18 : DefAt K mg "_law_names" s__law_names ["_law_state", "_law_many"] := ⟨_, _, U18, PySem.W.mg_of X G a18, U18.binds (ps := ["_law_state", "_law_many"]) fun _ _ _ _ _ _ us hl => match us, hl with | [_, _], _ => rfl⟩
  have U19 := fun_mk (st := s__law_some_rows) l19 c19 k19
  have T19 : DefAt K mg "_law_some_rows" s__law_some_rows ["_law_state"] := ⟨_, _, U19, PySem.W.mg_of X G a19, U19.binds (ps := ["_law_state"]) fun _ _ _ _ _ _ us hl => match us, hl with | [_], _ => rfl⟩
  have U20 := fun_mk (st := s__law_whole) l20 c20 k20
  have T20 : DefAt K mg "_law_whole" s__law_whole ["_law_state"] := ⟨_, _, U20, PySem.W.mg_of X G a20, U20.binds (ps := ["_law_state"]) fun _ _ _ _ _ _ us hl => match us, hl with | [_], _ => rfl⟩
  have U21 := fun_mk (st := s__law_units) l21 c21 k21
  have T21 : DefAt K mg "_law_units" s__law_units ["_law_state", "_law_rows_here"] := ⟨_, _, U21, PySem.W.mg_of X G a21, U21.binds (ps := ["_law_state", "_law_rows_here"]) fun _ _ _ _ _ _ us hl => match us, hl with | [_, _], _ => rfl⟩
  have U22 := fun_mk (st := s__law_sum) l22 c22 k22
  have T22 : DefAt K mg "_law_sum" s__law_sum ["_law_parts"] := ⟨_, _, U22, PySem.W.mg_of X G a22, U22.binds (ps := ["_law_parts"]) fun _ _ _ _ _ _ us hl => match us, hl with | [_], _ => rfl⟩
  have U23 := fun_mk (st := s__law_times) l23 c23 k23
  have T23 : DefAt K mg "_law_times" s__law_times ["_law_one", "_law_other"] := ⟨_, _, U23, PySem.W.mg_of X G a23, U23.binds (ps := ["_law_one", "_law_other"]) fun _ _ _ _ _ _ us hl => match us, hl with | [_, _], _ => rfl⟩
  have U24 := fun_mk (st := s__law_parted) l24 c24 k24
  have T24 : DefAt K mg "_law_parted" s__law_parted ["_law_rows_here", "_law_unit"] := ⟨_, _, U24, PySem.W.mg_of X G a24, U24.binds (ps := ["_law_rows_here", "_law_unit"]) fun _ _ _ _ _ _ us hl => match us, hl with | [_, _], _ => rfl⟩
  have U25 := fun_mk (st := s_is_less) l25 c25 k25
  have T25 : DefAt K mg "is_less" s_is_less ["one", "other"] := ⟨_, _, U25, PySem.W.mg_of X G a25, U25.binds (ps := ["one", "other"]) fun _ _ _ _ _ _ us hl => match us, hl with | [_, _], _ => rfl⟩
  have U26 := fun_mk (st := s_Parting_pairs) l26 c26 k26
  have T26 : MethAt K C_Parting "pairs" "Parting.pairs" s_Parting_pairs ["self"] := ⟨_, _, U26, ⟨a26, i26, k26⟩, U26.binds (ps := ["self"]) fun _ _ _ _ _ _ us hl => match us, hl with | [_], _ => rfl⟩
  have U27 := fun_mk (st := s_parts_at) l27 c27 k27
  have T27 : DefAt K mg "parts_at" s_parts_at ["rows", "unit"] := ⟨_, _, U27, PySem.W.mg_of X G a27, U27.binds (ps := ["rows", "unit"]) fun _ _ _ _ _ _ us hl => match us, hl with | [_, _], _ => rfl⟩
  have U28 := fun_mk (st := s_law) l28 c28 k28
  refine ⟨PySem.W.fnOf "law" "law" (defArgs s_law) (defBody s_law) (defScope s_law) .none kV28 dc28 pm28 an28 cd28 ct28, fun s v => .of_eq rfl, fun base _ _ => ?_⟩
  have R0 : FnAt l.prog w K mg base CX0 1 "_law_begin" 1 sp__law_begin := ok__law_begin T0 B 
  have R1 : FnAt l.prog w K mg base CX0 6 "_law_same" 2 sp__law_same := ok__law_same T1 B 
  have R2 : FnAt l.prog w K mg base CX0 1 "divisor_of" 2 sp_divisor_of := ok_divisor_of T2 B 
  have R3 : FnAt l.prog w K mg base CX0 2 "fraction_of" 2 sp_fraction_of := ok_fraction_of T3 B R2
  have R4 : FnAt l.prog w K mg base CX0 3 "taken_from" 2 sp_taken_from := ok_taken_from T4 B R3
  have R5 : FnAt l.prog w K mg base CX0 1 "rows_by" 2 sp_rows_by := ok_rows_by T5 B 
  have R6 : MtAt l.prog w K mg base CX0 4 C_Parting "give" 3 (sp_Parting_give C_Parting) := ok_Parting_give CL_Parting R4 T6 B
  have R7 : FnAt l.prog w K mg base CX0 3 "product_of" 2 sp_product_of := ok_product_of T7 B R3
  have R8 : MtAt l.prog w K mg base CX0 5 C_Parting "by_lengths" 2 (sp_Parting_by_lengths C_Parting) := ok_Parting_by_lengths CL_Parting R6 R7 R3 T8 B
  have R9 : FnAt l.prog w K mg base CX0 3 "sum_of" 1 sp_sum_of := ok_sum_of T9 B R3
  have R10 : FnAt l.prog w K mg base CX0 1 "part_at" 2 sp_part_at := ok_part_at T10 B 
  have R11 : InAt l.prog w K mg base CX0 6 C_Parting 3 (sp_Parting___init__ C_Parting) := ok_Parting___init__ CL_Parting R4 R5 R8 R9 R6 R7 R10 T11 B
  have R12 : FnAt l.prog w K mg base CX0 8 "waits_at" 2 sp_waits_at := ok_waits_at T12 B CL_Parting R11
  have R13 : FnAt l.prog w K mg base CX0 1 "_law_take" 2 sp__law_take := ok__law_take T13 B 
  have R14 : FnAt l.prog w K mg base CX0 1 "_law_lowest" 2 sp__law_lowest := ok__law_lowest T14 B 
  have R15 : FnAt l.prog w K mg base CX0 2 "_law_part" 1 sp__law_part := ok__law_part T15 B R14 R13
  have R16 : FnAt l.prog w K mg base CX0 3 "_law_row" 3 sp__law_row := ok__law_row T16 B R13 R14 R15
  have R17 : FnAt l.prog w K mg base CX0 4 "_law_rows" 3 sp__law_rows := ok__law_rows T17 B R16 R13
  have R18 : FnAt l.prog w K mg base CX0 2 "_law_names" 2 sp__law_names := ok__law_names T18 B R13
  have R19 : FnAt l.prog w K mg base CX0 5 "_law_some_rows" 1 sp__law_some_rows := ok__law_some_rows T19 B R17 R18 R13
  have R20 : FnAt l.prog w K mg base CX0 3 "_law_whole" 1 sp__law_whole := ok__law_whole T20 B R18 R13
  have R21 : FnAt l.prog w K mg base CX0 2 "_law_units" 2 sp__law_units := ok__law_units T21 B R13
  have R22 : FnAt l.prog w K mg base CX0 2 "_law_sum" 1 sp__law_sum := ok__law_sum T22 B R14
  have R23 : FnAt l.prog w K mg base CX0 2 "_law_times" 2 sp__law_times := ok__law_times T23 B R14
  have R24 : FnAt l.prog w K mg base CX0 3 "_law_parted" 2 sp__law_parted := ok__law_parted T24 B R22 R23
  have R25 : FnAt l.prog w K mg base CX0 1 "is_less" 2 sp_is_less := ok_is_less T25 B 
  have R26 : MtAt l.prog w K mg base CX0 4 C_Parting "pairs" 1 (sp_Parting_pairs C_Parting) := ok_Parting_pairs CL_Parting R25 R9 T26 B
  have R27 : FnAt l.prog w K mg base CX0 8 "parts_at" 2 sp_parts_at := ok_parts_at T27 B CL_Parting R26 R11
  exact ok_law U28 B R0 R1 R12 R19 R20 R21 R22 R24 R27
end LW

open PySem PySem.W PyProof.Rows
set_option maxHeartbeats 0 in
theorem PySem.Challenge.cw_royaltree_k09_what_waits_holds : PySem.Challenge.rw_royaltree_k09_what_waits.Holds := by
  w_on; o_law; k_head; (case hw => w_witness2)
  k_fill
  refine L2.walk_of (l := PySem.Challenge.rw_royaltree_k09_what_waits) (n := 63) (k := 9) (x := "_law_script") (CX := fun _ => L2.CX0) (sp := fun w => DL.upF 1 _ LW.sp_law) rfl (by decide) rfl ⟨rfl, by decide, by decide⟩ (fun w h Y => PySem.W.kIn_of Y) ?F (fun _ _ a ns hl _ hS => DL.law_start hl hS) (fun _ _ _ _ _ h => h)
  case F =>
    intro w mg fa h KX G hmg
    refine' LW.all_mk KX G hmg ?aC0 ?pg0 ?hd0 ?po0 ?sa0 ?mk0 ?kc0 ?n0_0 ?n0_1 ?a0 ?l0 ?c0 ?k0 ?a1 ?l1 ?c1 ?k1 ?a2 ?l2 ?c2 ?k2 ?a3 ?l3 ?c3 ?k3 ?a4 ?l4 ?c4 ?k4 ?a5 ?l5 ?c5 ?k5 ?a6 ?i6 ?l6 ?c6 ?k6 ?a7 ?l7 ?c7 ?k7 ?a8 ?i8 ?l8 ?c8 ?k8 ?a9 ?l9 ?c9 ?k9 ?a10 ?l10 ?c10 ?k10 ?a11 ?i11 ?l11 ?c11 ?k11 ?a12 ?l12 ?c12 ?k12 ?a13 ?l13 ?c13 ?k13 ?a14 ?l14 ?c14 ?k14 ?a15 ?l15 ?c15 ?k15 ?a16 ?l16 ?c16 ?k16 ?a17 ?l17 ?c17 ?k17 ?a18 ?l18 ?c18 ?k18 ?a19 ?l19 ?c19 ?k19 ?a20 ?l20 ?c20 ?k20 ?a21 ?l21 ?c21 ?k21 ?a22 ?l22 ?c22 ?k22 ?a23 ?l23 ?c23 ?k23 ?a24 ?l24 ?c24 ?k24 ?a25 ?l25 ?c25 ?k25 ?a26 ?i26 ?l26 ?c26 ?k26 ?a27 ?l27 ?c27 ?k27 ?a28 ?l28 ?c28 ?k28 ?z0 ?z1 ?z2 ?z3 ?z4 ?z5 ?z6 ?z7 ?z8 ?z9 ?z10 ?z11 ?z12 ?z13 ?z14 ?z15 ?z16 ?z17
    (case aC0 => k_is); (case pg0 => k_is); (case hd0 => k_is); (case po0 => k_is); (case sa0 => k_is); (case mk0 => k_is); (case kc0 => k_is); (case n0_0 => k_is); (case n0_1 => k_is); (case a0 => k_is); (case l0 => k_is); (case c0 => k_is); (case k0 => k_is); (case a1 => k_is); (case l1 => k_is); (case c1 => k_is); (case k1 => k_is); (case a2 => k_is); (case l2 => k_is); (case c2 => k_is); (case k2 => k_is); (case a3 => k_is); (case l3 => k_is); (case c3 => k_is); (case k3 => k_is); (case a4 => k_is); (case l4 => k_is); (case c4 => k_is); (case k4 => k_is); (case a5 => k_is); (case l5 => k_is); (case c5 => k_is); (case k5 => k_is); (case a6 => k_is); (case i6 => k_is); (case l6 => k_is); (case c6 => k_is); (case k6 => k_is); (case a7 => k_is); (case l7 => k_is); (case c7 => k_is); (case k7 => k_is); (case a8 => k_is); (case i8 => k_is); (case l8 => k_is); (case c8 => k_is); (case k8 => k_is); (case a9 => k_is); (case l9 => k_is); (case c9 => k_is); (case k9 => k_is); (case a10 => k_is); (case l10 => k_is); (case c10 => k_is); (case k10 => k_is); (case a11 => k_is); (case i11 => k_is); (case l11 => k_is); (case c11 => k_is); (case k11 => k_is); (case a12 => k_is); (case l12 => k_is); (case c12 => k_is); (case k12 => k_is); (case a13 => k_is); (case l13 => k_is); (case c13 => k_is); (case k13 => k_is); (case a14 => k_is); (case l14 => k_is); (case c14 => k_is); (case k14 => k_is); (case a15 => k_is); (case l15 => k_is); (case c15 => k_is); (case k15 => k_is); (case a16 => k_is); (case l16 => k_is); (case c16 => k_is); (case k16 => k_is); (case a17 => k_is); (case l17 => k_is); (case c17 => k_is); (case k17 => k_is); (case a18 => k_is); (case l18 => k_is); (case c18 => k_is); (case k18 => k_is); (case a19 => k_is); (case l19 => k_is); (case c19 => k_is); (case k19 => k_is); (case a20 => k_is); (case l20 => k_is); (case c20 => k_is); (case k20 => k_is); (case a21 => k_is); (case l21 => k_is); (case c21 => k_is); (case k21 => k_is); (case a22 => k_is); (case l22 => k_is); (case c22 => k_is); (case k22 => k_is); (case a23 => k_is); (case l23 => k_is); (case c23 => k_is); (case k23 => k_is); (case a24 => k_is); (case l24 => k_is); (case c24 => k_is); (case k24 => k_is); (case a25 => k_is); (case l25 => k_is); (case c25 => k_is); (case k25 => k_is); (case a26 => k_is); (case i26 => k_is); (case l26 => k_is); (case c26 => k_is); (case k26 => k_is); (case a27 => k_is); (case l27 => k_is); (case c27 => k_is); (case k27 => k_is); (case a28 => k_is); (case l28 => k_is); (case c28 => k_is); (case k28 => k_is); (case z0 => k_is); (case z1 => k_is); (case z2 => k_is); (case z3 => k_is); (case z4 => k_is); (case z5 => k_is); (case z6 => k_is); (case z7 => k_is); (case z8 => k_is); (case z9 => k_is); (case z10 => k_is); (case z11 => k_is); (case z12 => k_is); (case z13 => k_is); (case z14 => k_is); (case z15 => k_is); (case z16 => k_is); (case z17 => k_is)



